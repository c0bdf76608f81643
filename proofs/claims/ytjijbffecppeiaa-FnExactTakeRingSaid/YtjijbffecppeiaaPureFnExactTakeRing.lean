/- The pure statement of the law 'FnExactTakeRing', proved: over numbers, lists and texts alone. No condition. -/
import Derived.Test.YtjijbffecppeiaaStFnExactTakeRing
import Derived.Laws.BitsLemmas
namespace Go.Proofs.Ytjijbffecppeiaa.Pure
open Go.RowKit Go.Proofs.Ytjijbffecppeiaa.QFnExactTakeRing Go.Proofs.YtjijbffecppeiaaW.PrintWords Go.Proofs.YtjijbffecppeiaaW.PrintLast Go.Proofs.YtjijbffecppeiaaW.PrintMore Go.Proofs.Ytjijbffecppeiaa.StFnExactTakeRing Go.Proofs.Ytjijbffecppeiaa.Opens
set_option linter.unusedVariables false
set_option linter.unusedSimpArgs false

/-! ### base -/
theorem w64 {x : Int} (h0 : -9223372036854775808 ≤ x) (h1 : x ≤ 9223372036854775807) : wrap64 x = x := by unfold wrap64; omega
theorem w64_range (x : Int) : -9223372036854775808 ≤ wrap64 x ∧ wrap64 x ≤ 9223372036854775807 := by unfold wrap64; omega
theorem ip {α : Type} {c : Prop} [Decidable c] {a b : α} (h : c) : (if c then a else b) = a := if_pos h
theorem ineg {α : Type} {c : Prop} [Decidable c] {a b : α} (h : ¬ c) : (if c then a else b) = b := if_neg h
theorem wf_range {n : Int} (h : (Lit.int .i64 n).wf = true) : -9223372036854775808 ≤ n ∧ n ≤ 9223372036854775807 := by
  simp only [Lit.wf, IntKind.min, IntKind.max, IntKind.signed, IntKind.bits, Bool.and_eq_true, decide_eq_true_eq, if_true] at h
  omega
theorem wf_u8 {n : Int} (h : (Lit.int .u8 n).wf = true) : 0 ≤ n ∧ n ≤ 255 := by
  simp [Lit.wf, IntKind.min, IntKind.max, IntKind.signed, IntKind.bits] at h
  omega
theorem and_low (x : Int) (i : Nat) (hi : i ≤ 62) : Go.bits .and .i64 x (2 ^ i - 1) = x % 2 ^ i := by
  have hpos : 0 < 2 ^ i := Nat.two_pow_pos i
  have hc : ((2 : Int) ^ i - 1) = ((2 ^ i - 1 : Nat) : Int) := by rw [Int.natCast_sub hpos]; simp
  have h62 : 2 ^ i ≤ 2 ^ 62 := Nat.pow_le_pow_right (by decide) hi
  have hlt : 2 ^ i - 1 < 2 ^ 64 := by omega
  have hd : (2 ^ i : Nat) ∣ 2 ^ 64 := Nat.pow_dvd_pow 2 (by omega)
  rw [hc]
  simp only [Go.bits, BitVec.ofInt_natCast, BitVec.toNat_and, BitVec.toNat_ofNat, BitVec.toNat_ofInt]
  simp only [show IntKind.i64.bits = 64 from rfl]
  rw [Nat.mod_eq_of_lt hlt, Nat.and_two_pow_sub_one_eq_mod]
  have h1 : (((x % ((2 ^ 64 : Nat) : Int)).toNat % 2 ^ i : Nat) : Int) = x % 2 ^ i := by
    rw [Int.natCast_emod, Int.toNat_of_nonneg (Int.emod_nonneg _ (by decide))]
    rw [Int.natCast_pow]
    exact Int.emod_emod_of_dvd _ (by
      have : (((2 ^ i : Nat) : Int)) ∣ ((2 ^ 64 : Nat) : Int) := Int.natCast_dvd_natCast.2 hd
      simpa using this)
  rw [h1]
  have h2 : 0 ≤ x % 2 ^ i := Int.emod_nonneg _ (by
    have : (0 : Int) < 2 ^ i := by exact_mod_cast hpos
    omega)
  have h3 : x % 2 ^ i < 2 ^ i := Int.emod_lt_of_pos _ (by exact_mod_cast hpos)
  have h4 : (2 : Int) ^ i ≤ 2 ^ 62 := by exact_mod_cast h62
  rw [IntKind.wrap_i64]
  omega
theorem and255 (x : Int) : Go.bits .and .i64 x 255 = x % 256 := and_low x 8 (by omega)
theorem and65535 (x : Int) : Go.bits .and .i64 x 65535 = x % 65536 := and_low x 16 (by omega)
theorem and30 (x : Int) : Go.bits .and .i64 x 1073741823 = x % 1073741824 := and_low x 30 (by omega)
theorem and1 (x : Int) : Go.bits .and .i64 x 1 = x % 2 := and_low x 1 (by omega)
/-- A law's last step: both are one. -/
theorem same_end {v : Bool} : (if (v != v) = true then some false else some true : Option Bool) = some true := by simp
theorem Ev.ex {α : Type} {g : Nat → Option α} {r : α} (h : Ev g r) : ∃ k, g k = some r := h.rounds
theorem Ev.from_ {α : Type} {g : Nat → Option α} {r : α} (K : Nat) (h : ∀ k, K ≤ k → g k = some r) : Ev g r := ⟨K, h⟩
theorem Ev.both {α β : Type} {g : Nat → Option α} {f : Nat → Option β} {r : α} {q : β} (h : Ev g r) (h' : Ev f q) : ∃ K, ∀ k, K ≤ k → g k = some r ∧ f k = some q := by
  obtain ⟨K, h⟩ := h
  obtain ⟨K', h'⟩ := h'
  exact ⟨K + K', fun k hk => ⟨h k (by omega), h' k (by omega)⟩⟩

/-! ### loops -/
/-- A loop upward whose rounds do nothing but go on. -/
theorem up_loop {β : Type} {F : Nat → Int → Option β} {n : Nat} {r : β} (hs : ∀ k (j : Nat), j < n → F (k + 1) (j : Int) = F k ((j + 1 : Nat) : Int)) (he : ∀ k, F (k + 1) (n : Int) = some r) :
    ∀ (d j : Nat), n - j = d → j ≤ n → ∀ k, d < k → F k (j : Int) = some r := by
  intro d
  induction d with
  | zero =>
    intro j hd hj k hk
    obtain ⟨k, rfl⟩ : ∃ m, k = m + 1 := ⟨k - 1, by omega⟩
    obtain rfl : j = n := by omega
    exact he k
  | succ d ih =>
    intro j hd hj k hk
    obtain ⟨k, rfl⟩ : ∃ m, k = m + 1 := ⟨k - 1, by omega⟩
    rw [hs k j (by omega)]
    exact ih (j + 1) (by omega) (by omega) k (by omega)
/-- A loop that turns each element of a list into one of a list that was made. -/
theorem map_loop {α β : Type} {F : Nat → List β → Int → Option (List β)} {g : α → β} {l : List α}
    (hs : ∀ k (acc : List β) (j : Nat) (hj : j < l.length), acc.length = l.length → F (k + 1) acc (j : Int) = F k (acc.set j (g l[j])) ((j + 1 : Nat) : Int))
    (he : ∀ k (acc : List β), F (k + 1) acc (l.length : Int) = some acc) :
    ∀ (d j : Nat) (acc : List β), l.length - j = d → j ≤ l.length → acc.length = l.length → (∀ i, i < j → acc[i]? = (l[i]?).map g) → ∀ k, d < k → F k acc (j : Int) = some (l.map g) := by
  intro d
  induction d with
  | zero =>
    intro j acc hd hj hl ha k hk
    obtain ⟨k, rfl⟩ : ∃ m, k = m + 1 := ⟨k - 1, by omega⟩
    obtain rfl : j = l.length := by omega
    rw [he]
    congr 1
    apply List.ext_getElem?
    intro i
    rw [List.getElem?_map]
    by_cases hi : i < l.length
    · exact ha i hi
    · rw [List.getElem?_eq_none (by omega), List.getElem?_eq_none (by omega)]; rfl
  | succ d ih =>
    intro j acc hd hj hl ha k hk
    obtain ⟨k, rfl⟩ : ∃ m, k = m + 1 := ⟨k - 1, by omega⟩
    have hjl : j < l.length := by omega
    rw [hs k acc j hjl hl]
    refine ih (j + 1) _ (by omega) (by omega) (by rw [List.length_set]; exact hl) (fun i hi => ?_) k (by omega)
    by_cases hij : i = j
    · subst hij
      rw [List.getElem?_set_self (by omega), List.getElem?_eq_getElem hjl]
      rfl
    · rw [List.getElem?_set_ne (fun h => hij h.symm)]
      exact ha i (by omega)
theorem getD_at {α : Type} {l : List α} {j : Nat} (z : α) (h : j < l.length) : l.getD (j : Int).toNat z = l[j] := by
  simp [List.getD_eq_getElem?_getD, List.getElem?_eq_getElem h]

/-! ### sz -/
theorem sz_loop {α : Type} {F : Nat → Int → Int → Option Int} {g : α → Int → Option Int} {l : List α} {P : α → Prop}
    (hs : ∀ k (left : Int) (j : Nat) (hj : j < l.length), l.length ≤ 2000000 → F (k + 1) left (j : Int) = (g l[j] left).bind fun t => if t < 0 then some (-1) else F k t ((j + 1 : Nat) : Int))
    (he : ∀ k (left : Int), F (k + 1) left (l.length : Int) = some left)
    (hg : ∀ x ∈ l, ∀ left : Int, 0 ≤ left → left ≤ 1048576 → ∃ t, g x left = some t ∧ (t < 0 ∨ (0 ≤ t ∧ t ≤ left ∧ P x))) (hl : l.length ≤ 2000000) :
    ∀ (d j : Nat) (left : Int), l.length - j = d → j ≤ l.length → 0 ≤ left → left ≤ 1048576 → ∃ t, (∀ k, d < k → F k left (j : Int) = some t) ∧ (t < 0 ∨ (0 ≤ t ∧ t ≤ left ∧ ∀ i (hi : i < l.length), j ≤ i → P l[i])) := by
  intro d
  induction d with
  | zero =>
    intro j left hd hj h0 h1
    obtain rfl : j = l.length := by omega
    refine ⟨left, fun k hk => ?_, .inr ⟨h0, Int.le_refl _, fun i hi h => absurd hi (by omega)⟩⟩
    obtain ⟨k, rfl⟩ : ∃ m, k = m + 1 := ⟨k - 1, by omega⟩
    exact he k left
  | succ d ih =>
    intro j left hd hj h0 h1
    have hjl : j < l.length := by omega
    obtain ⟨t, ht, hc⟩ := hg l[j] (List.getElem_mem _) left h0 h1
    rcases hc with hc | ⟨h2, h3, hP⟩
    · refine ⟨-1, fun k hk => ?_, .inl (by omega)⟩
      obtain ⟨k, rfl⟩ : ∃ m, k = m + 1 := ⟨k - 1, by omega⟩
      rw [hs k left j hjl hl, ht]
      simp only [Option.bind_some]
      rw [if_pos hc]
    · obtain ⟨t2, ih1, ih2⟩ := ih (j + 1) t (by omega) (by omega) h2 (by omega)
      refine ⟨t2, fun k hk => ?_, ?_⟩
      · obtain ⟨k, rfl⟩ : ∃ m, k = m + 1 := ⟨k - 1, by omega⟩
        rw [hs k left j hjl hl, ht]
        simp only [Option.bind_some]
        rw [if_neg (by omega)]
        exact ih1 k (by omega)
      · rcases ih2 with h4 | ⟨h4, h5, h6⟩
        · exact .inl h4
        · refine .inr ⟨h4, by omega, fun i hi hji => ?_⟩
          by_cases hij : i = j
          · subst hij; exact hP
          · exact h6 i hi (by omega)

/-! ### c_Slot -/
def conSlot (x : S185) : S144 := ⟨x.f0, x.f1⟩
theorem toSlotS_ok (l : List S185) (hl : l.length ≤ 1048576) : ∀ k, l.length < k → laws_toSlotS.f k l = some (l.map conSlot) := by
  intro k hk
  unfold laws_toSlotS.f
  rw [if_pos (by omega), if_pos (by omega)]
  refine map_loop (F := fun k acc j => laws_toSlotS.l0 k l acc j) ?_ ?_ l.length 0 _ (by omega) (by omega) (by simp) (fun i hi => absurd hi (by omega)) k hk
  · intro k acc j hj ha
    simp only [laws_toSlotS.l0, laws_toSlot.f, Option.bind_some]
    rw [if_pos (by omega), if_pos (by omega), if_pos (by omega), w64 (by omega) (by omega)]
    unfold rd_T185
    rw [getD_at _ hj]
    rfl
  · intro k acc
    simp only [laws_toSlotS.l0]
    rw [if_neg (by omega)]
theorem szSlotS_ok (l : List S185) (hl : l.length ≤ maxLen) (hw : ∀ x ∈ l, wf185 x) (left : Int) (h0 : 0 ≤ left) (h1 : left ≤ 1048576) :
    ∃ t, (∀ k, l.length < k → laws_szSlotS.f k l left = some t) ∧ (t < 0 ∨ (0 ≤ t ∧ t ≤ left ∧ l.length ≤ 1048576 ∧ ∀ x ∈ l, x.f1.size ≤ 1048576)) := by
  simp only [maxLen] at hl
  unfold laws_szSlotS.f
  rw [w64 (by omega) (by omega)]
  by_cases hc : left - (l.length : Int) < 0
  · exact ⟨-1, fun k _ => by rw [if_pos hc], .inl (by omega)⟩
  · simp only [if_neg hc]
    have hgg : ∀ x ∈ l, ∀ left : Int, 0 ≤ left → left ≤ 1048576 → ∃ t, laws_szSlot.f x.f0 x.f1 left = some t ∧ (t < 0 ∨ (0 ≤ t ∧ t ≤ left ∧ x.f1.size ≤ 1048576)) := by
      intro x hx left h0 h1
      have hw := hw x hx
      have h1 : x.f1.size ≤ 140737488351232 := hw.2
      unfold laws_szSlot.f
      rw [w64 (by omega) (by omega)]
      by_cases hc : left - (x.f1.size : Int) < 0
      · rw [if_pos hc]; exact ⟨-1, rfl, .inl (by omega)⟩
      · rw [if_neg hc]; exact ⟨_, rfl, .inr ⟨by omega, by omega, by omega⟩⟩
    obtain ⟨t, ht, hr⟩ := sz_loop (F := fun k left j => laws_szSlotS.l0 k l left j) (g := fun x left => laws_szSlot.f x.f0 x.f1 left) (P := fun x : S185 => x.f1.size ≤ 1048576) (l := l) (fun k left j hj hl => by
      simp only [laws_szSlotS.l0]
      rw [if_pos (by omega), if_pos (by omega), w64 (x := (j : Int) + 1) (by omega) (by omega)]
      unfold rd_T185
      rw [getD_at _ hj]
      rfl) (fun k left => by simp only [laws_szSlotS.l0]; rw [if_neg (by omega)]) hgg (by omega) l.length 0 (left - (l.length : Int)) (by omega) (by omega) (by omega) (by omega)
    · refine ⟨t, ht, ?_⟩
      rcases hr with hr | ⟨h2, h3, h4⟩
      · exact .inl hr
      · refine .inr ⟨h2, by omega, by omega, fun x hx => ?_⟩
        obtain ⟨i, hi, rfl⟩ := List.mem_iff_getElem.1 hx
        exact h4 i hi (by omega)

/-! ### mark -/
theorem mt_loop : ∀ (d : Nat) (x : Int) (s : ByteArray), 0 ≤ x → x < 10 ^ d → x ≤ 9223372036854775807 → s.size + d ≤ 1000 → ∃ t, ∀ k, d < k → laws_markText.l0 k x s = some t := by
  intro d
  induction d with
  | zero =>
    intro x s h0 h1 h2 hs
    refine ⟨(⟨#[109]⟩ : ByteArray) ++ s, fun k hk => ?_⟩
    obtain ⟨k, rfl⟩ : ∃ m, k = m + 1 := ⟨k - 1, by omega⟩
    simp only [laws_markText.l0]
    rw [if_neg (by omega), if_pos (by omega)]
  | succ d ih =>
    intro x s h0 h1 h2 hs
    by_cases hx : x > 0
    · have h10 : x / 10 < 10 ^ d := by
        have : (10 : Int) ^ (d + 1) = 10 ^ d * 10 := Int.pow_succ 10 d
        omega
      obtain ⟨t, ih⟩ := ih (x / 10) (strOfNums [(48 + x % 10) % 256] ++ s) (by omega) h10 (by omega) (by rw [ByteArray.size_append, strOfNums_size]; simp only [List.length_cons, List.length_nil]; omega)
      refine ⟨t, fun k hk => ?_⟩
      obtain ⟨k, rfl⟩ : ∃ m, k = m + 1 := ⟨k - 1, by omega⟩
      simp only [laws_markText.l0]
      rw [if_pos hx, Int.tmod_eq_emod_of_nonneg h0, Int.tdiv_eq_ediv_of_nonneg h0, w64 (x := 48 + x % 10) (by omega) (by omega)]
      simp only [Option.bind_some]
      rw [if_pos (by rw [strOfNums_size]; simp only [List.length_cons, List.length_nil]; omega)]
      rw [w64 (by omega) (by omega)]
      exact ih k (by omega)
    · refine ⟨(⟨#[109]⟩ : ByteArray) ++ s, fun k hk => ?_⟩
      obtain ⟨k, rfl⟩ : ∃ m, k = m + 1 := ⟨k - 1, by omega⟩
      simp only [laws_markText.l0]
      rw [if_neg hx, if_pos (by omega)]
theorem markText_ok (n : Int) (h0 : 0 ≤ n) (h1 : n < 1000000000000000) : ∃ t, ∀ k, 20 ≤ k → laws_markText.f k n = some t := by
  by_cases hn : n ≤ 0
  · exact ⟨_, fun k _ => by unfold laws_markText.f; rw [if_pos hn]⟩
  · obtain ⟨t, ht⟩ := mt_loop 15 n ⟨#[]⟩ h0 (by omega) (by omega) (by decide)
    exact ⟨t, fun k hk => by unfold laws_markText.f; rw [if_neg hn]; exact ht k (by omega)⟩
def mt (n : Int) : ByteArray := (laws_markText.f 20 n).getD ⟨#[]⟩
theorem markText_eq {k : Nat} {n : Int} (hk : 20 ≤ k) (h0 : 0 ≤ n) (h1 : n < 1000000000000000) : laws_markText.f k n = some (mt n) := by
  obtain ⟨t, ht⟩ := markText_ok n h0 h1
  unfold mt
  rw [ht k hk, ht 20 (by omega)]
  rfl
theorem mark_loop {α : Type} {F : Nat → List α → Int → Int → Option (Int × List α)} {G : Int → α} {w : Nat}
    (hs : ∀ k (l : List α) (c : Int) (j : Nat), j < l.length → l.length ≤ 2000000 → 20 ≤ k → 0 ≤ c → c ≤ 100000000000000 → F (k + 1) l c (j : Int) = F k (l.set j (G c)) (c + w) ((j + 1 : Nat) : Int))
    (he : ∀ k (l : List α) (c : Int), F (k + 1) l c (l.length : Int) = some (c, l)) :
    ∀ (d j : Nat) (l : List α) (c : Int), l.length - j = d → j ≤ l.length → l.length ≤ 2000000 → 0 ≤ c → c + w * d ≤ 100000000000000 →
    ∃ l' : List α, l'.length = l.length ∧ (∀ i, i < j → l'[i]? = l[i]?) ∧ (∀ i, j ≤ i → i < l.length → l'[i]? = some (G (c + w * ((i - j : Nat) : Int)))) ∧ ∀ k, d + 20 < k → F k l c (j : Int) = some (c + w * d, l') := by
  intro d
  induction d with
  | zero =>
    intro j l c hd hj hl h0 h1
    obtain rfl : j = l.length := by omega
    refine ⟨l, rfl, fun _ _ => rfl, fun i h2 h3 => by omega, fun k hk => ?_⟩
    obtain ⟨k, rfl⟩ : ∃ m, k = m + 1 := ⟨k - 1, by omega⟩
    rw [he]
    simp
  | succ d ih =>
    intro j l c hd hj hl h0 h1
    have hmul : (w : Int) * ((d + 1 : Nat) : Int) = w + w * d := by rw [Int.natCast_succ, Int.mul_add, Int.mul_one, Int.add_comm]
    have hwd : 0 ≤ (w : Int) * (d : Int) := Int.mul_nonneg (by omega) (by omega)
    obtain ⟨l', hl', h2, h3, h4⟩ := ih (j + 1) (l.set j (G c)) (c + w) (by rw [List.length_set]; omega) (by rw [List.length_set]; omega) (by rw [List.length_set]; exact hl) (by omega) (by omega)
    rw [List.length_set] at hl' h3
    refine ⟨l', hl', fun i hi => ?_, fun i hi1 hi2 => ?_, fun k hk => ?_⟩
    · rw [h2 i (by omega), List.getElem?_set_ne (by omega)]
    · by_cases hij : i = j
      · subst hij
        rw [h2 i (by omega), List.getElem?_set_self (by omega)]
        simp
      · rw [h3 i (by omega) hi2]
        congr 2
        have : ((i - j : Nat) : Int) = ((i - (j + 1) : Nat) : Int) + 1 := by omega
        rw [this, Int.mul_add, Int.mul_one]
        omega
    · obtain ⟨k, rfl⟩ : ∃ m, k = m + 1 := ⟨k - 1, by omega⟩
      rw [hs k l c j (by omega) hl (by omega) h0 (by omega), h4 k (by omega), hmul]
      congr 2
      omega
theorem held_loop {α : Type} {F : Nat → List α → Int → Int → Option Int} {G : Int → α} {w : Nat} {l : List α}
    (hs : ∀ k (c : Int) (j : Nat) (hj : j < l.length), l.length ≤ 2000000 → 20 ≤ k → 0 ≤ c → c ≤ 100000000000000 → l[j] = G c → F (k + 1) l c (j : Int) = F k l (c + w) ((j + 1 : Nat) : Int))
    (he : ∀ k (c : Int), F (k + 1) l c (l.length : Int) = some c) (hl : l.length ≤ 2000000) :
    ∀ (d j : Nat) (c : Int), l.length - j = d → j ≤ l.length → 0 ≤ c → c + w * d ≤ 100000000000000 → (∀ i, j ≤ i → i < l.length → l[i]? = some (G (c + w * ((i - j : Nat) : Int)))) → ∀ k, d + 20 < k → F k l c (j : Int) = some (c + w * d) := by
  intro d
  induction d with
  | zero =>
    intro j c hd hj h0 h1 hG k hk
    obtain rfl : j = l.length := by omega
    obtain ⟨k, rfl⟩ : ∃ m, k = m + 1 := ⟨k - 1, by omega⟩
    rw [he]
    simp
  | succ d ih =>
    intro j c hd hj h0 h1 hG k hk
    obtain ⟨k, rfl⟩ : ∃ m, k = m + 1 := ⟨k - 1, by omega⟩
    have hjl : j < l.length := by omega
    have hmul : (w : Int) * ((d + 1 : Nat) : Int) = w + w * d := by rw [Int.natCast_succ, Int.mul_add, Int.mul_one, Int.add_comm]
    have hwd : 0 ≤ (w : Int) * (d : Int) := Int.mul_nonneg (by omega) (by omega)
    have hj0 : l[j] = G c := by
      have := hG j (Nat.le_refl _) hjl
      rw [List.getElem?_eq_getElem hjl] at this
      simpa using this
    rw [hs k c j hjl hl (by omega) h0 (by omega) hj0, ih (j + 1) (c + w) (by omega) (by omega) (by omega) (by omega) (fun i h2 h3 => ?_) k (by omega), hmul]
    · congr 1; omega
    · rw [hG i (by omega) h3]
      congr 2
      have : ((i - j : Nat) : Int) = ((i - (j + 1) : Nat) : Int) + 1 := by omega
      rw [this, Int.mul_add, Int.mul_one]
      omega

/-! ### m_Slot -/
def mkSlot (c : Int) : S144 := ⟨c, mt (c + 1)⟩
theorem rdset_Slot (l : List S144) (j : Nat) (a : S144) (h : j < l.length) : rd_T144 (l.set j a) (j : Int) = a := by
  unfold rd_T144
  rw [getD_at _ (by rw [List.length_set]; exact h), List.getElem_set_self]
theorem markSlotS_ok (l : List S144) (c : Int) (hl : l.length ≤ 2000000) (h0 : 0 ≤ c) (h1 : c + 2 * l.length ≤ 100000000000000) :
    ∃ l' : List S144, l'.length = l.length ∧ (∀ i, i < l.length → l'[i]? = some (mkSlot (c + 2 * (i : Int)))) ∧ ∀ k, l.length + 20 < k → laws_markSlotS.f k l c = some (c + 2 * l.length, l') := by
  obtain ⟨l', hl', _, h3, h4⟩ := mark_loop (F := fun k l c j => laws_markSlotS.l0 k l c j) (G := mkSlot) (w := 2) (fun k l c j hj hl hk h0 h1 => by
      simp (disch := omega) only [laws_markSlotS.l0, ip, Option.bind_some, w64, markText_eq, rdset_Slot, List.set_set, Int.toNat_natCast]
      unfold mkSlot
      congr 1 <;> omega) (fun k l c => by simp only [laws_markSlotS.l0]; rw [if_neg (by omega)]) l.length 0 l c (by omega) (by omega) hl h0 h1
  exact ⟨l', hl', fun i hi => by simpa using h3 i (by omega) hi, h4⟩
theorem heldSlotS_ok (l : List S144) (c : Int) (hl : l.length ≤ 2000000) (h0 : 0 ≤ c) (h1 : c + 2 * l.length ≤ 100000000000000) (hG : ∀ i, i < l.length → l[i]? = some (mkSlot (c + 2 * (i : Int)))) :
    ∀ k, l.length + 20 < k → laws_heldSlotS.f k l c = some (c + 2 * l.length) := by
  exact held_loop (F := fun k l c j => laws_heldSlotS.l0 k l c j) (G := mkSlot) (w := 2) (fun k c j hj hl hk h0 h1 hP => by
      have hr : rd_T144 l (j : Int) = mkSlot c := by unfold rd_T144; rw [getD_at _ hj]; exact hP
      simp (disch := omega) only [laws_heldSlotS.l0, hr, mkSlot, ip, Option.bind_some, w64, markText_eq, if_true, bne_self_eq_false, Bool.false_eq_true, if_false]
      congr 1 <;> omega) (fun k c => by simp only [laws_heldSlotS.l0]; rw [if_neg (by omega)]) hl l.length 0 c (by omega) (by omega) h0 h1 (fun i _ hi => by simpa using hG i hi)
theorem markheldSlot (l : List S144) (hl : l.length ≤ 2000000) (c : Int) (h0 : 0 ≤ c) (h1 : c ≤ 10000000000000) : ∃ (m : Int) (l' : List S144), 0 ≤ m ∧ m ≤ c + 2 * l.length ∧ Ev (fun k => laws_markSlotS.f k l c) (m, l') ∧ Ev (fun k => laws_heldSlotS.f k l' c) m := by
  obtain ⟨l', hl', h2, h3⟩ := markSlotS_ok l c hl h0 (by omega)
  refine ⟨c + 2 * l.length, l', by omega, by omega, ⟨l.length + 21, fun k hk => h3 k (by omega)⟩, ⟨l.length + 21, fun k hk => ?_⟩⟩
  have := heldSlotS_ok l' c (by omega) h0 (by omega) (fun i hi => h2 i (by omega)) k (by omega)
  rw [hl'] at this
  exact this
theorem eqSlotS_ok (l : List S144) (hl : l.length ≤ 2000000) : ∀ k, l.length < k → laws_eqSlotS.f k l l = some true := by
  intro k hk
  unfold laws_eqSlotS.f
  rw [if_pos rfl]
  refine up_loop (F := fun k j => laws_eqSlotS.l0 k l l j) (n := l.length) ?_ ?_ l.length 0 (by omega) (by omega) k hk
  · intro k j hj
    simp (disch := omega) only [laws_eqSlotS.l0, laws_eqSlot.f, ip, w64, Option.bind_some, if_true, bne_self_eq_false, Bool.false_eq_true, if_false]
    rfl
  · intro k
    simp only [laws_eqSlotS.l0]
    rw [if_neg (by omega)]

/-! ### all -/
def allF (p : Nat → Bool) (j : Nat) : Nat → Bool
  | 0 => true
  | d + 1 => p j && allF p (j + 1) d
/-- A loop that asks the same of each place, one after the other, and then something more. -/
theorem all_ev {F : Nat → Nat → Option Bool} {n : Nat} {p : Nat → Bool} {R : Bool}
    (hs : ∀ j, j < n → (p j = true → ∀ r, Ev (fun k => F k (j + 1)) r → Ev (fun k => F k j) r) ∧ (p j = false → Ev (fun k => F k j) false))
    (he : Ev (fun k => F k n) R) : ∀ d j, n - j = d → j ≤ n → Ev (fun k => F k j) (allF p j d && R) := by
  intro d
  induction d with
  | zero =>
    intro j hd hj
    obtain rfl : j = n := by omega
    simpa [allF] using he
  | succ d ih =>
    intro j hd hj
    have h := hs j (by omega)
    cases hp : p j with
    | true =>
      have := ih (j + 1) (by omega) (by omega)
      simp only [allF, hp, Bool.true_and]
      exact h.1 hp _ this
    | false =>
      simp only [allF, hp, Bool.false_and]
      exact h.2 hp
theorem Ev.here {α : Type} {F f : Nat → Option α} {r : α} (hs : ∀ k, F (k + 1) = f k) (h : ∀ k, f k = some r) : Ev F r := Ev.step hs ⟨0, fun k _ => h k⟩

/-! ### in -/
def rng (a b c : Int) : Bool := decide (b ≤ a) && decide (a ≤ c)
theorem rng_iff {a b c : Int} : rng a b c = true ↔ b ≤ a ∧ a ≤ c := by simp [rng]
theorem rng_false {a b c : Int} : rng a b c = false ↔ ¬ (b ≤ a ∧ a ≤ c) := by rw [← rng_iff]; simp
theorem in_eq (a b c : Int) : spec_l01In.f a b c = some (rng a b c) := by
  unfold spec_l01In.f rng
  by_cases h : b ≤ a
  · rw [if_pos h]; simp [h]
  · rw [if_neg h]; simp [h]
theorem within_eq (a b c : Int) : impl_within.f a b c = some (rng a b c) := by
  unfold impl_within.f rng
  by_cases h : b ≤ a
  · rw [if_pos h]; simp [h]
  · rw [if_neg h]; simp [h]

/-! ### ring -/
theorem szRing_ok (l : List S185) (h t : Int) (hl : l.length ≤ maxLen) (hw : ∀ x ∈ l, wf185 x) : ∃ u, (∀ k, l.length < k → laws_szRing.f k l h t 1048576 = some u) ∧ (u < 0 ∨ l.length ≤ 1048576) := by
  obtain ⟨u, h1, h2⟩ := szSlotS_ok l hl hw 1048576 (by omega) (by omega)
  by_cases hu : u < 0
  · refine ⟨-1, fun k hk => ?_, .inl (by omega)⟩
    unfold laws_szRing.f
    rw [h1 k hk]
    simp only [Option.bind_some]
    rw [if_pos hu]
  · refine ⟨u, fun k hk => ?_, .inr (h2.resolve_left hu).2.2.1⟩
    unfold laws_szRing.f
    rw [h1 k hk]
    simp only [Option.bind_some]
    rw [if_neg hu]
theorem toRing_ok (l : List S185) (h t : Int) (hl : l.length ≤ 1048576) : ∀ k, l.length < k → laws_toRing.f k l h t = some (l.map conSlot, h, t) := by
  intro k hk
  unfold laws_toRing.f
  rw [toSlotS_ok l hl k hk]
  rfl
theorem eqRing_ok (l : List S144) (h t : Int) (hl : l.length ≤ 2000000) : ∀ k, l.length < k → laws_eqRing.f k l h t l h t = some true := by
  intro k hk
  unfold laws_eqRing.f
  rw [eqSlotS_ok l hl k hk]
  simp
theorem markheldRing (l : List S144) (h t : Int) (hl : l.length ≤ 2000000) : ∃ m l', 0 ≤ m ∧ Ev (fun k => laws_markRing.f k l h t 1) (m, l') ∧ Ev (fun k => laws_heldRing.f k l' h t 1) m := by
  obtain ⟨m, l', h0, _, e1, e2⟩ := markheldSlot l hl 1 (by omega) (by omega)
  refine ⟨m, l', h0, Ev.bind e1 (Ev.now _), Ev.bind e2 ?_⟩
  simp only [if_neg (show ¬ m < 0 by omega)]
  exact Ev.now _
def pR (l : List S144) (m t : Int) (j : Nat) : Bool :=
  if (j : Int) < m then (rd_T144 l (Int.tmod (t + j) l.length)).f0 == 1 && rng ((rd_T144 l (Int.tmod (t + j) l.length)).f1.size : Int) 1 100
  else (rd_T144 l (Int.tmod (t + j) l.length)).f0 == 0 && decide ((rd_T144 l (Int.tmod (t + j) l.length)).f1.toList = ([] : List UInt8))
def heldM (l : List S144) (h t : Int) : Int :=
  if Int.tmod (h - t + l.length) l.length = 0 ∧ (rd_T144 l h).f0 = 1 then (l.length : Int) else Int.tmod (h - t + l.length) l.length
def ringB (l : List S144) (h t : Int) : Bool :=
  rng (l.length : Int) 1 8 && (rng h 0 ((l.length : Int) - 1) && (rng t 0 ((l.length : Int) - 1) && allF (pR l (heldM l h t) t) 0 l.length))
theorem ringB_iff {l : List S144} {h t : Int} (hb : ringB l h t = true) : (1 ≤ l.length ∧ l.length ≤ 8) ∧ (0 ≤ h ∧ h < (l.length : Int)) ∧ (0 ≤ t ∧ t < (l.length : Int)) := by
  unfold ringB at hb
  simp only [Bool.and_eq_true, rng_iff] at hb
  omega
theorem tm_range {a n : Int} (h0 : 0 ≤ a) (hn : 0 < n) : 0 ≤ Int.tmod a n ∧ Int.tmod a n < n := by
  rw [Int.tmod_eq_emod_of_nonneg h0]
  exact ⟨Int.emod_nonneg _ (by omega), Int.emod_lt_of_pos _ hn⟩
theorem spec_ring_loop (l : List S144) (m h t : Int) (hl : 1 ≤ l.length ∧ l.length ≤ 8) (ht : 0 ≤ t ∧ t < (l.length : Int)) : Ev (fun k => spec_RingOk.l0 k (l.length : Int) m 0 l h t) (allF (pR l m t) 0 l.length) := by
  have := all_ev (F := fun k j => spec_RingOk.l0 k (l.length : Int) m (j : Int) l h t) (p := pR l m t) (n := l.length) (R := true) (fun j hj => ?_) ?_ l.length 0 (by omega) (by omega)
  · simpa using this
  · have hr := tm_range (a := t + j) (n := l.length) (by omega) (by omega)
    have es : ∀ k, spec_RingOk.l0 (k + 1) (l.length : Int) m (j : Int) l h t = if pR l m t j = true then spec_RingOk.l0 k (l.length : Int) m ((j + 1 : Nat) : Int) l h t else some false := fun k => by
      simp only [spec_RingOk.l0]
      rw [if_pos (by omega), if_neg (by omega)]
      rw [w64 (x := t + (j : Int)) (by omega) (by omega), w64 (x := (j : Int) + 1) (by omega) (by omega), if_pos hr.1, if_pos hr.2]
      simp only [in_eq, Option.bind_some]
      unfold pR
      have e1 : ((j : Int) + 1) = ((j + 1 : Nat) : Int) := by omega
      rw [e1]
      by_cases hm : (j : Int) < m
      · have hm2 : ¬ (j : Int) ≥ m := by omega
        simp only [if_pos hm, if_neg hm2]
        by_cases h1 : (rd_T144 l (Int.tmod (t + j) l.length)).f0 = 1 <;> cases h2 : rng ((rd_T144 l (Int.tmod (t + j) l.length)).f1.size : Int) 1 100 <;> simp [h1]
      · have hm2 : (j : Int) ≥ m := by omega
        simp only [if_neg hm, if_pos hm2]
        by_cases h1 : (rd_T144 l (Int.tmod (t + j) l.length)).f0 = 0 <;> by_cases h2 : (rd_T144 l (Int.tmod (t + j) l.length)).f1.toList = ([] : List UInt8) <;> simp [h1, h2]
    refine ⟨fun hp r hr => Ev.step (fun k => by rw [es, if_pos hp]) hr, fun hp => Ev.here (f := fun _ => some false) (fun k => by rw [es, if_neg (by simp [hp])]) (fun _ => rfl)⟩
  · exact Ev.here (f := fun _ => some true) (fun k => by simp only [spec_RingOk.l0]; rw [if_neg (by omega)]) (fun _ => rfl)
theorem spec_RingOk_ok (l : List S144) (h t : Int) : Ev (fun k => spec_RingOk.f k l h t) (ringB l h t) := by
  unfold spec_RingOk.f ringB
  simp only [in_eq, Option.bind_some]
  have bad : Ev (fun k => spec_RingOk.j0 k (l.length : Int) true l h t) false := Ev.step (f := fun _ => some false) (fun k => by simp [spec_RingOk.j0]) (Ev.now _)
  cases h1 : rng (l.length : Int) 1 8 with
  | false => simpa using bad
  | true =>
    have hn := rng_iff.1 h1
    rw [w64 (x := (l.length : Int) - 1) (by omega) (by omega)]
    cases h2 : rng h 0 ((l.length : Int) - 1) with
    | false => simpa [h2] using bad
    | true =>
      have hh := rng_iff.1 h2
      cases h3 : rng t 0 ((l.length : Int) - 1) with
      | false => simpa [h2, h3] using bad
      | true =>
        have ht := rng_iff.1 h3
        simp only [h2, h3, if_true, Bool.not_true, Bool.true_and]
        have fin := fun m => spec_ring_loop l m h t (by omega) (by omega)
        have j2 : ∀ m, Ev (fun k => spec_RingOk.j2 k (l.length : Int) m l h t) (allF (pR l m t) 0 l.length) := fun m => Ev.step (fun k => by simp only [spec_RingOk.j2]) (fin m)
        refine Ev.step (fun k => by simp only [spec_RingOk.j0, Bool.false_eq_true, if_false]; rw [if_neg (by omega), w64 (x := h - t) (by omega) (by omega), w64 (x := h - t + (l.length : Int)) (by omega) (by omega)]) ?_
        unfold heldM
        by_cases hz : Int.tmod (h - t + (l.length : Int)) (l.length : Int) = 0
        · simp only [if_pos hz, if_pos hh.1, if_pos (show h < (l.length : Int) by omega), hz, true_and]
          by_cases ho : (rd_T144 l h).f0 = 1
          · rw [if_pos ho]
            exact Ev.step (fun k => by simp only [spec_RingOk.j1, ho, beq_self_eq_true, if_true]) (j2 _)
          · rw [if_neg ho]
            exact Ev.step (fun k => by simp [spec_RingOk.j1, ho]) (j2 _)
        · simp only [if_neg hz, hz, false_and, if_false]
          exact Ev.step (fun k => by simp only [spec_RingOk.j1, Bool.false_eq_true, if_false]) (j2 _)
theorem impl_ring_loop (l : List S144) (m h t : Int) (hl : 1 ≤ l.length ∧ l.length ≤ 8) (ht : 0 ≤ t ∧ t < (l.length : Int)) : Ev (fun k => impl_RingOk.l0 k (l.length : Int) m (l.length : Int) 0 l h t) (allF (pR l m t) 0 l.length) := by
  have := all_ev (F := fun k j => impl_RingOk.l0 k (l.length : Int) m (l.length : Int) (j : Int) l h t) (p := pR l m t) (n := l.length) (R := true) (fun j hj => ?_) ?_ l.length 0 (by omega) (by omega)
  · simpa using this
  · have hr := tm_range (a := t + j) (n := l.length) (by omega) (by omega)
    have es : ∀ k, impl_RingOk.l0 (k + 1) (l.length : Int) m (l.length : Int) (j : Int) l h t = if pR l m t j = true then impl_RingOk.l0 k (l.length : Int) m (l.length : Int) ((j + 1 : Nat) : Int) l h t else some false := fun k => by
      simp only [impl_RingOk.l0]
      rw [if_pos (by omega), if_neg (by omega)]
      rw [w64 (x := t + (j : Int)) (by omega) (by omega), w64 (x := (j : Int) + 1) (by omega) (by omega), if_pos hr.1, if_pos hr.2]
      simp only [within_eq, Option.bind_some]
      unfold pR
      have e1 : ((j : Int) + 1) = ((j + 1 : Nat) : Int) := by omega
      rw [e1]
      by_cases hm : (j : Int) < m
      · have hm2 : ¬ (j : Int) ≥ m := by omega
        simp only [if_pos hm, if_neg hm2]
        by_cases h1 : (rd_T144 l (Int.tmod (t + j) l.length)).f0 = 1 <;> cases h2 : rng ((rd_T144 l (Int.tmod (t + j) l.length)).f1.size : Int) 1 100 <;> simp [h1]
      · have hm2 : (j : Int) ≥ m := by omega
        simp only [if_neg hm, if_pos hm2]
        by_cases h1 : (rd_T144 l (Int.tmod (t + j) l.length)).f0 = 0 <;> by_cases h2 : (rd_T144 l (Int.tmod (t + j) l.length)).f1.toList = ([] : List UInt8) <;> simp [h1, h2]
    refine ⟨fun hp r hr => Ev.step (fun k => by rw [es, if_pos hp]) hr, fun hp => Ev.here (f := fun _ => some false) (fun k => by rw [es, if_neg (by simp [hp])]) (fun _ => rfl)⟩
  · exact Ev.here (f := fun _ => some true) (fun k => by simp only [impl_RingOk.l0]; rw [if_neg (by omega)]) (fun _ => rfl)
theorem impl_RingOk_ok (l : List S144) (h t : Int) : Ev (fun k => impl_RingOk.f k l h t) (ringB l h t) := by
  unfold impl_RingOk.f ringB
  simp only [within_eq, Option.bind_some]
  have bad : Ev (fun k => impl_RingOk.j0 k (l.length : Int) true l h t) false := Ev.step (f := fun _ => some false) (fun k => by simp [impl_RingOk.j0]) (Ev.now _)
  cases h1 : rng (l.length : Int) 1 8 with
  | false => simpa using bad
  | true =>
    have hn := rng_iff.1 h1
    rw [w64 (x := (l.length : Int) - 1) (by omega) (by omega)]
    cases h2 : rng h 0 ((l.length : Int) - 1) with
    | false => simpa [h2] using bad
    | true =>
      have hh := rng_iff.1 h2
      cases h3 : rng t 0 ((l.length : Int) - 1) with
      | false => simpa [h2, h3] using bad
      | true =>
        have ht := rng_iff.1 h3
        simp only [h2, h3, if_true, Bool.not_true, Bool.true_and]
        have fin := fun m => impl_ring_loop l m h t (by omega) (by omega)
        have j2 : ∀ m, Ev (fun k => impl_RingOk.j2 k (l.length : Int) m l h t) (allF (pR l m t) 0 l.length) := fun m => Ev.step (fun k => by simp only [impl_RingOk.j2]) (fin m)
        refine Ev.step (fun k => by simp only [impl_RingOk.j0, Bool.false_eq_true, if_false]; rw [if_neg (by omega), w64 (x := h - t) (by omega) (by omega), w64 (x := h - t + (l.length : Int)) (by omega) (by omega)]) ?_
        unfold heldM
        by_cases hz : Int.tmod (h - t + (l.length : Int)) (l.length : Int) = 0
        · simp only [if_pos hz, if_pos hh.1, if_pos (show h < (l.length : Int) by omega), hz, true_and]
          by_cases ho : (rd_T144 l h).f0 = 1
          · rw [if_pos ho]
            exact Ev.step (fun k => by simp only [impl_RingOk.j1, ho, beq_self_eq_true, if_true]) (j2 _)
          · rw [if_neg ho]
            exact Ev.step (fun k => by simp [impl_RingOk.j1, ho]) (j2 _)
        · simp only [if_neg hz, hz, false_and, if_false]
          exact Ev.step (fun k => by simp only [impl_RingOk.j1, Bool.false_eq_true, if_false]) (j2 _)

/-! ### take -/
def takeB (l : List S144) (h t : Int) : List S144 × Int × Int × ByteArray × Bool :=
  if ringB l h t = true ∧ ¬ (rd_T144 l t).f0 = 0 then (l.set t.toNat (⟨0, (⟨#[]⟩ : ByteArray)⟩ : S144), h, Int.tmod (t + 1) l.length, (rd_T144 l t).f1, true) else (l, h, t, (⟨#[]⟩ : ByteArray), false)
theorem takeB_length (l : List S144) (h t : Int) : (takeB l h t).1.length = l.length := by
  unfold takeB
  split
  · simp
  · rfl
theorem spec_Take_ok (l : List S144) (h t : Int) (hl : l.length ≤ 1048576) : Ev (fun k => spec_TakeRing.f k l h t) (takeB l h t) := by
  unfold spec_TakeRing.f spec_l09Copy.f
  simp only [Option.bind_some, List.length_nil, Nat.zero_add, if_pos (show l.length < 5864062014805 by omega), List.nil_append]
  refine Ev.bind (spec_RingOk_ok l h t) ?_
  unfold takeB
  cases hb : ringB l h t with
  | false => simpa using Ev.now _
  | true =>
    obtain ⟨hn, hh, ht⟩ := ringB_iff hb
    simp only [if_true, if_pos ht.1, if_pos ht.2, true_and]
    by_cases h0 : (rd_T144 l t).f0 = 0
    · simp only [h0, if_true, not_true_eq_false, if_false]
      exact Ev.now _
    · simp only [h0, if_false, not_false_eq_true, if_true, if_neg (show ¬ (l.length : Int) = 0 by omega), w64 (x := t + 1) (by omega) (by omega)]
      exact Ev.now _
theorem impl_Take_ok (l : List S144) (h t : Int) (hl : l.length ≤ 1048576) : Ev (fun k => impl_TakeRing.f k l h t) (takeB l h t) := by
  unfold impl_TakeRing.f impl_copyRing.f
  simp only [Option.bind_some, List.length_nil, Nat.zero_add, if_pos (show l.length < 5864062014805 by omega), List.nil_append]
  refine Ev.bind (impl_RingOk_ok l h t) ?_
  unfold takeB
  cases hb : ringB l h t with
  | false => simpa using Ev.now _
  | true =>
    obtain ⟨hn, hh, ht⟩ := ringB_iff hb
    simp only [if_true, if_pos ht.1, if_pos ht.2, true_and]
    by_cases h0 : (rd_T144 l t).f0 = 0
    · simp only [h0, if_true, not_true_eq_false, if_false]
      exact Ev.now _
    · simp only [h0, if_false, not_false_eq_true, if_true, if_neg (show ¬ (l.length : Int) = 0 by omega), w64 (x := t + 1) (by omega) (by omega)]
      exact Ev.now _

/-! ### FnExactTakeRing -/
theorem FnExactTakeRing : StFnExactTakeRing.Pure := by
  intro l h t hl _ _
  obtain ⟨u, hu, hq⟩ := szRing_ok l h t hl.1 hl.2.2
  by_cases hn : u < 0
  · refine ⟨l.length + 1, ?_⟩
    unfold laws_FnExactTakeRing.f
    rw [hu _ (by omega)]
    simp only [Option.bind_some]
    rw [if_pos hn]
  · have ll := hq.resolve_left hn
    have lm : (l.map conSlot).length ≤ 1048576 := by rw [List.length_map]; exact ll
    have lt := takeB_length (l.map conSlot) h t
    rw [List.length_map] at lt
    obtain ⟨m0, l0', g0, m0e, _⟩ := markheldRing (l.map conSlot) h t (by omega)
    obtain ⟨m1, l1', g1, m1e, h1e⟩ := markheldRing (takeB (l.map conSlot) h t).1 (takeB (l.map conSlot) h t).2.1 (takeB (l.map conSlot) h t).2.2.1 (by omega)
    obtain ⟨K1, hK1⟩ := Ev.both (spec_Take_ok (l.map conSlot) h t lm) (impl_Take_ok (l.map conSlot) h t lm)
    obtain ⟨K2, hK2⟩ := Ev.both m1e h1e
    obtain ⟨K3, hK30⟩ := m0e
    have hK3 : ∀ k, K3 ≤ k → laws_markRing.f k (l.map conSlot) h t 1 = some (m0, l0') := hK30
    refine ⟨K1 + K2 + K3 + l.length + 4, ?_⟩
    unfold laws_FnExactTakeRing.f
    rw [hu _ (by omega)]
    simp only [Option.bind_some]
    rw [if_neg hn, toRing_ok l h t ll _ (by omega)]
    simp only [Option.bind_some]
    rw [(hK1 _ (by omega)).1]
    simp only [Option.bind_some]
    rw [(hK1 _ (by omega)).2]
    simp only [Option.bind_some]
    rw [eqRing_ok _ _ _ (by omega) _ (by omega)]
    simp only [Option.bind_some, if_true, bne_self_eq_false, laws_FnExactTakeRing.j0]
    rw [if_neg (by simp), toRing_ok l h t ll _ (by omega)]
    simp only [Option.bind_some]
    rw [eqRing_ok _ _ _ (by omega) _ (by rw [List.length_map]; omega)]
    simp only [Option.bind_some, if_true]
    rw [hK3 _ (by omega)]
    simp only [Option.bind_some]
    rw [if_neg (by omega), eqRing_ok _ _ _ (by omega) _ (by omega)]
    simp only [Option.bind_some, if_true, laws_FnExactTakeRing.j1]
    rw [if_neg (by simp), (hK2 _ (by omega)).1]
    simp only [Option.bind_some]
    rw [(hK2 _ (by omega)).2]
    simp only [Option.bind_some]
    rw [if_neg (by omega), if_pos trivial, toRing_ok l h t ll _ (by omega)]
    simp only [Option.bind_some]
    rw [(hK1 _ (by omega)).2]
    simp only [Option.bind_some]
    rw [eqRing_ok _ _ _ (by omega) _ (by omega)]
    simp only [Option.bind_some, if_true, bne_self_eq_false, laws_FnExactTakeRing.j2]
    rw [if_neg (by simp), (hK2 _ (by omega)).2]
    simp only [Option.bind_some]
    rw [if_neg (by omega), if_pos trivial]

end Go.Proofs.Ytjijbffecppeiaa.Pure
