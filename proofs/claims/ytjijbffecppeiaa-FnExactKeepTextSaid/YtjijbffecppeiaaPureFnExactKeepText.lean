/- The pure statement of the law 'FnExactKeepText', proved: over numbers, lists and texts alone. No condition. -/
import Derived.Test.YtjijbffecppeiaaStFnExactKeepText
import Derived.Laws.BitsLemmas
namespace Go.Proofs.Ytjijbffecppeiaa.Pure
open Go.RowKit Go.Proofs.Ytjijbffecppeiaa.QFnExactKeepText Go.Proofs.YtjijbffecppeiaaW.PrintWords Go.Proofs.YtjijbffecppeiaaW.PrintLast Go.Proofs.YtjijbffecppeiaaW.PrintMore Go.Proofs.Ytjijbffecppeiaa.StFnExactKeepText Go.Proofs.Ytjijbffecppeiaa.Opens
set_option linter.unusedVariables false
set_option linter.unusedSimpArgs false

/-! ### base -/
theorem w64 {x : Int} (h0 : -9223372036854775808 ≤ x) (h1 : x ≤ 9223372036854775807) : wrap64 x = x := by unfold wrap64; omega
theorem w64_range (x : Int) : -9223372036854775808 ≤ wrap64 x ∧ wrap64 x ≤ 9223372036854775807 := by unfold wrap64; omega
theorem ip {α : Type} {c : Prop} [Decidable c] {a b : α} (h : c) : (if c then a else b) = a := if_pos h
theorem ineg {α : Type} {c : Prop} [Decidable c] {a b : α} (h : ¬ c) : (if c then a else b) = b := if_neg h
theorem wf_range {n : Int} (h : (Lit.int .i64 n).wf = true) : -9223372036854775808 ≤ n ∧ n ≤ 9223372036854775807 := by
  simp only [Lit.wf, IntKind.min, IntKind.max, IntKind.signed, IntKind.bits, Bool.and_eq_true, decide_eq_true_eq, if_true] at h
  omega
theorem wf_u8 {n : Int} (h : (Lit.int .u8 n).wf = true) : 0 ≤ n ∧ n ≤ 255 := by
  simp [Lit.wf, IntKind.min, IntKind.max, IntKind.signed, IntKind.bits] at h
  omega
theorem and_low (x : Int) (i : Nat) (hi : i ≤ 62) : Go.bits .and .i64 x (2 ^ i - 1) = x % 2 ^ i := by
  have hpos : 0 < 2 ^ i := Nat.two_pow_pos i
  have hc : ((2 : Int) ^ i - 1) = ((2 ^ i - 1 : Nat) : Int) := by rw [Int.natCast_sub hpos]; simp
  have h62 : 2 ^ i ≤ 2 ^ 62 := Nat.pow_le_pow_right (by decide) hi
  have hlt : 2 ^ i - 1 < 2 ^ 64 := by omega
  have hd : (2 ^ i : Nat) ∣ 2 ^ 64 := Nat.pow_dvd_pow 2 (by omega)
  rw [hc]
  simp only [Go.bits, BitVec.ofInt_natCast, BitVec.toNat_and, BitVec.toNat_ofNat, BitVec.toNat_ofInt]
  simp only [show IntKind.i64.bits = 64 from rfl]
  rw [Nat.mod_eq_of_lt hlt, Nat.and_two_pow_sub_one_eq_mod]
  have h1 : (((x % ((2 ^ 64 : Nat) : Int)).toNat % 2 ^ i : Nat) : Int) = x % 2 ^ i := by
    rw [Int.natCast_emod, Int.toNat_of_nonneg (Int.emod_nonneg _ (by decide))]
    rw [Int.natCast_pow]
    exact Int.emod_emod_of_dvd _ (by
      have : (((2 ^ i : Nat) : Int)) ∣ ((2 ^ 64 : Nat) : Int) := Int.natCast_dvd_natCast.2 hd
      simpa using this)
  rw [h1]
  have h2 : 0 ≤ x % 2 ^ i := Int.emod_nonneg _ (by
    have : (0 : Int) < 2 ^ i := by exact_mod_cast hpos
    omega)
  have h3 : x % 2 ^ i < 2 ^ i := Int.emod_lt_of_pos _ (by exact_mod_cast hpos)
  have h4 : (2 : Int) ^ i ≤ 2 ^ 62 := by exact_mod_cast h62
  rw [IntKind.wrap_i64]
  omega
theorem and255 (x : Int) : Go.bits .and .i64 x 255 = x % 256 := and_low x 8 (by omega)
theorem and65535 (x : Int) : Go.bits .and .i64 x 65535 = x % 65536 := and_low x 16 (by omega)
theorem and30 (x : Int) : Go.bits .and .i64 x 1073741823 = x % 1073741824 := and_low x 30 (by omega)
theorem and1 (x : Int) : Go.bits .and .i64 x 1 = x % 2 := and_low x 1 (by omega)
/-- A law's last step: both are one. -/
theorem same_end {v : Bool} : (if (v != v) = true then some false else some true : Option Bool) = some true := by simp
theorem Ev.ex {α : Type} {g : Nat → Option α} {r : α} (h : Ev g r) : ∃ k, g k = some r := h.rounds
theorem Ev.from_ {α : Type} {g : Nat → Option α} {r : α} (K : Nat) (h : ∀ k, K ≤ k → g k = some r) : Ev g r := ⟨K, h⟩
theorem Ev.both {α β : Type} {g : Nat → Option α} {f : Nat → Option β} {r : α} {q : β} (h : Ev g r) (h' : Ev f q) : ∃ K, ∀ k, K ≤ k → g k = some r ∧ f k = some q := by
  obtain ⟨K, h⟩ := h
  obtain ⟨K', h'⟩ := h'
  exact ⟨K + K', fun k hk => ⟨h k (by omega), h' k (by omega)⟩⟩

/-! ### loops -/
/-- A loop upward whose rounds do nothing but go on. -/
theorem up_loop {β : Type} {F : Nat → Int → Option β} {n : Nat} {r : β} (hs : ∀ k (j : Nat), j < n → F (k + 1) (j : Int) = F k ((j + 1 : Nat) : Int)) (he : ∀ k, F (k + 1) (n : Int) = some r) :
    ∀ (d j : Nat), n - j = d → j ≤ n → ∀ k, d < k → F k (j : Int) = some r := by
  intro d
  induction d with
  | zero =>
    intro j hd hj k hk
    obtain ⟨k, rfl⟩ : ∃ m, k = m + 1 := ⟨k - 1, by omega⟩
    obtain rfl : j = n := by omega
    exact he k
  | succ d ih =>
    intro j hd hj k hk
    obtain ⟨k, rfl⟩ : ∃ m, k = m + 1 := ⟨k - 1, by omega⟩
    rw [hs k j (by omega)]
    exact ih (j + 1) (by omega) (by omega) k (by omega)
/-- A loop that turns each element of a list into one of a list that was made. -/
theorem map_loop {α β : Type} {F : Nat → List β → Int → Option (List β)} {g : α → β} {l : List α}
    (hs : ∀ k (acc : List β) (j : Nat) (hj : j < l.length), acc.length = l.length → F (k + 1) acc (j : Int) = F k (acc.set j (g l[j])) ((j + 1 : Nat) : Int))
    (he : ∀ k (acc : List β), F (k + 1) acc (l.length : Int) = some acc) :
    ∀ (d j : Nat) (acc : List β), l.length - j = d → j ≤ l.length → acc.length = l.length → (∀ i, i < j → acc[i]? = (l[i]?).map g) → ∀ k, d < k → F k acc (j : Int) = some (l.map g) := by
  intro d
  induction d with
  | zero =>
    intro j acc hd hj hl ha k hk
    obtain ⟨k, rfl⟩ : ∃ m, k = m + 1 := ⟨k - 1, by omega⟩
    obtain rfl : j = l.length := by omega
    rw [he]
    congr 1
    apply List.ext_getElem?
    intro i
    rw [List.getElem?_map]
    by_cases hi : i < l.length
    · exact ha i hi
    · rw [List.getElem?_eq_none (by omega), List.getElem?_eq_none (by omega)]; rfl
  | succ d ih =>
    intro j acc hd hj hl ha k hk
    obtain ⟨k, rfl⟩ : ∃ m, k = m + 1 := ⟨k - 1, by omega⟩
    have hjl : j < l.length := by omega
    rw [hs k acc j hjl hl]
    refine ih (j + 1) _ (by omega) (by omega) (by rw [List.length_set]; exact hl) (fun i hi => ?_) k (by omega)
    by_cases hij : i = j
    · subst hij
      rw [List.getElem?_set_self (by omega), List.getElem?_eq_getElem hjl]
      rfl
    · rw [List.getElem?_set_ne (fun h => hij h.symm)]
      exact ha i (by omega)
theorem getD_at {α : Type} {l : List α} {j : Nat} (z : α) (h : j < l.length) : l.getD (j : Int).toNat z = l[j] := by
  simp [List.getD_eq_getElem?_getD, List.getElem?_eq_getElem h]

/-! ### sz -/
theorem sz_loop {α : Type} {F : Nat → Int → Int → Option Int} {g : α → Int → Option Int} {l : List α} {P : α → Prop}
    (hs : ∀ k (left : Int) (j : Nat) (hj : j < l.length), l.length ≤ 2000000 → F (k + 1) left (j : Int) = (g l[j] left).bind fun t => if t < 0 then some (-1) else F k t ((j + 1 : Nat) : Int))
    (he : ∀ k (left : Int), F (k + 1) left (l.length : Int) = some left)
    (hg : ∀ x ∈ l, ∀ left : Int, 0 ≤ left → left ≤ 1048576 → ∃ t, g x left = some t ∧ (t < 0 ∨ (0 ≤ t ∧ t ≤ left ∧ P x))) (hl : l.length ≤ 2000000) :
    ∀ (d j : Nat) (left : Int), l.length - j = d → j ≤ l.length → 0 ≤ left → left ≤ 1048576 → ∃ t, (∀ k, d < k → F k left (j : Int) = some t) ∧ (t < 0 ∨ (0 ≤ t ∧ t ≤ left ∧ ∀ i (hi : i < l.length), j ≤ i → P l[i])) := by
  intro d
  induction d with
  | zero =>
    intro j left hd hj h0 h1
    obtain rfl : j = l.length := by omega
    refine ⟨left, fun k hk => ?_, .inr ⟨h0, Int.le_refl _, fun i hi h => absurd hi (by omega)⟩⟩
    obtain ⟨k, rfl⟩ : ∃ m, k = m + 1 := ⟨k - 1, by omega⟩
    exact he k left
  | succ d ih =>
    intro j left hd hj h0 h1
    have hjl : j < l.length := by omega
    obtain ⟨t, ht, hc⟩ := hg l[j] (List.getElem_mem _) left h0 h1
    rcases hc with hc | ⟨h2, h3, hP⟩
    · refine ⟨-1, fun k hk => ?_, .inl (by omega)⟩
      obtain ⟨k, rfl⟩ : ∃ m, k = m + 1 := ⟨k - 1, by omega⟩
      rw [hs k left j hjl hl, ht]
      simp only [Option.bind_some]
      rw [if_pos hc]
    · obtain ⟨t2, ih1, ih2⟩ := ih (j + 1) t (by omega) (by omega) h2 (by omega)
      refine ⟨t2, fun k hk => ?_, ?_⟩
      · obtain ⟨k, rfl⟩ : ∃ m, k = m + 1 := ⟨k - 1, by omega⟩
        rw [hs k left j hjl hl, ht]
        simp only [Option.bind_some]
        rw [if_neg (by omega)]
        exact ih1 k (by omega)
      · rcases ih2 with h4 | ⟨h4, h5, h6⟩
        · exact .inl h4
        · refine .inr ⟨h4, by omega, fun i hi hji => ?_⟩
          by_cases hij : i = j
          · subst hij; exact hP
          · exact h6 i hi (by omega)

/-! ### c_Session -/
def conSession (x : S174) : S119 := ⟨x.f0, x.f1, x.f2⟩
theorem toSessionS_ok (l : List S174) (hl : l.length ≤ 1048576) : ∀ k, l.length < k → laws_toSessionS.f k l = some (l.map conSession) := by
  intro k hk
  unfold laws_toSessionS.f
  rw [if_pos (by omega), if_pos (by omega)]
  refine map_loop (F := fun k acc j => laws_toSessionS.l0 k l acc j) ?_ ?_ l.length 0 _ (by omega) (by omega) (by simp) (fun i hi => absurd hi (by omega)) k hk
  · intro k acc j hj ha
    simp only [laws_toSessionS.l0, laws_toSession.f, Option.bind_some]
    rw [if_pos (by omega), if_pos (by omega), if_pos (by omega), w64 (by omega) (by omega)]
    unfold rd_T174
    rw [getD_at _ hj]
    rfl
  · intro k acc
    simp only [laws_toSessionS.l0]
    rw [if_neg (by omega)]
theorem szSessionS_ok (l : List S174) (hl : l.length ≤ maxLen) (hw : ∀ x ∈ l, wf174 x) (left : Int) (h0 : 0 ≤ left) (h1 : left ≤ 1048576) :
    ∃ t, (∀ k, l.length < k → laws_szSessionS.f k l left = some t) ∧ (t < 0 ∨ (0 ≤ t ∧ t ≤ left ∧ l.length ≤ 1048576 ∧ ∀ x ∈ l, x.f2.size ≤ 1048576)) := by
  simp only [maxLen] at hl
  unfold laws_szSessionS.f
  rw [w64 (by omega) (by omega)]
  by_cases hc : left - (l.length : Int) < 0
  · exact ⟨-1, fun k _ => by rw [if_pos hc], .inl (by omega)⟩
  · simp only [if_neg hc]
    have hgg : ∀ x ∈ l, ∀ left : Int, 0 ≤ left → left ≤ 1048576 → ∃ t, laws_szSession.f x.f0 x.f1 x.f2 left = some t ∧ (t < 0 ∨ (0 ≤ t ∧ t ≤ left ∧ x.f2.size ≤ 1048576)) := by
      intro x hx left h0 h1
      have hw := hw x hx
      have h2 : x.f2.size ≤ 140737488351232 := hw.2.2
      unfold laws_szSession.f
      rw [w64 (by omega) (by omega)]
      by_cases hc : left - (x.f2.size : Int) < 0
      · rw [if_pos hc]; exact ⟨-1, rfl, .inl (by omega)⟩
      · rw [if_neg hc]; exact ⟨_, rfl, .inr ⟨by omega, by omega, by omega⟩⟩
    obtain ⟨t, ht, hr⟩ := sz_loop (F := fun k left j => laws_szSessionS.l0 k l left j) (g := fun x left => laws_szSession.f x.f0 x.f1 x.f2 left) (P := fun x : S174 => x.f2.size ≤ 1048576) (l := l) (fun k left j hj hl => by
      simp only [laws_szSessionS.l0]
      rw [if_pos (by omega), if_pos (by omega), w64 (x := (j : Int) + 1) (by omega) (by omega)]
      unfold rd_T174
      rw [getD_at _ hj]
      rfl) (fun k left => by simp only [laws_szSessionS.l0]; rw [if_neg (by omega)]) hgg (by omega) l.length 0 (left - (l.length : Int)) (by omega) (by omega) (by omega) (by omega)
    · refine ⟨t, ht, ?_⟩
      rcases hr with hr | ⟨h2, h3, h4⟩
      · exact .inl hr
      · refine .inr ⟨h2, by omega, by omega, fun x hx => ?_⟩
        obtain ⟨i, hi, rfl⟩ := List.mem_iff_getElem.1 hx
        exact h4 i hi (by omega)

/-! ### c_Item -/
def conItem (x : S176) : S121 := ⟨x.f0, x.f1, x.f2⟩
theorem toItemS_ok (l : List S176) (hl : l.length ≤ 1048576) : ∀ k, l.length < k → laws_toItemS.f k l = some (l.map conItem) := by
  intro k hk
  unfold laws_toItemS.f
  rw [if_pos (by omega), if_pos (by omega)]
  refine map_loop (F := fun k acc j => laws_toItemS.l0 k l acc j) ?_ ?_ l.length 0 _ (by omega) (by omega) (by simp) (fun i hi => absurd hi (by omega)) k hk
  · intro k acc j hj ha
    simp only [laws_toItemS.l0, laws_toItem.f, Option.bind_some]
    rw [if_pos (by omega), if_pos (by omega), if_pos (by omega), w64 (by omega) (by omega)]
    unfold rd_T176
    rw [getD_at _ hj]
    rfl
  · intro k acc
    simp only [laws_toItemS.l0]
    rw [if_neg (by omega)]
theorem szItemS_ok (l : List S176) (hl : l.length ≤ maxLen) (hw : ∀ x ∈ l, wf176 x) (left : Int) (h0 : 0 ≤ left) (h1 : left ≤ 1048576) :
    ∃ t, (∀ k, l.length < k → laws_szItemS.f k l left = some t) ∧ (t < 0 ∨ (0 ≤ t ∧ t ≤ left ∧ l.length ≤ 1048576 ∧ ∀ x ∈ l, x.f0.size ≤ 1048576 ∧ x.f1.size ≤ 1048576)) := by
  simp only [maxLen] at hl
  unfold laws_szItemS.f
  rw [w64 (by omega) (by omega)]
  by_cases hc : left - (l.length : Int) < 0
  · exact ⟨-1, fun k _ => by rw [if_pos hc], .inl (by omega)⟩
  · simp only [if_neg hc]
    have hgg : ∀ x ∈ l, ∀ left : Int, 0 ≤ left → left ≤ 1048576 → ∃ t, laws_szItem.f x.f0 x.f1 x.f2 left = some t ∧ (t < 0 ∨ (0 ≤ t ∧ t ≤ left ∧ x.f0.size ≤ 1048576 ∧ x.f1.size ≤ 1048576)) := by
      intro x hx left h0 h1
      have hw := hw x hx
      have h0 : x.f0.size ≤ 140737488351232 := hw.1
      have h1 : x.f1.size ≤ 140737488351232 := hw.2.1
      unfold laws_szItem.f
      rw [w64 (x := left - (x.f0.size : Int)) (by omega) (by omega)]
      by_cases hc : left - (x.f0.size : Int) < 0
      · rw [if_pos hc]; exact ⟨-1, rfl, .inl (by omega)⟩
      · rw [if_neg hc, w64 (by omega) (by omega)]
        by_cases hc2 : left - (x.f0.size : Int) - (x.f1.size : Int) < 0
        · rw [if_pos hc2]; exact ⟨-1, rfl, .inl (by omega)⟩
        · rw [if_neg hc2]; exact ⟨_, rfl, .inr ⟨by omega, by omega, by omega, by omega⟩⟩
    obtain ⟨t, ht, hr⟩ := sz_loop (F := fun k left j => laws_szItemS.l0 k l left j) (g := fun x left => laws_szItem.f x.f0 x.f1 x.f2 left) (P := fun x : S176 => x.f0.size ≤ 1048576 ∧ x.f1.size ≤ 1048576) (l := l) (fun k left j hj hl => by
      simp only [laws_szItemS.l0]
      rw [if_pos (by omega), if_pos (by omega), w64 (x := (j : Int) + 1) (by omega) (by omega)]
      unfold rd_T176
      rw [getD_at _ hj]
      rfl) (fun k left => by simp only [laws_szItemS.l0]; rw [if_neg (by omega)]) hgg (by omega) l.length 0 (left - (l.length : Int)) (by omega) (by omega) (by omega) (by omega)
    · refine ⟨t, ht, ?_⟩
      rcases hr with hr | ⟨h2, h3, h4⟩
      · exact .inl hr
      · refine .inr ⟨h2, by omega, by omega, fun x hx => ?_⟩
        obtain ⟨i, hi, rfl⟩ := List.mem_iff_getElem.1 hx
        exact h4 i hi (by omega)

/-! ### mark -/
theorem mark_loop {α : Type} {F : Nat → List α → Int → Int → Option (Int × List α)} {G : Int → α} {w : Nat}
    (hs : ∀ k (l : List α) (c : Int) (j : Nat), j < l.length → l.length ≤ 2000000 → 20 ≤ k → 0 ≤ c → c ≤ 100000000000000 → F (k + 1) l c (j : Int) = F k (l.set j (G c)) (c + w) ((j + 1 : Nat) : Int))
    (he : ∀ k (l : List α) (c : Int), F (k + 1) l c (l.length : Int) = some (c, l)) :
    ∀ (d j : Nat) (l : List α) (c : Int), l.length - j = d → j ≤ l.length → l.length ≤ 2000000 → 0 ≤ c → c + w * d ≤ 100000000000000 →
    ∃ l' : List α, l'.length = l.length ∧ (∀ i, i < j → l'[i]? = l[i]?) ∧ (∀ i, j ≤ i → i < l.length → l'[i]? = some (G (c + w * ((i - j : Nat) : Int)))) ∧ ∀ k, d + 20 < k → F k l c (j : Int) = some (c + w * d, l') := by
  intro d
  induction d with
  | zero =>
    intro j l c hd hj hl h0 h1
    obtain rfl : j = l.length := by omega
    refine ⟨l, rfl, fun _ _ => rfl, fun i h2 h3 => by omega, fun k hk => ?_⟩
    obtain ⟨k, rfl⟩ : ∃ m, k = m + 1 := ⟨k - 1, by omega⟩
    rw [he]
    simp
  | succ d ih =>
    intro j l c hd hj hl h0 h1
    have hmul : (w : Int) * ((d + 1 : Nat) : Int) = w + w * d := by rw [Int.natCast_succ, Int.mul_add, Int.mul_one, Int.add_comm]
    have hwd : 0 ≤ (w : Int) * (d : Int) := Int.mul_nonneg (by omega) (by omega)
    obtain ⟨l', hl', h2, h3, h4⟩ := ih (j + 1) (l.set j (G c)) (c + w) (by rw [List.length_set]; omega) (by rw [List.length_set]; omega) (by rw [List.length_set]; exact hl) (by omega) (by omega)
    rw [List.length_set] at hl' h3
    refine ⟨l', hl', fun i hi => ?_, fun i hi1 hi2 => ?_, fun k hk => ?_⟩
    · rw [h2 i (by omega), List.getElem?_set_ne (by omega)]
    · by_cases hij : i = j
      · subst hij
        rw [h2 i (by omega), List.getElem?_set_self (by omega)]
        simp
      · rw [h3 i (by omega) hi2]
        congr 2
        have : ((i - j : Nat) : Int) = ((i - (j + 1) : Nat) : Int) + 1 := by omega
        rw [this, Int.mul_add, Int.mul_one]
        omega
    · obtain ⟨k, rfl⟩ : ∃ m, k = m + 1 := ⟨k - 1, by omega⟩
      rw [hs k l c j (by omega) hl (by omega) h0 (by omega), h4 k (by omega), hmul]
      congr 2
      omega
theorem held_loop {α : Type} {F : Nat → List α → Int → Int → Option Int} {G : Int → α} {w : Nat} {l : List α}
    (hs : ∀ k (c : Int) (j : Nat) (hj : j < l.length), l.length ≤ 2000000 → 20 ≤ k → 0 ≤ c → c ≤ 100000000000000 → l[j] = G c → F (k + 1) l c (j : Int) = F k l (c + w) ((j + 1 : Nat) : Int))
    (he : ∀ k (c : Int), F (k + 1) l c (l.length : Int) = some c) (hl : l.length ≤ 2000000) :
    ∀ (d j : Nat) (c : Int), l.length - j = d → j ≤ l.length → 0 ≤ c → c + w * d ≤ 100000000000000 → (∀ i, j ≤ i → i < l.length → l[i]? = some (G (c + w * ((i - j : Nat) : Int)))) → ∀ k, d + 20 < k → F k l c (j : Int) = some (c + w * d) := by
  intro d
  induction d with
  | zero =>
    intro j c hd hj h0 h1 hG k hk
    obtain rfl : j = l.length := by omega
    obtain ⟨k, rfl⟩ : ∃ m, k = m + 1 := ⟨k - 1, by omega⟩
    rw [he]
    simp
  | succ d ih =>
    intro j c hd hj h0 h1 hG k hk
    obtain ⟨k, rfl⟩ : ∃ m, k = m + 1 := ⟨k - 1, by omega⟩
    have hjl : j < l.length := by omega
    have hmul : (w : Int) * ((d + 1 : Nat) : Int) = w + w * d := by rw [Int.natCast_succ, Int.mul_add, Int.mul_one, Int.add_comm]
    have hwd : 0 ≤ (w : Int) * (d : Int) := Int.mul_nonneg (by omega) (by omega)
    have hj0 : l[j] = G c := by
      have := hG j (Nat.le_refl _) hjl
      rw [List.getElem?_eq_getElem hjl] at this
      simpa using this
    rw [hs k c j hjl hl (by omega) h0 (by omega) hj0, ih (j + 1) (c + w) (by omega) (by omega) (by omega) (by omega) (fun i h2 h3 => ?_) k (by omega), hmul]
    · congr 1; omega
    · rw [hG i (by omega) h3]
      congr 2
      have : ((i - j : Nat) : Int) = ((i - (j + 1) : Nat) : Int) + 1 := by omega
      rw [this, Int.mul_add, Int.mul_one]
      omega

/-! ### m_Session -/
theorem eqSessionS_ok (l : List S119) (hl : l.length ≤ 2000000) : ∀ k, l.length < k → laws_eqSessionS.f k l l = some true := by
  intro k hk
  unfold laws_eqSessionS.f
  rw [if_pos rfl]
  refine up_loop (F := fun k j => laws_eqSessionS.l0 k l l j) (n := l.length) ?_ ?_ l.length 0 (by omega) (by omega) k hk
  · intro k j hj
    simp (disch := omega) only [laws_eqSessionS.l0, laws_eqSession.f, ip, w64, Option.bind_some, if_true, bne_self_eq_false, Bool.false_eq_true, if_false]
    rfl
  · intro k
    simp only [laws_eqSessionS.l0]
    rw [if_neg (by omega)]

/-! ### m_Item -/
theorem eqItemS_ok (l : List S121) (hl : l.length ≤ 2000000) : ∀ k, l.length < k → laws_eqItemS.f k l l = some true := by
  intro k hk
  unfold laws_eqItemS.f
  rw [if_pos rfl]
  refine up_loop (F := fun k j => laws_eqItemS.l0 k l l j) (n := l.length) ?_ ?_ l.length 0 (by omega) (by omega) k hk
  · intro k j hj
    simp (disch := omega) only [laws_eqItemS.l0, laws_eqItem.f, ip, w64, Option.bind_some, if_true, bne_self_eq_false, Bool.false_eq_true, if_false]
    rfl
  · intro k
    simp only [laws_eqItemS.l0]
    rw [if_neg (by omega)]

/-! ### keep -/
theorem eqKeep_ok (a : List S119) (b : List S121) (ha : a.length ≤ 2000000) (hb : b.length ≤ 2000000) : ∀ k, a.length + b.length < k → laws_eqKeep.f k a b a b = some true := by
  intro k hk
  unfold laws_eqKeep.f
  rw [eqSessionS_ok a ha k (by omega), eqItemS_ok b hb k (by omega)]
  rfl
theorem szKeep_ok (a : List S174) (b : List S176) (ha : a.length ≤ maxLen) (hb : b.length ≤ maxLen) (wa : ∀ x ∈ a, wf174 x) (wb : ∀ x ∈ b, wf176 x) (left : Int) (l0 : 0 ≤ left) (l1 : left ≤ 1048576) :
    ∃ t, (∀ k, a.length + b.length < k → laws_szKeep.f k a b left = some t) ∧ (t < 0 ∨ (0 ≤ t ∧ t ≤ 1048576 ∧ a.length ≤ 1048576 ∧ b.length ≤ 1048576)) := by
  obtain ⟨t, h1, h2⟩ := szSessionS_ok a ha wa left l0 l1
  rcases h2 with h2 | ⟨h2, h3, h4, _⟩
  · refine ⟨-1, fun k hk => ?_, .inl (by omega)⟩
    unfold laws_szKeep.f
    rw [h1 k (by omega)]
    simp only [Option.bind_some]
    rw [if_pos h2]
  · obtain ⟨u, h5, h6⟩ := szItemS_ok b hb wb t h2 (by omega)
    by_cases hu : u < 0
    · refine ⟨-1, fun k hk => ?_, .inl (by omega)⟩
      unfold laws_szKeep.f
      rw [h1 k (by omega)]
      simp only [Option.bind_some]
      rw [if_neg (by omega), h5 k (by omega)]
      simp only [Option.bind_some]
      rw [if_pos hu]
    · have h7 := h6.resolve_left hu
      refine ⟨u, fun k hk => ?_, .inr ⟨h7.1, by omega, h4, h7.2.2.1⟩⟩
      unfold laws_szKeep.f
      rw [h1 k (by omega)]
      simp only [Option.bind_some]
      rw [if_neg (by omega), h5 k (by omega)]
      simp only [Option.bind_some]
      rw [if_neg hu]
theorem toKeep_ok (a : List S174) (b : List S176) (ha : a.length ≤ 1048576) (hb : b.length ≤ 1048576) : ∀ k, a.length + b.length < k → laws_toKeep.f k a b = some (a.map conSession, b.map conItem) := by
  intro k hk
  unfold laws_toKeep.f
  rw [toSessionS_ok a ha k (by omega), toItemS_ok b hb k (by omega)]
  rfl

/-! ### all -/
def allF (p : Nat → Bool) (j : Nat) : Nat → Bool
  | 0 => true
  | d + 1 => p j && allF p (j + 1) d
/-- A loop that asks the same of each place, one after the other, and then something more. -/
theorem all_ev {F : Nat → Nat → Option Bool} {n : Nat} {p : Nat → Bool} {R : Bool}
    (hs : ∀ j, j < n → (p j = true → ∀ r, Ev (fun k => F k (j + 1)) r → Ev (fun k => F k j) r) ∧ (p j = false → Ev (fun k => F k j) false))
    (he : Ev (fun k => F k n) R) : ∀ d j, n - j = d → j ≤ n → Ev (fun k => F k j) (allF p j d && R) := by
  intro d
  induction d with
  | zero =>
    intro j hd hj
    obtain rfl : j = n := by omega
    simpa [allF] using he
  | succ d ih =>
    intro j hd hj
    have h := hs j (by omega)
    cases hp : p j with
    | true =>
      have := ih (j + 1) (by omega) (by omega)
      simp only [allF, hp, Bool.true_and]
      exact h.1 hp _ this
    | false =>
      simp only [allF, hp, Bool.false_and]
      exact h.2 hp
theorem Ev.here {α : Type} {F f : Nat → Option α} {r : α} (hs : ∀ k, F (k + 1) = f k) (h : ∀ k, f k = some r) : Ev F r := Ev.step hs ⟨0, fun k _ => h k⟩

/-! ### in -/
def rng (a b c : Int) : Bool := decide (b ≤ a) && decide (a ≤ c)
theorem rng_iff {a b c : Int} : rng a b c = true ↔ b ≤ a ∧ a ≤ c := by simp [rng]
theorem rng_false {a b c : Int} : rng a b c = false ↔ ¬ (b ≤ a ∧ a ≤ c) := by rw [← rng_iff]; simp
theorem in_eq (a b c : Int) : spec_l01In.f a b c = some (rng a b c) := by
  unfold spec_l01In.f rng
  by_cases h : b ≤ a
  · rw [if_pos h]; simp [h]
  · rw [if_neg h]; simp [h]
theorem within_eq (a b c : Int) : impl_within.f a b c = some (rng a b c) := by
  unfold impl_within.f rng
  by_cases h : b ≤ a
  · rw [if_pos h]; simp [h]
  · rw [if_neg h]; simp [h]

/-! ### keepok -/
def pS (a : List S119) (j : Nat) : Bool :=
  rng (rd_T119 a j).f0 1 1000000 && (!(decide ((j : Int) > 0) && decide ((rd_T119 a ((j : Int) - 1)).f0 ≥ (rd_T119 a j).f0)) && (rng (rd_T119 a j).f1 0 1000000 && (decide (((rd_T119 a j).f2.size : Int) ≤ 40) && (!decide ((rd_T119 a j).f1 = 0) || decide ((rd_T119 a j).f2.toList = ([] : List UInt8))))))
def pI (a : List S121) (j : Nat) : Bool :=
  rng ((rd_T121 a j).f0.size : Int) 1 8 && ((!decide ((j : Int) > 0) || Op.bytesLess (rd_T121 a ((j : Int) - 1)).f0.toList (rd_T121 a j).f0.toList) && (decide (((rd_T121 a j).f1.size : Int) ≤ 20) && rng (rd_T121 a j).f2 1 1000000000))
def keepB (a : List S119) (b : List S121) : Bool :=
  (allF (pS a) 0 a.length && decide ((a.length : Int) ≤ 3)) && (allF (pI b) 0 b.length && decide ((b.length : Int) ≤ 8))
theorem gt_iff {x : Int} : (x > 40) = ¬ (x ≤ 40) := by simp
theorem gt_iff20 {x : Int} : (x > 20) = ¬ (x ≤ 20) := by simp
theorem spec_sess (a : List S119) (ha : a.length ≤ 1048576) : Ev (fun k => spec_l15Sessions.f k a) (allF (pS a) 0 a.length && decide ((a.length : Int) ≤ 3)) := by
  refine all_ev (F := fun k j => spec_l15Sessions.l0 k a (j : Int)) (n := a.length) (fun j hj => ?_) ?_ a.length 0 (by omega) (by omega)
  · have es : ∀ k, spec_l15Sessions.l0 (k + 1) a (j : Int) = if pS a j = true then spec_l15Sessions.l0 k a ((j + 1 : Nat) : Int) else some false := fun k => by
      simp only [spec_l15Sessions.l0]
      rw [if_pos (by omega), if_pos (by omega)]
      simp only [in_eq, Option.bind_some, gt_iff]
      rw [w64 (x := (j : Int) + 1) (by omega) (by omega), w64 (x := (j : Int) - 1) (by omega) (by omega)]
      unfold pS
      have e1 : ((j : Int) + 1) = ((j + 1 : Nat) : Int) := by omega
      rw [e1]
      by_cases h0 : (j : Int) > 0
      · simp only [h0, show (0 : Int) ≤ (j : Int) - 1 by omega, show (j : Int) - 1 < (a.length : Int) by omega, if_true]
        cases h1 : rng (rd_T119 a j).f0 1 1000000 <;> cases h2 : rng (rd_T119 a j).f1 0 1000000 <;>
          by_cases h3 : (rd_T119 a ((j : Int) - 1)).f0 ≥ (rd_T119 a j).f0 <;> by_cases h4 : ((rd_T119 a j).f2.size : Int) ≤ 40 <;>
          by_cases h5 : (rd_T119 a j).f1 = 0 <;> by_cases h6 : (rd_T119 a j).f2.toList = ([] : List UInt8) <;> simp [h1, h2, h3, h4, h5, h6]
      · simp only [h0, if_false]
        cases h1 : rng (rd_T119 a j).f0 1 1000000 <;> cases h2 : rng (rd_T119 a j).f1 0 1000000 <;>
          by_cases h4 : ((rd_T119 a j).f2.size : Int) ≤ 40 <;>
          by_cases h5 : (rd_T119 a j).f1 = 0 <;> by_cases h6 : (rd_T119 a j).f2.toList = ([] : List UInt8) <;> simp [h1, h2, h4, h5, h6]
    refine ⟨fun hp r hr => Ev.step (fun k => by rw [es, if_pos hp]) hr, fun hp => Ev.here (f := fun _ => some false) (fun k => by rw [es, if_neg (by simp [hp])]) (fun _ => rfl)⟩
  · exact Ev.here (f := fun _ => some (decide ((a.length : Int) ≤ 3))) (fun k => by simp only [spec_l15Sessions.l0]; rw [if_neg (by omega)]) (fun _ => rfl)
theorem spec_KeepOk_ok (a : List S119) (b : List S121) (ha : a.length ≤ 1048576) (hb : b.length ≤ 1048576) : Ev (fun k => spec_KeepOk.f k a b) (keepB a b) := by
  have hfin : Ev (fun k => spec_KeepOk.l0 k ((b.length : Nat) : Int) a b) (allF (pS a) 0 a.length && decide ((a.length : Int) ≤ 3) && decide ((b.length : Int) ≤ 8)) := by
    refine Ev.step (fun k => by simp only [spec_KeepOk.l0]; rw [if_neg (by omega)]) ?_
    refine Ev.bind (spec_sess a ha) ?_
    cases allF (pS a) 0 a.length && decide ((a.length : Int) ≤ 3)
    · simpa using Ev.now false
    · simpa using Ev.now (decide ((b.length : Int) ≤ 8))
  have h := all_ev (F := fun k j => spec_KeepOk.l0 k (j : Int) a b) (p := pI b) (n := b.length) (fun j hj => ?_) hfin b.length 0 (by omega) (by omega)
  · have e : keepB a b = (allF (pI b) 0 b.length && (allF (pS a) 0 a.length && decide ((a.length : Int) ≤ 3) && decide ((b.length : Int) ≤ 8))) := by
      unfold keepB
      cases allF (pI b) 0 b.length <;> cases allF (pS a) 0 a.length && decide ((a.length : Int) ≤ 3) <;> simp
    rw [e]
    exact h
  · have es : ∀ k, spec_KeepOk.l0 (k + 1) (j : Int) a b = if pI b j = true then spec_KeepOk.l0 k ((j + 1 : Nat) : Int) a b else some false := fun k => by
      simp only [spec_KeepOk.l0]
      rw [if_pos (by omega), if_pos (by omega)]
      simp only [in_eq, Option.bind_some, gt_iff20]
      rw [w64 (x := (j : Int) + 1) (by omega) (by omega), w64 (x := (j : Int) - 1) (by omega) (by omega)]
      unfold pI
      have e1 : ((j : Int) + 1) = ((j + 1 : Nat) : Int) := by omega
      rw [e1]
      by_cases h0 : (j : Int) > 0
      · simp only [h0, show (0 : Int) ≤ (j : Int) - 1 by omega, show (j : Int) - 1 < (b.length : Int) by omega, if_true]
        cases h1 : rng ((rd_T121 b j).f0.size : Int) 1 8 <;> cases h2 : rng (rd_T121 b j).f2 1 1000000000 <;>
          cases h3 : Op.bytesLess (rd_T121 b ((j : Int) - 1)).f0.toList (rd_T121 b j).f0.toList <;> by_cases h4 : ((rd_T121 b j).f1.size : Int) ≤ 20 <;> simp [h1, h2, h3, h4]
      · simp only [h0, if_false]
        cases h1 : rng ((rd_T121 b j).f0.size : Int) 1 8 <;> cases h2 : rng (rd_T121 b j).f2 1 1000000000 <;>
          by_cases h4 : ((rd_T121 b j).f1.size : Int) ≤ 20 <;> simp [h1, h2, h4]
    refine ⟨fun hp r hr => Ev.step (fun k => by rw [es, if_pos hp]) hr, fun hp => Ev.here (f := fun _ => some false) (fun k => by rw [es, if_neg (by simp [hp])]) (fun _ => rfl)⟩
theorem impl_items (a : List S119) (b : List S121) (ha : a.length ≤ 1048576) (hb : b.length ≤ 1048576) : Ev (fun k => impl_KeepOk.l1 k b (b.length : Int) 0 a b) (decide ((a.length : Int) ≤ 3) && (allF (pI b) 0 b.length && decide ((b.length : Int) ≤ 8))) := by
  have hfin : Ev (fun k => impl_KeepOk.l1 k b (b.length : Int) ((b.length : Nat) : Int) a b) (decide ((a.length : Int) ≤ 3) && decide ((b.length : Int) ≤ 8)) := by
    refine Ev.here (f := fun _ => some (decide ((a.length : Int) ≤ 3) && decide ((b.length : Int) ≤ 8))) (fun k => ?_) (fun _ => rfl)
    simp only [impl_KeepOk.l1]
    rw [if_neg (by omega)]
    by_cases h : (a.length : Int) ≤ 3 <;> simp [h]
  have h := all_ev (F := fun k j => impl_KeepOk.l1 k b (b.length : Int) (j : Int) a b) (p := pI b) (n := b.length) (fun j hj => ?_) hfin b.length 0 (by omega) (by omega)
  · have e : (decide ((a.length : Int) ≤ 3) && (allF (pI b) 0 b.length && decide ((b.length : Int) ≤ 8))) = (allF (pI b) 0 b.length && (decide ((a.length : Int) ≤ 3) && decide ((b.length : Int) ≤ 8))) := by
      cases allF (pI b) 0 b.length <;> cases decide ((a.length : Int) ≤ 3) <;> simp
    rw [e]
    exact h
  · have es : ∀ k, impl_KeepOk.l1 (k + 1) b (b.length : Int) (j : Int) a b = if pI b j = true then impl_KeepOk.l1 k b (b.length : Int) ((j + 1 : Nat) : Int) a b else some false := fun k => by
      simp only [impl_KeepOk.l1]
      rw [if_pos (by omega), if_pos (by omega), if_pos (by omega)]
      simp only [impl_keyOk.f, impl_valOk.f, within_eq, Option.bind_some, decide_eq_true_eq]
      rw [w64 (x := (j : Int) + 1) (by omega) (by omega), w64 (x := (j : Int) - 1) (by omega) (by omega)]
      unfold pI
      have e1 : ((j : Int) + 1) = ((j + 1 : Nat) : Int) := by omega
      rw [e1]
      by_cases h0 : (j : Int) > 0
      · simp only [h0, show (0 : Int) ≤ (j : Int) - 1 by omega, show (j : Int) - 1 < (b.length : Int) by omega, if_true]
        cases h1 : rng ((rd_T121 b j).f0.size : Int) 1 8 <;> cases h2 : rng (rd_T121 b j).f2 1 1000000000 <;>
          cases h3 : Op.bytesLess (rd_T121 b ((j : Int) - 1)).f0.toList (rd_T121 b j).f0.toList <;> by_cases h4 : ((rd_T121 b j).f1.size : Int) ≤ 20 <;> simp [h1, h2, h3, h4]
      · simp only [h0, if_false]
        cases h1 : rng ((rd_T121 b j).f0.size : Int) 1 8 <;> cases h2 : rng (rd_T121 b j).f2 1 1000000000 <;>
          by_cases h4 : ((rd_T121 b j).f1.size : Int) ≤ 20 <;> simp [h1, h2, h4]
    refine ⟨fun hp r hr => Ev.step (fun k => by rw [es, if_pos hp]) hr, fun hp => Ev.here (f := fun _ => some false) (fun k => by rw [es, if_neg (by simp [hp])]) (fun _ => rfl)⟩
theorem impl_KeepOk_ok (a : List S119) (b : List S121) (ha : a.length ≤ 1048576) (hb : b.length ≤ 1048576) : Ev (fun k => impl_KeepOk.f k a b) (keepB a b) := by
  have hfin : Ev (fun k => impl_KeepOk.l0 k a (a.length : Int) ((a.length : Nat) : Int) a b) (decide ((a.length : Int) ≤ 3) && (allF (pI b) 0 b.length && decide ((b.length : Int) ≤ 8))) :=
    Ev.step (fun k => by simp only [impl_KeepOk.l0]; rw [if_neg (by omega)]) (impl_items a b ha hb)
  have h := all_ev (F := fun k j => impl_KeepOk.l0 k a (a.length : Int) (j : Int) a b) (p := pS a) (n := a.length) (fun j hj => ?_) hfin a.length 0 (by omega) (by omega)
  · have e : keepB a b = (allF (pS a) 0 a.length && (decide ((a.length : Int) ≤ 3) && (allF (pI b) 0 b.length && decide ((b.length : Int) ≤ 8)))) := by
      unfold keepB
      cases allF (pS a) 0 a.length <;> simp
    rw [e]
    exact h
  · have es : ∀ k, impl_KeepOk.l0 (k + 2) a (a.length : Int) (j : Int) a b = if pS a j = true then impl_KeepOk.l0 k a (a.length : Int) ((j + 1 : Nat) : Int) a b else some false := fun k => by
      simp only [impl_KeepOk.l0, impl_KeepOk.j1]
      rw [if_pos (by omega), if_pos (by omega), if_pos (by omega)]
      simp only [impl_isIndex.f, within_eq, Option.bind_some, gt_iff]
      rw [w64 (x := (j : Int) + 1) (by omega) (by omega), w64 (x := (j : Int) - 1) (by omega) (by omega)]
      unfold pS
      have e1 : ((j : Int) + 1) = ((j + 1 : Nat) : Int) := by omega
      rw [e1]
      by_cases h0 : (j : Int) > 0
      · simp only [h0, show (0 : Int) ≤ (j : Int) - 1 by omega, show (j : Int) - 1 < (a.length : Int) by omega, if_true]
        cases h1 : rng (rd_T119 a j).f0 1 1000000 <;> cases h2 : rng (rd_T119 a j).f1 0 1000000 <;>
          by_cases h3 : (rd_T119 a ((j : Int) - 1)).f0 ≥ (rd_T119 a j).f0 <;> by_cases h4 : ((rd_T119 a j).f2.size : Int) ≤ 40 <;>
          by_cases h5 : (rd_T119 a j).f1 = 0 <;> by_cases h6 : (rd_T119 a j).f2.toList = ([] : List UInt8) <;> simp [h1, h2, h3, h4, h5, h6]
      · simp only [h0, if_false]
        cases h1 : rng (rd_T119 a j).f0 1 1000000 <;> cases h2 : rng (rd_T119 a j).f1 0 1000000 <;>
          by_cases h4 : ((rd_T119 a j).f2.size : Int) ≤ 40 <;>
          by_cases h5 : (rd_T119 a j).f1 = 0 <;> by_cases h6 : (rd_T119 a j).f2.toList = ([] : List UInt8) <;> simp [h1, h2, h4, h5, h6]
    have two : ∀ r, Ev (fun k => if pS a j = true then impl_KeepOk.l0 k a (a.length : Int) ((j + 1 : Nat) : Int) a b else some false) r → Ev (fun k => impl_KeepOk.l0 k a (a.length : Int) (j : Int) a b) r := by
      rintro r ⟨K, hK⟩
      refine ⟨K + 2, fun k hk => ?_⟩
      obtain ⟨m, rfl⟩ : ∃ m, k = m + 2 := ⟨k - 2, by omega⟩
      show impl_KeepOk.l0 (m + 2) a (a.length : Int) (j : Int) a b = some r
      rw [es]
      exact hK m (by omega)
    refine ⟨fun hp r hr => two r (by simpa only [hp, if_true] using hr), fun hp => two false ⟨0, fun k _ => by simp [hp]⟩⟩

/-! ### bl -/
theorem bl_inj {s t : ByteArray} (h : bytesOf s = bytesOf t) : s = t := by
  unfold bytesOf at h
  have h2 : s.data.toList = t.data.toList := by
    apply List.ext_getElem?
    intro i
    have h3 := congrArg (fun l => l[i]?) h
    simp only [List.getElem?_map] at h3
    cases h4 : s.data.toList[i]? <;> cases h5 : t.data.toList[i]? <;> rw [h4, h5] at h3 <;> simp at h3 ⊢
    exact UInt8.toNat_inj.1 (by omega)
  exact ByteArray.ext (by rw [← Array.toArray_toList (xs := s.data), h2])
theorem bl_app (s t : ByteArray) : bytesOf (s ++ t) = bytesOf s ++ bytesOf t := by
  unfold bytesOf
  rw [ByteArray.toList_data_append, List.map_append]
theorem bl_ext (s : ByteArray) (a b : Nat) : bytesOf (s.extract a b) = ((bytesOf s).drop a).take (b - a) := by
  unfold bytesOf
  rw [ByteArray.data_extract, Array.toList_extract, ← List.map_drop, ← List.map_take] <;> simp [List.extract_eq_drop_take]
theorem bl_range {s : ByteArray} : ∀ x ∈ bytesOf s, 0 ≤ x ∧ x ≤ 255 := by
  intro x hx
  obtain ⟨b, _, rfl⟩ := List.mem_map.1 hx
  have := b.toNat_lt
  omega
theorem bl_str {l : List Int} (h : ∀ x ∈ l, 0 ≤ x ∧ x ≤ 255) : bytesOf (strOfNums l) = l := by
  unfold bytesOf
  rw [strOfNums_data, List.map_map]
  have : ∀ x ∈ l, ((fun b : UInt8 => (b.toNat : Int)) ∘ fun n : Int => UInt8.ofNat n.toNat) x = x := by
    intro x hx
    have := h x hx
    simp only [Function.comp, UInt8.toNat_ofNat']
    omega
  rw [List.map_congr_left this, List.map_id']
theorem str_bl (s : ByteArray) : strOfNums (bytesOf s) = s := bl_inj (bl_str bl_range)
theorem bl_empty : bytesOf (⟨#[]⟩ : ByteArray) = [] := rfl
theorem bt_bl (s : ByteArray) (i : Int) : bt s i = rd (bytesOf s) i := (rd_bytesOf s i).symm
theorem toList_iff {s t : ByteArray} : s.toList = t.toList ↔ s = t := by
  rw [ByteArray.toList_eq, ByteArray.toList_eq]
  constructor
  · intro h; exact ByteArray.ext (by rw [← Array.toArray_toList (xs := s.data), h])
  · intro h; rw [h]
theorem toList_nil {s : ByteArray} : s.toList = ([] : List UInt8) ↔ bytesOf s = [] := by
  rw [ByteArray.toList_eq]
  unfold bytesOf
  simp

/-! ### var -/
def varL : Nat → Int → List Int
  | 0, x => [x % 256]
  | d + 1, x => if x > 127 then (x % 128 + 128) % 256 :: varL d (x / 128) else [x % 256]
theorem varL_length : ∀ d x, (varL d x).length ≤ d + 1 := by
  intro d
  induction d with
  | zero => intro x; simp [varL]
  | succ d ih =>
    intro x
    unfold varL
    split
    · have := ih (x / 128); simp only [List.length_cons]; omega
    · simp
def varT (x : Int) : ByteArray := strOfNums (varL 8 x)
theorem varT_size (x : Int) : (varT x).size ≤ 9 := by
  unfold varT
  rw [strOfNums_size]
  exact varL_length 8 x
theorem spec_var_loop : ∀ (d : Nat) (x : Int) (acc : List Int), 0 ≤ x → x < 128 ^ (d + 1) → x ≤ 9223372036854775807 → acc.length + d ≤ 1000 → ∀ k, d < k → spec_l01Var.l0 k x acc = some (strOfNums (acc ++ varL d x)) := by
  intro d
  induction d with
  | zero =>
    intro x acc h0 h1 h2 h3 k hk
    obtain ⟨k, rfl⟩ : ∃ m, k = m + 1 := ⟨k - 1, by omega⟩
    simp only [spec_l01Var.l0, varL]
    rw [if_neg (by omega), if_pos (by omega)]
  | succ d ih =>
    intro x acc h0 h1 h2 h3 k hk
    obtain ⟨k, rfl⟩ : ∃ m, k = m + 1 := ⟨k - 1, by omega⟩
    simp only [spec_l01Var.l0, varL]
    by_cases hx : x > 127
    · have hp : (128 : Int) ^ (d + 1 + 1) = 128 ^ (d + 1) * 128 := Int.pow_succ 128 (d + 1)
      rw [if_pos hx, if_pos (by omega), if_pos hx, Int.tdiv_eq_ediv_of_nonneg h0, Int.tmod_eq_emod_of_nonneg h0, w64 (x := x / 128) (by omega) (by omega), w64 (x := x % 128 + 128) (by omega) (by omega)]
      rw [ih (x / 128) (acc ++ [(x % 128 + 128) % 256]) (by omega) (by omega) (by omega) (by rw [List.length_append, List.length_singleton]; omega) k (by omega), List.append_assoc]
      rfl
    · rw [if_neg hx, if_pos (by omega), if_neg hx]
theorem spec_var (x : Int) (h0 : 0 ≤ x) (h1 : x ≤ 1000000000) : Ev (fun k => spec_l01Var.f k x) (varT x) := ⟨9, fun k hk => by
  exact spec_var_loop 8 x [] h0 (by omega) (by omega) (by simp) k (by omega)⟩
theorem impl_var_loop : ∀ (d : Nat) (x : Int) (acc : List Int), 0 ≤ x → x < 128 ^ (d + 1) → x ≤ 9223372036854775807 → acc.length + d ≤ 1000 → ∀ k, d < k → impl_VarText.l0 k x acc = some (strOfNums (acc ++ varL d x), true) := by
  intro d
  induction d with
  | zero =>
    intro x acc h0 h1 h2 h3 k hk
    obtain ⟨k, rfl⟩ : ∃ m, k = m + 1 := ⟨k - 1, by omega⟩
    simp only [impl_VarText.l0, varL]
    rw [if_neg (by omega), if_pos (by omega)]
  | succ d ih =>
    intro x acc h0 h1 h2 h3 k hk
    obtain ⟨k, rfl⟩ : ∃ m, k = m + 1 := ⟨k - 1, by omega⟩
    simp only [impl_VarText.l0, varL]
    by_cases hx : x > 127
    · have hp : (128 : Int) ^ (d + 1 + 1) = 128 ^ (d + 1) * 128 := Int.pow_succ 128 (d + 1)
      rw [if_pos hx, if_pos (by omega), if_pos hx, Int.tdiv_eq_ediv_of_nonneg h0, Int.tmod_eq_emod_of_nonneg h0, w64 (x := x / 128) (by omega) (by omega), w64 (x := x % 128 + 128) (by omega) (by omega)]
      rw [ih (x / 128) (acc ++ [(x % 128 + 128) % 256]) (by omega) (by omega) (by omega) (by rw [List.length_append, List.length_singleton]; omega) k (by omega), List.append_assoc]
      rfl
    · rw [if_neg hx, if_pos (by omega), if_neg hx]
theorem impl_var (x : Int) (h0 : 0 ≤ x) (h1 : x ≤ 1000000000) : Ev (fun k => impl_VarText.f k x) (varT x, true) := ⟨9, fun k hk => by
  unfold impl_VarText.f
  have hr : rng x 0 1000000000 = true := rng_iff.2 ⟨h0, h1⟩
  simp only [within_eq, hr, Option.bind_some, if_true]
  exact impl_var_loop 8 x [] h0 (by omega) (by omega) (by simp) k (by omega)⟩
def shortT (s : ByteArray) : ByteArray := varT (s.size : Int) ++ s
theorem shortT_size (s : ByteArray) : (shortT s).size ≤ s.size + 9 := by
  have := varT_size (s.size : Int)
  unfold shortT
  rw [ByteArray.size_append]
  omega
theorem spec_short (s : ByteArray) (hs : s.size ≤ 1000000000) : Ev (fun k => spec_l16Short.f k s) (shortT s) := by
  unfold spec_l16Short.f
  refine Ev.bind (spec_var (s.size : Int) (by omega) (by omega)) ?_
  have := varT_size (s.size : Int)
  simp only [if_pos (show (varT (s.size : Int)).size + s.size ≤ 9223372036854775807 by omega)]
  exact Ev.now _
theorem impl_short (s : ByteArray) (hs : s.size ≤ 20000) : Ev (fun k => impl_ShortText.f k s) (shortT s, true) := by
  unfold impl_ShortText.f
  simp only [if_neg (show ¬ (s.size : Int) > 20000 by omega)]
  refine Ev.bind (impl_var (s.size : Int) (by omega) (by omega)) ?_
  have := varT_size (s.size : Int)
  simp only [if_pos (show (varT (s.size : Int)).size + s.size ≤ 9223372036854775807 by omega)]
  exact Ev.now _
def catB {α : Type} (f : α → ByteArray) : List α → ByteArray
  | [] => (⟨#[]⟩ : ByteArray)
  | x :: l => f x ++ catB f l
theorem app_empty (s : ByteArray) : s ++ (⟨#[]⟩ : ByteArray) = s := bl_inj (by rw [bl_app, bl_empty, List.append_nil])
theorem empty_app (s : ByteArray) : (⟨#[]⟩ : ByteArray) ++ s = s := bl_inj (by rw [bl_app, bl_empty, List.nil_append])
theorem varTexts_loop (l : List Int) (hl : l.length ≤ 1000000) (hr : ∀ x ∈ l, 0 ≤ x ∧ x ≤ 1000000000) : ∀ (d j : Nat) (acc : ByteArray), l.length - j = d → j ≤ l.length → acc.size ≤ 100 * j → Ev (fun k => impl_varTexts.l0 k acc l (l.length : Int) (j : Int)) (acc ++ catB varT (l.drop j)) := by
  intro d
  induction d with
  | zero =>
    intro j acc hd hj ha
    rw [List.drop_of_length_le (by omega)]
    simp only [catB, app_empty]
    exact Ev.step (f := fun _ => some acc) (fun k => by simp only [impl_varTexts.l0]; rw [if_neg (by omega)]) (Ev.now _)
  | succ d ih =>
    intro j acc hd hj ha
    have hjl : j < l.length := by omega
    have hget : rd l (j : Int) = l[j] := by unfold rd; rw [List.getD_eq_getElem?_getD, Int.toNat_natCast, List.getElem?_eq_getElem hjl]; rfl
    have hx := hr l[j] (List.getElem_mem _)
    refine Ev.step (f := fun k => (impl_VarText.f k l[j]).bind fun bt => if acc.size + bt.1.size ≤ 9223372036854775807 then impl_varTexts.l0 k (acc ++ bt.1) l (l.length : Int) ((j + 1 : Nat) : Int) else none) (fun k => ?_) ?_
    · simp only [impl_varTexts.l0]
      rw [if_pos (by omega), if_pos (by omega), if_pos (by omega), hget, w64 (x := (j : Int) + 1) (by omega) (by omega)]
      rfl
    · refine Ev.bind (impl_var _ hx.1 hx.2) ?_
      have h9 := varT_size l[j]
      simp only [if_pos (show acc.size + (varT l[j]).size ≤ 9223372036854775807 by omega)]
      have := ih (j + 1) (acc ++ varT l[j]) (by omega) (by omega) (by rw [ByteArray.size_append]; omega)
      rw [List.drop_eq_getElem_cons hjl, catB, ← ByteArray.append_assoc]
      exact this
theorem varTexts_ok (l : List Int) (hl : l.length ≤ 1000000) (hr : ∀ x ∈ l, 0 ≤ x ∧ x ≤ 1000000000) : Ev (fun k => impl_varTexts.f k l) (catB varT l) := by
  have := varTexts_loop l hl hr l.length 0 (⟨#[]⟩ : ByteArray) (by omega) (by omega) (by show 0 ≤ _; omega)
  rw [empty_app] at this
  exact this
theorem shortTexts_loop (l : List ByteArray) (hl : l.length ≤ 1000000) (hr : ∀ x ∈ l, x.size ≤ 20000) : ∀ (d j : Nat) (acc : ByteArray), l.length - j = d → j ≤ l.length → acc.size ≤ 30000 * j → Ev (fun k => impl_shortTexts.l0 k acc l (l.length : Int) (j : Int)) (acc ++ catB shortT (l.drop j)) := by
  intro d
  induction d with
  | zero =>
    intro j acc hd hj ha
    rw [List.drop_of_length_le (by omega)]
    simp only [catB, app_empty]
    exact Ev.step (f := fun _ => some acc) (fun k => by simp only [impl_shortTexts.l0]; rw [if_neg (by omega)]) (Ev.now _)
  | succ d ih =>
    intro j acc hd hj ha
    have hjl : j < l.length := by omega
    have hget : rdOf ByteArray.empty l (j : Int) = l[j] := by unfold rdOf; rw [List.getD_eq_getElem?_getD, Int.toNat_natCast, List.getElem?_eq_getElem hjl]; rfl
    have hx := hr l[j] (List.getElem_mem _)
    refine Ev.step (f := fun k => (impl_ShortText.f k l[j]).bind fun bt => if acc.size + bt.1.size ≤ 9223372036854775807 then impl_shortTexts.l0 k (acc ++ bt.1) l (l.length : Int) ((j + 1 : Nat) : Int) else none) (fun k => ?_) ?_
    · simp only [impl_shortTexts.l0]
      rw [if_pos (by omega), if_pos (by omega), if_pos (by omega), hget, w64 (x := (j : Int) + 1) (by omega) (by omega)]
      rfl
    · refine Ev.bind (impl_short _ hx) ?_
      have h9 := shortT_size l[j]
      simp only [if_pos (show acc.size + (shortT l[j]).size ≤ 9223372036854775807 by omega)]
      have := ih (j + 1) (acc ++ shortT l[j]) (by omega) (by omega) (by rw [ByteArray.size_append]; omega)
      rw [List.drop_eq_getElem_cons hjl, catB, ← ByteArray.append_assoc]
      exact this
theorem shortTexts_ok (l : List ByteArray) (hl : l.length ≤ 1000000) (hr : ∀ x ∈ l, x.size ≤ 20000) : Ev (fun k => impl_shortTexts.f k l) (catB shortT l) := by
  have := shortTexts_loop l hl hr l.length 0 (⟨#[]⟩ : ByteArray) (by omega) (by omega) (by show 0 ≤ _; omega)
  rw [empty_app] at this
  exact this

/-! ### keeptext -/
theorem allF_all {p : Nat → Bool} : ∀ d j, allF p j d = true → ∀ i, j ≤ i → i < j + d → p i = true := by
  intro d
  induction d with
  | zero => intro j _ i h1 h2; omega
  | succ d ih =>
    intro j h i h1 h2
    unfold allF at h
    rw [Bool.and_eq_true] at h
    by_cases hij : i = j
    · subst hij; exact h.1
    · exact ih (j + 1) h.2 i (by omega) (by omega)
def encS (x : S119) : ByteArray := varT x.f0 ++ varT x.f1 ++ shortT x.f2
def encI (x : S121) : ByteArray := shortT x.f0 ++ shortT x.f1 ++ varT x.f2
def keepT (a : List S119) (b : List S121) : ByteArray := varT (a.length : Int) ++ catB encS a ++ (varT (b.length : Int) ++ catB encI b)
theorem keepB_iff {a : List S119} {b : List S121} (h : keepB a b = true) : (a.length ≤ 3 ∧ b.length ≤ 8) ∧
    (∀ j (hj : j < a.length), (1 ≤ a[j].f0 ∧ a[j].f0 ≤ 1000000) ∧ (0 ≤ a[j].f1 ∧ a[j].f1 ≤ 1000000) ∧ a[j].f2.size ≤ 40) ∧ (∀ j (hj : j < b.length), b[j].f0.size ≤ 8 ∧ b[j].f1.size ≤ 20 ∧ (1 ≤ b[j].f2 ∧ b[j].f2 ≤ 1000000000)) := by
  unfold keepB at h
  simp only [Bool.and_eq_true, decide_eq_true_eq] at h
  obtain ⟨⟨hs, ha⟩, hi, hb⟩ := h
  refine ⟨⟨by omega, by omega⟩, fun j hj => ?_, fun j hj => ?_⟩
  · have := allF_all _ _ hs j (by omega) (by omega)
    unfold pS at this
    have hget : rd_T119 a (j : Int) = a[j] := by unfold rd_T119; exact getD_at _ hj
    simp only [Bool.and_eq_true, rng_iff, decide_eq_true_eq, hget] at this
    omega
  · have := allF_all _ _ hi j (by omega) (by omega)
    unfold pI at this
    have hget : rd_T121 b (j : Int) = b[j] := by unfold rd_T121; exact getD_at _ hj
    simp only [Bool.and_eq_true, rng_iff, decide_eq_true_eq, hget] at this
    omega
theorem spec_kt_items (a : List S119) (b : List S121) (h : keepB a b = true) : ∀ (d j : Nat) (acc : ByteArray), b.length - j = d → j ≤ b.length → acc.size ≤ 10000 + 100 * j → Ev (fun k => spec_KeepText.l1 k acc (j : Int) a b) (acc ++ catB encI (b.drop j), true) := by
  obtain ⟨⟨_, hl⟩, _, hI⟩ := keepB_iff h
  intro d
  induction d with
  | zero =>
    intro j acc hd hj ha
    rw [List.drop_of_length_le (by omega)]
    simp only [catB, app_empty]
    exact Ev.step (f := fun _ => some (acc, true)) (fun k => by simp only [spec_KeepText.l1]; rw [if_neg (by omega)]) (Ev.now _)
  | succ d ih =>
    intro j acc hd hj ha
    have hjl : j < b.length := by omega
    obtain ⟨h1, h2, h3⟩ := hI j hjl
    have hget : rd_T121 b (j : Int) = b[j] := by unfold rd_T121; exact getD_at _ hjl
    refine Ev.step (fun k => rfl) ?_
    simp only [spec_KeepText.l1, if_pos (show (j : Int) < (b.length : Int) by omega), if_pos (show (0 : Int) ≤ (j : Int) by omega), hget, w64 (x := (j : Int) + 1) (by omega) (by omega)]
    have s1 := shortT_size b[j].f0
    have s2 := shortT_size b[j].f1
    have s3 := varT_size b[j].f2
    refine Ev.bind (spec_short b[j].f0 (by omega)) ?_
    simp only [if_pos (show acc.size + (shortT b[j].f0).size ≤ 9223372036854775807 by omega)]
    refine Ev.bind (spec_short b[j].f1 (by omega)) ?_
    simp only [if_pos (show (acc ++ shortT b[j].f0).size + (shortT b[j].f1).size ≤ 9223372036854775807 by rw [ByteArray.size_append]; omega)]
    refine Ev.bind (spec_var b[j].f2 (by omega) (by omega)) ?_
    simp only [if_pos (show (acc ++ shortT b[j].f0 ++ shortT b[j].f1).size + (varT b[j].f2).size ≤ 9223372036854775807 by rw [ByteArray.size_append, ByteArray.size_append]; omega)]
    have := ih (j + 1) (acc ++ shortT b[j].f0 ++ shortT b[j].f1 ++ varT b[j].f2) (by omega) (by omega) (by rw [ByteArray.size_append, ByteArray.size_append, ByteArray.size_append]; omega)
    rw [List.drop_eq_getElem_cons hjl, catB, encI]
    simp only [ByteArray.append_assoc] at this ⊢
    exact this
theorem spec_kt_sess (a : List S119) (b : List S121) (h : keepB a b = true) : ∀ (d j : Nat) (acc : ByteArray), a.length - j = d → j ≤ a.length → acc.size ≤ 1000 + 100 * j → Ev (fun k => spec_KeepText.l0 k acc (j : Int) a b) (acc ++ catB encS (a.drop j) ++ (varT (b.length : Int) ++ catB encI b), true) := by
  obtain ⟨⟨hl, hl2⟩, hS, _⟩ := keepB_iff h
  intro d
  induction d with
  | zero =>
    intro j acc hd hj ha
    rw [List.drop_of_length_le (by omega)]
    simp only [catB, app_empty]
    have s0 := varT_size (b.length : Int)
    refine Ev.step (fun k => rfl) ?_
    simp only [spec_KeepText.l0, if_neg (show ¬ (j : Int) < (a.length : Int) by omega)]
    refine Ev.bind (spec_var (b.length : Int) (by omega) (by omega)) ?_
    simp only [if_pos (show acc.size + (varT (b.length : Int)).size ≤ 9223372036854775807 by omega)]
    have := spec_kt_items a b h b.length 0 (acc ++ varT (b.length : Int)) (by omega) (by omega) (by rw [ByteArray.size_append]; omega)
    simp only [List.drop_zero, ByteArray.append_assoc] at this
    exact this
  | succ d ih =>
    intro j acc hd hj ha
    have hjl : j < a.length := by omega
    obtain ⟨h1, h2, h3⟩ := hS j hjl
    have hget : rd_T119 a (j : Int) = a[j] := by unfold rd_T119; exact getD_at _ hjl
    refine Ev.step (fun k => rfl) ?_
    simp only [spec_KeepText.l0, if_pos (show (j : Int) < (a.length : Int) by omega), if_pos (show (0 : Int) ≤ (j : Int) by omega), hget, w64 (x := (j : Int) + 1) (by omega) (by omega)]
    have s1 := varT_size a[j].f0
    have s2 := varT_size a[j].f1
    have s3 := shortT_size a[j].f2
    refine Ev.bind (spec_var a[j].f0 (by omega) (by omega)) ?_
    simp only [if_pos (show acc.size + (varT a[j].f0).size ≤ 9223372036854775807 by omega)]
    refine Ev.bind (spec_var a[j].f1 (by omega) (by omega)) ?_
    simp only [if_pos (show (acc ++ varT a[j].f0).size + (varT a[j].f1).size ≤ 9223372036854775807 by rw [ByteArray.size_append]; omega)]
    refine Ev.bind (spec_short a[j].f2 (by omega)) ?_
    simp only [if_pos (show (acc ++ varT a[j].f0 ++ varT a[j].f1).size + (shortT a[j].f2).size ≤ 9223372036854775807 by rw [ByteArray.size_append, ByteArray.size_append]; omega)]
    have := ih (j + 1) (acc ++ varT a[j].f0 ++ varT a[j].f1 ++ shortT a[j].f2) (by omega) (by omega) (by rw [ByteArray.size_append, ByteArray.size_append, ByteArray.size_append]; omega)
    rw [List.drop_eq_getElem_cons hjl, catB, encS]
    simp only [ByteArray.append_assoc] at this ⊢
    exact this
theorem spec_KeepText_ok (a : List S119) (b : List S121) (ha : a.length ≤ 1048576) (hb : b.length ≤ 1048576) : Ev (fun k => spec_KeepText.f k a b) (if keepB a b = true then (keepT a b, true) else ((⟨#[]⟩ : ByteArray), false)) := by
  unfold spec_KeepText.f
  refine Ev.bind (spec_KeepOk_ok a b ha hb) ?_
  by_cases h : keepB a b = true
  · have s0 := varT_size (a.length : Int)
    simp only [if_pos h]
    refine Ev.bind (spec_var (a.length : Int) (by omega) (by omega)) ?_
    have := spec_kt_sess a b h a.length 0 (varT (a.length : Int)) (by omega) (by omega) (by omega)
    simp only [List.drop_zero] at this
    exact this
  · simp only [if_neg h]
    exact Ev.now _
theorem impl_kt_items (a : List S119) (b : List S121) (h : keepB a b = true) : ∀ (d j : Nat) (acc : ByteArray), b.length - j = d → j ≤ b.length → acc.size ≤ 10000 + 100 * j → Ev (fun k => impl_KeepText.l1 k acc b (b.length : Int) (j : Int)) (acc ++ catB encI (b.drop j), true) := by
  obtain ⟨⟨_, hl⟩, _, hI⟩ := keepB_iff h
  intro d
  induction d with
  | zero =>
    intro j acc hd hj ha
    rw [List.drop_of_length_le (by omega)]
    simp only [catB, app_empty]
    exact Ev.step (f := fun _ => some (acc, true)) (fun k => by simp only [impl_KeepText.l1]; rw [if_neg (by omega), if_neg (by omega)]) (Ev.now _)
  | succ d ih =>
    intro j acc hd hj ha
    have hjl : j < b.length := by omega
    obtain ⟨h1, h2, h3⟩ := hI j hjl
    have hget : rd_T121 b (j : Int) = b[j] := by unfold rd_T121; exact getD_at _ hjl
    refine Ev.step (fun k => rfl) ?_
    simp only [impl_KeepText.l1, if_pos (show (j : Int) < (b.length : Int) by omega), if_pos (show (0 : Int) ≤ (j : Int) by omega), hget, w64 (x := (j : Int) + 1) (by omega) (by omega)]
    have s1 := shortT_size b[j].f0
    have s2 := shortT_size b[j].f1
    have s3 := varT_size b[j].f2
    refine Ev.bind (shortTexts_ok [b[j].f0, b[j].f1] (by simp) (by simp only [List.mem_cons, List.not_mem_nil, or_false]; rintro x (rfl | rfl) <;> omega)) ?_
    refine Ev.bind (varTexts_ok [b[j].f2] (by simp) (by simp only [List.mem_cons, List.not_mem_nil, or_false]; rintro x rfl; omega)) ?_
    simp only [catB, app_empty]
    simp only [if_pos (show (shortT b[j].f0 ++ shortT b[j].f1).size + (varT b[j].f2).size ≤ 9223372036854775807 by rw [ByteArray.size_append]; omega), if_pos (show acc.size + (shortT b[j].f0 ++ shortT b[j].f1 ++ varT b[j].f2).size ≤ 9223372036854775807 by rw [ByteArray.size_append, ByteArray.size_append]; omega)]
    have := ih (j + 1) (acc ++ (shortT b[j].f0 ++ shortT b[j].f1 ++ varT b[j].f2)) (by omega) (by omega) (by rw [ByteArray.size_append, ByteArray.size_append, ByteArray.size_append]; omega)
    rw [List.drop_eq_getElem_cons hjl, catB, encI]
    simp only [ByteArray.append_assoc] at this ⊢
    exact this
theorem impl_kt_sess (a : List S119) (b : List S121) (h : keepB a b = true) : ∀ (d j : Nat) (acc : ByteArray), a.length - j = d → j ≤ a.length → acc.size ≤ 1000 + 100 * j → Ev (fun k => impl_KeepText.l0 k acc a (a.length : Int) (j : Int) a b) (acc ++ catB encS (a.drop j) ++ (varT (b.length : Int) ++ catB encI b), true) := by
  obtain ⟨⟨hl, hl2⟩, hS, _⟩ := keepB_iff h
  intro d
  induction d with
  | zero =>
    intro j acc hd hj ha
    rw [List.drop_of_length_le (by omega)]
    simp only [catB, app_empty]
    have s0 := varT_size (b.length : Int)
    refine Ev.step (fun k => rfl) ?_
    simp only [impl_KeepText.l0, if_neg (show ¬ (j : Int) < (a.length : Int) by omega)]
    refine Ev.bind (varTexts_ok [(b.length : Int)] (by simp) (by simp only [List.mem_cons, List.not_mem_nil, or_false]; rintro x rfl; omega)) ?_
    simp only [catB, app_empty]
    simp only [if_pos (show acc.size + (varT (b.length : Int)).size ≤ 9223372036854775807 by omega)]
    have := impl_kt_items a b h b.length 0 (acc ++ varT (b.length : Int)) (by omega) (by omega) (by rw [ByteArray.size_append]; omega)
    simp only [List.drop_zero, ByteArray.append_assoc] at this
    exact this
  | succ d ih =>
    intro j acc hd hj ha
    have hjl : j < a.length := by omega
    obtain ⟨h1, h2, h3⟩ := hS j hjl
    have hget : rd_T119 a (j : Int) = a[j] := by unfold rd_T119; exact getD_at _ hjl
    refine Ev.step (fun k => rfl) ?_
    simp only [impl_KeepText.l0, if_pos (show (j : Int) < (a.length : Int) by omega), if_pos (show (0 : Int) ≤ (j : Int) by omega), hget, w64 (x := (j : Int) + 1) (by omega) (by omega)]
    have s1 := varT_size a[j].f0
    have s2 := varT_size a[j].f1
    have s3 := shortT_size a[j].f2
    refine Ev.bind (varTexts_ok [a[j].f0, a[j].f1] (by simp) (by simp only [List.mem_cons, List.not_mem_nil, or_false]; rintro x (rfl | rfl) <;> omega)) ?_
    refine Ev.bind (shortTexts_ok [a[j].f2] (by simp) (by simp only [List.mem_cons, List.not_mem_nil, or_false]; rintro x rfl; omega)) ?_
    simp only [catB, app_empty]
    simp only [if_pos (show (varT a[j].f0 ++ varT a[j].f1).size + (shortT a[j].f2).size ≤ 9223372036854775807 by rw [ByteArray.size_append]; omega), if_pos (show acc.size + (varT a[j].f0 ++ varT a[j].f1 ++ shortT a[j].f2).size ≤ 9223372036854775807 by rw [ByteArray.size_append, ByteArray.size_append]; omega)]
    have := ih (j + 1) (acc ++ (varT a[j].f0 ++ varT a[j].f1 ++ shortT a[j].f2)) (by omega) (by omega) (by rw [ByteArray.size_append, ByteArray.size_append, ByteArray.size_append]; omega)
    rw [List.drop_eq_getElem_cons hjl, catB, encS]
    simp only [ByteArray.append_assoc] at this ⊢
    exact this
theorem impl_KeepText_ok (a : List S119) (b : List S121) (ha : a.length ≤ 1048576) (hb : b.length ≤ 1048576) : Ev (fun k => impl_KeepText.f k a b) (if keepB a b = true then (keepT a b, true) else ((⟨#[]⟩ : ByteArray), false)) := by
  unfold impl_KeepText.f
  refine Ev.bind (impl_KeepOk_ok a b ha hb) ?_
  by_cases h : keepB a b = true
  · have s0 := varT_size (a.length : Int)
    simp only [if_pos h]
    refine Ev.bind (varTexts_ok [(a.length : Int)] (by simp) (by simp only [List.mem_cons, List.not_mem_nil, or_false]; rintro x rfl; omega)) ?_
    simp only [catB, app_empty]
    have := impl_kt_sess a b h a.length 0 (varT (a.length : Int)) (by omega) (by omega) (by omega)
    simp only [List.drop_zero] at this
    exact this
  · simp only [if_neg h]
    exact Ev.now _

/-! ### FnExactKeepText -/
theorem FnExactKeepText : StFnExactKeepText.Pure := by
  intro a b ha hb
  obtain ⟨t, ht, hq⟩ := szKeep_ok a b ha.1 hb.1 ha.2.2 hb.2.2 1048576 (by omega) (by omega)
  by_cases hn : t < 0
  · refine ⟨a.length + b.length + 1, ?_⟩
    unfold laws_FnExactKeepText.f
    rw [ht _ (by omega)]
    simp only [Option.bind_some]
    rw [if_pos hn]
  · obtain ⟨_, _, la, lb⟩ := hq.resolve_left hn
    obtain ⟨K, hK⟩ := Ev.both (spec_KeepText_ok (a.map conSession) (b.map conItem) (by simpa using la) (by simpa using lb)) (impl_KeepText_ok (a.map conSession) (b.map conItem) (by simpa using la) (by simpa using lb))
    refine ⟨K + a.length + b.length + 2, ?_⟩
    obtain ⟨h1, h2⟩ := hK (K + a.length + b.length + 2) (by omega)
    unfold laws_FnExactKeepText.f
    rw [ht _ (by omega)]
    simp only [Option.bind_some]
    rw [if_neg hn, toKeep_ok a b la lb _ (by omega)]
    simp only [Option.bind_some, h1, h2, bne_self_eq_false, if_true, laws_FnExactKeepText.j0]
    rw [if_neg (by simp), toKeep_ok a b la lb _ (by omega)]
    simp only [Option.bind_some]
    rw [eqKeep_ok _ _ (by rw [List.length_map]; omega) (by rw [List.length_map]; omega) _ (by rw [List.length_map, List.length_map]; omega)]
    rfl

end Go.Proofs.Ytjijbffecppeiaa.Pure
