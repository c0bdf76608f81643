/- The pure statement of the law 'FnExactItemOf', proved: over numbers, lists and texts alone. No condition. -/
import Derived.Test.YtakapoionaaimaaStFnExactItemOf
import Derived.Laws.BitsLemmas
namespace Go.Proofs.Ytakapoionaaimaa.Pure
open Go.RowKit Go.Proofs.Ytakapoionaaimaa.PFnExactItemOf Go.Proofs.YtakapoionaaimaaW.PrintWords Go.Proofs.YtakapoionaaimaaW.PrintLast Go.Proofs.YtakapoionaaimaaW.PrintMore Go.Proofs.Ytakapoionaaimaa.StFnExactItemOf Go.Proofs.Ytakapoionaaimaa.Opens
set_option linter.unusedVariables false
set_option linter.unusedSimpArgs false

/-! ### base -/
theorem w64 {x : Int} (h0 : -9223372036854775808 ≤ x) (h1 : x ≤ 9223372036854775807) : wrap64 x = x := by unfold wrap64; omega
theorem w64_range (x : Int) : -9223372036854775808 ≤ wrap64 x ∧ wrap64 x ≤ 9223372036854775807 := by unfold wrap64; omega
theorem ip {α : Type} {c : Prop} [Decidable c] {a b : α} (h : c) : (if c then a else b) = a := if_pos h
theorem ineg {α : Type} {c : Prop} [Decidable c] {a b : α} (h : ¬ c) : (if c then a else b) = b := if_neg h
theorem wf_range {n : Int} (h : (Lit.int .i64 n).wf = true) : -9223372036854775808 ≤ n ∧ n ≤ 9223372036854775807 := by
  simp only [Lit.wf, IntKind.min, IntKind.max, IntKind.signed, IntKind.bits, Bool.and_eq_true, decide_eq_true_eq, if_true] at h
  omega
theorem wf_u8 {n : Int} (h : (Lit.int .u8 n).wf = true) : 0 ≤ n ∧ n ≤ 255 := by
  simp [Lit.wf, IntKind.min, IntKind.max, IntKind.signed, IntKind.bits] at h
  omega
theorem and_low (x : Int) (i : Nat) (hi : i ≤ 62) : Go.bits .and .i64 x (2 ^ i - 1) = x % 2 ^ i := by
  have hpos : 0 < 2 ^ i := Nat.two_pow_pos i
  have hc : ((2 : Int) ^ i - 1) = ((2 ^ i - 1 : Nat) : Int) := by rw [Int.natCast_sub hpos]; simp
  have h62 : 2 ^ i ≤ 2 ^ 62 := Nat.pow_le_pow_right (by decide) hi
  have hlt : 2 ^ i - 1 < 2 ^ 64 := by omega
  have hd : (2 ^ i : Nat) ∣ 2 ^ 64 := Nat.pow_dvd_pow 2 (by omega)
  rw [hc]
  simp only [Go.bits, BitVec.ofInt_natCast, BitVec.toNat_and, BitVec.toNat_ofNat, BitVec.toNat_ofInt]
  simp only [show IntKind.i64.bits = 64 from rfl]
  rw [Nat.mod_eq_of_lt hlt, Nat.and_two_pow_sub_one_eq_mod]
  have h1 : (((x % ((2 ^ 64 : Nat) : Int)).toNat % 2 ^ i : Nat) : Int) = x % 2 ^ i := by
    rw [Int.natCast_emod, Int.toNat_of_nonneg (Int.emod_nonneg _ (by decide))]
    rw [Int.natCast_pow]
    exact Int.emod_emod_of_dvd _ (by
      have : (((2 ^ i : Nat) : Int)) ∣ ((2 ^ 64 : Nat) : Int) := Int.natCast_dvd_natCast.2 hd
      simpa using this)
  rw [h1]
  have h2 : 0 ≤ x % 2 ^ i := Int.emod_nonneg _ (by
    have : (0 : Int) < 2 ^ i := by exact_mod_cast hpos
    omega)
  have h3 : x % 2 ^ i < 2 ^ i := Int.emod_lt_of_pos _ (by exact_mod_cast hpos)
  have h4 : (2 : Int) ^ i ≤ 2 ^ 62 := by exact_mod_cast h62
  rw [IntKind.wrap_i64]
  omega
theorem and255 (x : Int) : Go.bits .and .i64 x 255 = x % 256 := and_low x 8 (by omega)
theorem and65535 (x : Int) : Go.bits .and .i64 x 65535 = x % 65536 := and_low x 16 (by omega)
theorem and30 (x : Int) : Go.bits .and .i64 x 1073741823 = x % 1073741824 := and_low x 30 (by omega)
theorem and1 (x : Int) : Go.bits .and .i64 x 1 = x % 2 := and_low x 1 (by omega)
/-- A law's last step: both are one. -/
theorem same_end {v : Bool} : (if (v != v) = true then some false else some true : Option Bool) = some true := by simp
theorem Ev.ex {α : Type} {g : Nat → Option α} {r : α} (h : Ev g r) : ∃ k, g k = some r := h.rounds
theorem Ev.from_ {α : Type} {g : Nat → Option α} {r : α} (K : Nat) (h : ∀ k, K ≤ k → g k = some r) : Ev g r := ⟨K, h⟩
theorem Ev.both {α β : Type} {g : Nat → Option α} {f : Nat → Option β} {r : α} {q : β} (h : Ev g r) (h' : Ev f q) : ∃ K, ∀ k, K ≤ k → g k = some r ∧ f k = some q := by
  obtain ⟨K, h⟩ := h
  obtain ⟨K', h'⟩ := h'
  exact ⟨K + K', fun k hk => ⟨h k (by omega), h' k (by omega)⟩⟩

/-! ### loops -/
/-- A loop upward whose rounds do nothing but go on. -/
theorem up_loop {β : Type} {F : Nat → Int → Option β} {n : Nat} {r : β} (hs : ∀ k (j : Nat), j < n → F (k + 1) (j : Int) = F k ((j + 1 : Nat) : Int)) (he : ∀ k, F (k + 1) (n : Int) = some r) :
    ∀ (d j : Nat), n - j = d → j ≤ n → ∀ k, d < k → F k (j : Int) = some r := by
  intro d
  induction d with
  | zero =>
    intro j hd hj k hk
    obtain ⟨k, rfl⟩ : ∃ m, k = m + 1 := ⟨k - 1, by omega⟩
    obtain rfl : j = n := by omega
    exact he k
  | succ d ih =>
    intro j hd hj k hk
    obtain ⟨k, rfl⟩ : ∃ m, k = m + 1 := ⟨k - 1, by omega⟩
    rw [hs k j (by omega)]
    exact ih (j + 1) (by omega) (by omega) k (by omega)
/-- A loop that turns each element of a list into one of a list that was made. -/
theorem map_loop {α β : Type} {F : Nat → List β → Int → Option (List β)} {g : α → β} {l : List α}
    (hs : ∀ k (acc : List β) (j : Nat) (hj : j < l.length), acc.length = l.length → F (k + 1) acc (j : Int) = F k (acc.set j (g l[j])) ((j + 1 : Nat) : Int))
    (he : ∀ k (acc : List β), F (k + 1) acc (l.length : Int) = some acc) :
    ∀ (d j : Nat) (acc : List β), l.length - j = d → j ≤ l.length → acc.length = l.length → (∀ i, i < j → acc[i]? = (l[i]?).map g) → ∀ k, d < k → F k acc (j : Int) = some (l.map g) := by
  intro d
  induction d with
  | zero =>
    intro j acc hd hj hl ha k hk
    obtain ⟨k, rfl⟩ : ∃ m, k = m + 1 := ⟨k - 1, by omega⟩
    obtain rfl : j = l.length := by omega
    rw [he]
    congr 1
    apply List.ext_getElem?
    intro i
    rw [List.getElem?_map]
    by_cases hi : i < l.length
    · exact ha i hi
    · rw [List.getElem?_eq_none (by omega), List.getElem?_eq_none (by omega)]; rfl
  | succ d ih =>
    intro j acc hd hj hl ha k hk
    obtain ⟨k, rfl⟩ : ∃ m, k = m + 1 := ⟨k - 1, by omega⟩
    have hjl : j < l.length := by omega
    rw [hs k acc j hjl hl]
    refine ih (j + 1) _ (by omega) (by omega) (by rw [List.length_set]; exact hl) (fun i hi => ?_) k (by omega)
    by_cases hij : i = j
    · subst hij
      rw [List.getElem?_set_self (by omega), List.getElem?_eq_getElem hjl]
      rfl
    · rw [List.getElem?_set_ne (fun h => hij h.symm)]
      exact ha i (by omega)
theorem getD_at {α : Type} {l : List α} {j : Nat} (z : α) (h : j < l.length) : l.getD (j : Int).toNat z = l[j] := by
  simp [List.getD_eq_getElem?_getD, List.getElem?_eq_getElem h]

/-! ### sz -/
theorem sz_loop {α : Type} {F : Nat → Int → Int → Option Int} {g : α → Int → Option Int} {l : List α} {P : α → Prop}
    (hs : ∀ k (left : Int) (j : Nat) (hj : j < l.length), l.length ≤ 2000000 → F (k + 1) left (j : Int) = (g l[j] left).bind fun t => if t < 0 then some (-1) else F k t ((j + 1 : Nat) : Int))
    (he : ∀ k (left : Int), F (k + 1) left (l.length : Int) = some left)
    (hg : ∀ x ∈ l, ∀ left : Int, 0 ≤ left → left ≤ 1048576 → ∃ t, g x left = some t ∧ (t < 0 ∨ (0 ≤ t ∧ t ≤ left ∧ P x))) (hl : l.length ≤ 2000000) :
    ∀ (d j : Nat) (left : Int), l.length - j = d → j ≤ l.length → 0 ≤ left → left ≤ 1048576 → ∃ t, (∀ k, d < k → F k left (j : Int) = some t) ∧ (t < 0 ∨ (0 ≤ t ∧ t ≤ left ∧ ∀ i (hi : i < l.length), j ≤ i → P l[i])) := by
  intro d
  induction d with
  | zero =>
    intro j left hd hj h0 h1
    obtain rfl : j = l.length := by omega
    refine ⟨left, fun k hk => ?_, .inr ⟨h0, Int.le_refl _, fun i hi h => absurd hi (by omega)⟩⟩
    obtain ⟨k, rfl⟩ : ∃ m, k = m + 1 := ⟨k - 1, by omega⟩
    exact he k left
  | succ d ih =>
    intro j left hd hj h0 h1
    have hjl : j < l.length := by omega
    obtain ⟨t, ht, hc⟩ := hg l[j] (List.getElem_mem _) left h0 h1
    rcases hc with hc | ⟨h2, h3, hP⟩
    · refine ⟨-1, fun k hk => ?_, .inl (by omega)⟩
      obtain ⟨k, rfl⟩ : ∃ m, k = m + 1 := ⟨k - 1, by omega⟩
      rw [hs k left j hjl hl, ht]
      simp only [Option.bind_some]
      rw [if_pos hc]
    · obtain ⟨t2, ih1, ih2⟩ := ih (j + 1) t (by omega) (by omega) h2 (by omega)
      refine ⟨t2, fun k hk => ?_, ?_⟩
      · obtain ⟨k, rfl⟩ : ∃ m, k = m + 1 := ⟨k - 1, by omega⟩
        rw [hs k left j hjl hl, ht]
        simp only [Option.bind_some]
        rw [if_neg (by omega)]
        exact ih1 k (by omega)
      · rcases ih2 with h4 | ⟨h4, h5, h6⟩
        · exact .inl h4
        · refine .inr ⟨h4, by omega, fun i hi hji => ?_⟩
          by_cases hij : i = j
          · subst hij; exact hP
          · exact h6 i hi (by omega)

/-! ### c_Session -/
def conSession (x : S161) : S159 := ⟨x.f0, x.f1, x.f2⟩
theorem toSessionS_ok (l : List S161) (hl : l.length ≤ 1048576) : ∀ k, l.length < k → laws_toSessionS.f k l = some (l.map conSession) := by
  intro k hk
  unfold laws_toSessionS.f
  rw [if_pos (by omega), if_pos (by omega)]
  refine map_loop (F := fun k acc j => laws_toSessionS.l0 k l acc j) ?_ ?_ l.length 0 _ (by omega) (by omega) (by simp) (fun i hi => absurd hi (by omega)) k hk
  · intro k acc j hj ha
    simp only [laws_toSessionS.l0, laws_toSession.f, Option.bind_some]
    rw [if_pos (by omega), if_pos (by omega), if_pos (by omega), w64 (by omega) (by omega)]
    unfold rd_T161
    rw [getD_at _ hj]
    rfl
  · intro k acc
    simp only [laws_toSessionS.l0]
    rw [if_neg (by omega)]
theorem szSessionS_ok (l : List S161) (hl : l.length ≤ maxLen) (hw : ∀ x ∈ l, wf161 x) (left : Int) (h0 : 0 ≤ left) (h1 : left ≤ 1048576) :
    ∃ t, (∀ k, l.length < k → laws_szSessionS.f k l left = some t) ∧ (t < 0 ∨ (0 ≤ t ∧ t ≤ left ∧ l.length ≤ 1048576 ∧ ∀ x ∈ l, x.f2.size ≤ 1048576)) := by
  simp only [maxLen] at hl
  unfold laws_szSessionS.f
  rw [w64 (by omega) (by omega)]
  by_cases hc : left - (l.length : Int) < 0
  · exact ⟨-1, fun k _ => by rw [if_pos hc], .inl (by omega)⟩
  · simp only [if_neg hc]
    have hgg : ∀ x ∈ l, ∀ left : Int, 0 ≤ left → left ≤ 1048576 → ∃ t, laws_szSession.f x.f0 x.f1 x.f2 left = some t ∧ (t < 0 ∨ (0 ≤ t ∧ t ≤ left ∧ x.f2.size ≤ 1048576)) := by
      intro x hx left h0 h1
      have hw := hw x hx
      have h2 : x.f2.size ≤ 140737488351232 := hw.2.2
      unfold laws_szSession.f
      rw [w64 (by omega) (by omega)]
      by_cases hc : left - (x.f2.size : Int) < 0
      · rw [if_pos hc]; exact ⟨-1, rfl, .inl (by omega)⟩
      · rw [if_neg hc]; exact ⟨_, rfl, .inr ⟨by omega, by omega, by omega⟩⟩
    obtain ⟨t, ht, hr⟩ := sz_loop (F := fun k left j => laws_szSessionS.l0 k l left j) (g := fun x left => laws_szSession.f x.f0 x.f1 x.f2 left) (P := fun x : S161 => x.f2.size ≤ 1048576) (l := l) (fun k left j hj hl => by
      simp only [laws_szSessionS.l0]
      rw [if_pos (by omega), if_pos (by omega), w64 (x := (j : Int) + 1) (by omega) (by omega)]
      unfold rd_T161
      rw [getD_at _ hj]
      rfl) (fun k left => by simp only [laws_szSessionS.l0]; rw [if_neg (by omega)]) hgg (by omega) l.length 0 (left - (l.length : Int)) (by omega) (by omega) (by omega) (by omega)
    · refine ⟨t, ht, ?_⟩
      rcases hr with hr | ⟨h2, h3, h4⟩
      · exact .inl hr
      · refine .inr ⟨h2, by omega, by omega, fun x hx => ?_⟩
        obtain ⟨i, hi, rfl⟩ := List.mem_iff_getElem.1 hx
        exact h4 i hi (by omega)

/-! ### c_Item -/
def conItem (x : S163) : S99 := ⟨x.f0, x.f1, x.f2⟩
theorem toItemS_ok (l : List S163) (hl : l.length ≤ 1048576) : ∀ k, l.length < k → laws_toItemS.f k l = some (l.map conItem) := by
  intro k hk
  unfold laws_toItemS.f
  rw [if_pos (by omega), if_pos (by omega)]
  refine map_loop (F := fun k acc j => laws_toItemS.l0 k l acc j) ?_ ?_ l.length 0 _ (by omega) (by omega) (by simp) (fun i hi => absurd hi (by omega)) k hk
  · intro k acc j hj ha
    simp only [laws_toItemS.l0, laws_toItem.f, Option.bind_some]
    rw [if_pos (by omega), if_pos (by omega), if_pos (by omega), w64 (by omega) (by omega)]
    unfold rd_T163
    rw [getD_at _ hj]
    rfl
  · intro k acc
    simp only [laws_toItemS.l0]
    rw [if_neg (by omega)]
theorem szItemS_ok (l : List S163) (hl : l.length ≤ maxLen) (hw : ∀ x ∈ l, wf163 x) (left : Int) (h0 : 0 ≤ left) (h1 : left ≤ 1048576) :
    ∃ t, (∀ k, l.length < k → laws_szItemS.f k l left = some t) ∧ (t < 0 ∨ (0 ≤ t ∧ t ≤ left ∧ l.length ≤ 1048576 ∧ ∀ x ∈ l, x.f0.size ≤ 1048576 ∧ x.f1.size ≤ 1048576)) := by
  simp only [maxLen] at hl
  unfold laws_szItemS.f
  rw [w64 (by omega) (by omega)]
  by_cases hc : left - (l.length : Int) < 0
  · exact ⟨-1, fun k _ => by rw [if_pos hc], .inl (by omega)⟩
  · simp only [if_neg hc]
    have hgg : ∀ x ∈ l, ∀ left : Int, 0 ≤ left → left ≤ 1048576 → ∃ t, laws_szItem.f x.f0 x.f1 x.f2 left = some t ∧ (t < 0 ∨ (0 ≤ t ∧ t ≤ left ∧ x.f0.size ≤ 1048576 ∧ x.f1.size ≤ 1048576)) := by
      intro x hx left h0 h1
      have hw := hw x hx
      have h0 : x.f0.size ≤ 140737488351232 := hw.1
      have h1 : x.f1.size ≤ 140737488351232 := hw.2.1
      unfold laws_szItem.f
      rw [w64 (x := left - (x.f0.size : Int)) (by omega) (by omega)]
      by_cases hc : left - (x.f0.size : Int) < 0
      · rw [if_pos hc]; exact ⟨-1, rfl, .inl (by omega)⟩
      · rw [if_neg hc, w64 (by omega) (by omega)]
        by_cases hc2 : left - (x.f0.size : Int) - (x.f1.size : Int) < 0
        · rw [if_pos hc2]; exact ⟨-1, rfl, .inl (by omega)⟩
        · rw [if_neg hc2]; exact ⟨_, rfl, .inr ⟨by omega, by omega, by omega, by omega⟩⟩
    obtain ⟨t, ht, hr⟩ := sz_loop (F := fun k left j => laws_szItemS.l0 k l left j) (g := fun x left => laws_szItem.f x.f0 x.f1 x.f2 left) (P := fun x : S163 => x.f0.size ≤ 1048576 ∧ x.f1.size ≤ 1048576) (l := l) (fun k left j hj hl => by
      simp only [laws_szItemS.l0]
      rw [if_pos (by omega), if_pos (by omega), w64 (x := (j : Int) + 1) (by omega) (by omega)]
      unfold rd_T163
      rw [getD_at _ hj]
      rfl) (fun k left => by simp only [laws_szItemS.l0]; rw [if_neg (by omega)]) hgg (by omega) l.length 0 (left - (l.length : Int)) (by omega) (by omega) (by omega) (by omega)
    · refine ⟨t, ht, ?_⟩
      rcases hr with hr | ⟨h2, h3, h4⟩
      · exact .inl hr
      · refine .inr ⟨h2, by omega, by omega, fun x hx => ?_⟩
        obtain ⟨i, hi, rfl⟩ := List.mem_iff_getElem.1 hx
        exact h4 i hi (by omega)

/-! ### mark -/
theorem mark_loop {α : Type} {F : Nat → List α → Int → Int → Option (Int × List α)} {G : Int → α} {w : Nat}
    (hs : ∀ k (l : List α) (c : Int) (j : Nat), j < l.length → l.length ≤ 2000000 → 20 ≤ k → 0 ≤ c → c ≤ 100000000000000 → F (k + 1) l c (j : Int) = F k (l.set j (G c)) (c + w) ((j + 1 : Nat) : Int))
    (he : ∀ k (l : List α) (c : Int), F (k + 1) l c (l.length : Int) = some (c, l)) :
    ∀ (d j : Nat) (l : List α) (c : Int), l.length - j = d → j ≤ l.length → l.length ≤ 2000000 → 0 ≤ c → c + w * d ≤ 100000000000000 →
    ∃ l' : List α, l'.length = l.length ∧ (∀ i, i < j → l'[i]? = l[i]?) ∧ (∀ i, j ≤ i → i < l.length → l'[i]? = some (G (c + w * ((i - j : Nat) : Int)))) ∧ ∀ k, d + 20 < k → F k l c (j : Int) = some (c + w * d, l') := by
  intro d
  induction d with
  | zero =>
    intro j l c hd hj hl h0 h1
    obtain rfl : j = l.length := by omega
    refine ⟨l, rfl, fun _ _ => rfl, fun i h2 h3 => by omega, fun k hk => ?_⟩
    obtain ⟨k, rfl⟩ : ∃ m, k = m + 1 := ⟨k - 1, by omega⟩
    rw [he]
    simp
  | succ d ih =>
    intro j l c hd hj hl h0 h1
    have hmul : (w : Int) * ((d + 1 : Nat) : Int) = w + w * d := by rw [Int.natCast_succ, Int.mul_add, Int.mul_one, Int.add_comm]
    have hwd : 0 ≤ (w : Int) * (d : Int) := Int.mul_nonneg (by omega) (by omega)
    obtain ⟨l', hl', h2, h3, h4⟩ := ih (j + 1) (l.set j (G c)) (c + w) (by rw [List.length_set]; omega) (by rw [List.length_set]; omega) (by rw [List.length_set]; exact hl) (by omega) (by omega)
    rw [List.length_set] at hl' h3
    refine ⟨l', hl', fun i hi => ?_, fun i hi1 hi2 => ?_, fun k hk => ?_⟩
    · rw [h2 i (by omega), List.getElem?_set_ne (by omega)]
    · by_cases hij : i = j
      · subst hij
        rw [h2 i (by omega), List.getElem?_set_self (by omega)]
        simp
      · rw [h3 i (by omega) hi2]
        congr 2
        have : ((i - j : Nat) : Int) = ((i - (j + 1) : Nat) : Int) + 1 := by omega
        rw [this, Int.mul_add, Int.mul_one]
        omega
    · obtain ⟨k, rfl⟩ : ∃ m, k = m + 1 := ⟨k - 1, by omega⟩
      rw [hs k l c j (by omega) hl (by omega) h0 (by omega), h4 k (by omega), hmul]
      congr 2
      omega
theorem held_loop {α : Type} {F : Nat → List α → Int → Int → Option Int} {G : Int → α} {w : Nat} {l : List α}
    (hs : ∀ k (c : Int) (j : Nat) (hj : j < l.length), l.length ≤ 2000000 → 20 ≤ k → 0 ≤ c → c ≤ 100000000000000 → l[j] = G c → F (k + 1) l c (j : Int) = F k l (c + w) ((j + 1 : Nat) : Int))
    (he : ∀ k (c : Int), F (k + 1) l c (l.length : Int) = some c) (hl : l.length ≤ 2000000) :
    ∀ (d j : Nat) (c : Int), l.length - j = d → j ≤ l.length → 0 ≤ c → c + w * d ≤ 100000000000000 → (∀ i, j ≤ i → i < l.length → l[i]? = some (G (c + w * ((i - j : Nat) : Int)))) → ∀ k, d + 20 < k → F k l c (j : Int) = some (c + w * d) := by
  intro d
  induction d with
  | zero =>
    intro j c hd hj h0 h1 hG k hk
    obtain rfl : j = l.length := by omega
    obtain ⟨k, rfl⟩ : ∃ m, k = m + 1 := ⟨k - 1, by omega⟩
    rw [he]
    simp
  | succ d ih =>
    intro j c hd hj h0 h1 hG k hk
    obtain ⟨k, rfl⟩ : ∃ m, k = m + 1 := ⟨k - 1, by omega⟩
    have hjl : j < l.length := by omega
    have hmul : (w : Int) * ((d + 1 : Nat) : Int) = w + w * d := by rw [Int.natCast_succ, Int.mul_add, Int.mul_one, Int.add_comm]
    have hwd : 0 ≤ (w : Int) * (d : Int) := Int.mul_nonneg (by omega) (by omega)
    have hj0 : l[j] = G c := by
      have := hG j (Nat.le_refl _) hjl
      rw [List.getElem?_eq_getElem hjl] at this
      simpa using this
    rw [hs k c j hjl hl (by omega) h0 (by omega) hj0, ih (j + 1) (c + w) (by omega) (by omega) (by omega) (by omega) (fun i h2 h3 => ?_) k (by omega), hmul]
    · congr 1; omega
    · rw [hG i (by omega) h3]
      congr 2
      have : ((i - j : Nat) : Int) = ((i - (j + 1) : Nat) : Int) + 1 := by omega
      rw [this, Int.mul_add, Int.mul_one]
      omega

/-! ### m_Session -/
theorem eqSessionS_ok (l : List S159) (hl : l.length ≤ 2000000) : ∀ k, l.length < k → laws_eqSessionS.f k l l = some true := by
  intro k hk
  unfold laws_eqSessionS.f
  rw [if_pos rfl]
  refine up_loop (F := fun k j => laws_eqSessionS.l0 k l l j) (n := l.length) ?_ ?_ l.length 0 (by omega) (by omega) k hk
  · intro k j hj
    simp (disch := omega) only [laws_eqSessionS.l0, laws_eqSession.f, ip, w64, Option.bind_some, if_true, bne_self_eq_false, Bool.false_eq_true, if_false]
    rfl
  · intro k
    simp only [laws_eqSessionS.l0]
    rw [if_neg (by omega)]

/-! ### m_Item -/
theorem eqItemS_ok (l : List S99) (hl : l.length ≤ 2000000) : ∀ k, l.length < k → laws_eqItemS.f k l l = some true := by
  intro k hk
  unfold laws_eqItemS.f
  rw [if_pos rfl]
  refine up_loop (F := fun k j => laws_eqItemS.l0 k l l j) (n := l.length) ?_ ?_ l.length 0 (by omega) (by omega) k hk
  · intro k j hj
    simp (disch := omega) only [laws_eqItemS.l0, laws_eqItem.f, ip, w64, Option.bind_some, if_true, bne_self_eq_false, Bool.false_eq_true, if_false]
    rfl
  · intro k
    simp only [laws_eqItemS.l0]
    rw [if_neg (by omega)]

/-! ### FnExactItemOf -/
theorem eqKeep_ok (a : List S159) (b : List S99) (ha : a.length ≤ 2000000) (hb : b.length ≤ 2000000) : ∀ k, a.length + b.length < k → laws_eqKeep.f k a b a b = some true := by
  intro k hk
  unfold laws_eqKeep.f
  rw [eqSessionS_ok a ha k (by omega), eqItemS_ok b hb k (by omega)]
  rfl
theorem szKeep_ok (a : List S161) (b : List S163) (ha : a.length ≤ maxLen) (hb : b.length ≤ maxLen) (wa : ∀ x ∈ a, wf161 x) (wb : ∀ x ∈ b, wf163 x) :
    ∃ t, (∀ k, a.length + b.length < k → laws_szKeep.f k a b 1048576 = some t) ∧ (t < 0 ∨ (a.length ≤ 1048576 ∧ b.length ≤ 1048576)) := by
  obtain ⟨t, h1, h2⟩ := szSessionS_ok a ha wa 1048576 (by omega) (by omega)
  rcases h2 with h2 | ⟨h2, h3, h4, _⟩
  · refine ⟨-1, fun k hk => ?_, .inl (by omega)⟩
    unfold laws_szKeep.f
    rw [h1 k (by omega)]
    simp only [Option.bind_some]
    rw [if_pos h2]
  · obtain ⟨u, h5, h6⟩ := szItemS_ok b hb wb t h2 h3
    by_cases hu : u < 0
    · refine ⟨-1, fun k hk => ?_, .inl (by omega)⟩
      unfold laws_szKeep.f
      rw [h1 k (by omega)]
      simp only [Option.bind_some]
      rw [if_neg (by omega), h5 k (by omega)]
      simp only [Option.bind_some]
      rw [if_pos hu]
    · refine ⟨u, fun k hk => ?_, .inr ⟨h4, (h6.resolve_left hu).2.2.1⟩⟩
      unfold laws_szKeep.f
      rw [h1 k (by omega)]
      simp only [Option.bind_some]
      rw [if_neg (by omega), h5 k (by omega)]
      simp only [Option.bind_some]
      rw [if_neg hu]
theorem toKeep_ok (a : List S161) (b : List S163) (ha : a.length ≤ 1048576) (hb : b.length ≤ 1048576) : ∀ k, a.length + b.length < k → laws_toKeep.f k a b = some (a.map conSession, b.map conItem) := by
  intro k hk
  unfold laws_toKeep.f
  rw [toSessionS_ok a ha k (by omega), toItemS_ok b hb k (by omega)]
  rfl
def pickI (s : ByteArray) : List S99 → ByteArray × ByteArray × Int × Bool
  | [] => ((⟨#[]⟩ : ByteArray), (⟨#[]⟩ : ByteArray), 0, false)
  | x :: l => if x.f0.toList = s.toList then (x.f0, x.f1, x.f2, true) else pickI s l
theorem spec_pick (a : List S159) (l : List S99) (s : ByteArray) (hl : l.length ≤ 1048576) : ∀ (d j : Nat), l.length - j = d → j ≤ l.length → ∀ k, d < k → spec_ItemOf.l0 k s (j : Int) a l = some (pickI s (l.drop j)) := by
  intro d
  induction d with
  | zero =>
    intro j hd hj k hk
    obtain ⟨k, rfl⟩ : ∃ m, k = m + 1 := ⟨k - 1, by omega⟩
    simp only [spec_ItemOf.l0]
    rw [if_neg (by omega), List.drop_of_length_le (by omega)]
    rfl
  | succ d ih =>
    intro j hd hj k hk
    obtain ⟨k, rfl⟩ : ∃ m, k = m + 1 := ⟨k - 1, by omega⟩
    have hjl : j < l.length := by omega
    have hget : rd_T99 l (j : Int) = l[j] := by unfold rd_T99; exact getD_at _ hjl
    simp only [spec_ItemOf.l0]
    rw [if_pos (by omega), if_pos (by omega), hget, w64 (x := (j : Int) + 1) (by omega) (by omega), List.drop_eq_getElem_cons hjl, pickI]
    split
    · rfl
    · exact ih (j + 1) (by omega) (by omega) k (by omega)
theorem impl_pick (l : List S99) (s : ByteArray) (hl : l.length ≤ 1048576) : ∀ (d j : Nat), l.length - j = d → j ≤ l.length → ∀ k, d < k → impl_ItemOf.l0 k s l (l.length : Int) (j : Int) = some (pickI s (l.drop j)) := by
  intro d
  induction d with
  | zero =>
    intro j hd hj k hk
    obtain ⟨k, rfl⟩ : ∃ m, k = m + 1 := ⟨k - 1, by omega⟩
    simp only [impl_ItemOf.l0]
    rw [if_neg (by omega), List.drop_of_length_le (by omega)]
    rfl
  | succ d ih =>
    intro j hd hj k hk
    obtain ⟨k, rfl⟩ : ∃ m, k = m + 1 := ⟨k - 1, by omega⟩
    have hjl : j < l.length := by omega
    have hget : rd_T99 l (j : Int) = l[j] := by unfold rd_T99; exact getD_at _ hjl
    simp only [impl_ItemOf.l0]
    rw [if_pos (by omega), if_pos (by omega), if_pos (by omega), hget, w64 (x := (j : Int) + 1) (by omega) (by omega), List.drop_eq_getElem_cons hjl, pickI]
    split
    · rfl
    · exact ih (j + 1) (by omega) (by omega) k (by omega)
theorem FnExactItemOf : StFnExactItemOf.Pure := by
  intro a b s ha hb _
  obtain ⟨t, ht, hc⟩ := szKeep_ok a b ha.1 hb.1 ha.2.2 hb.2.2
  refine ⟨a.length + b.length + 5, ?_⟩
  unfold laws_FnExactItemOf.f
  by_cases hs : (s.size : Int) > 1048576
  · rw [if_pos hs]
  · rw [if_neg hs, ht _ (by omega)]
    simp only [Option.bind_some]
    by_cases hn : t < 0
    · rw [if_pos hn]
    · obtain ⟨h1, h2⟩ := hc.resolve_left hn
      rw [if_neg hn, toKeep_ok a b h1 h2 _ (by omega)]
      simp only [Option.bind_some]
      have e1 : spec_ItemOf.f (a.length + b.length + 5) (a.map conSession) (b.map conItem) s = some (pickI s (b.map conItem)) :=
        spec_pick (a.map conSession) (b.map conItem) s (by rw [List.length_map]; omega) (b.map conItem).length 0 (by omega) (by omega) _ (by rw [List.length_map]; omega)
      have e2 : impl_ItemOf.f (a.length + b.length + 5) (a.map conSession) (b.map conItem) s = some (pickI s (b.map conItem)) :=
        impl_pick (b.map conItem) s (by rw [List.length_map]; omega) (b.map conItem).length 0 (by omega) (by omega) _ (by rw [List.length_map]; omega)
      rw [e1, e2]
      simp only [Option.bind_some]
      generalize pickI s (b.map conItem) = p
      have e3 : laws_eqItem.f p.1 p.2.1 p.2.2.1 p.1 p.2.1 p.2.2.1 = some true := by simp [laws_eqItem.f]
      rw [e3]
      simp only [Option.bind_some, if_true, bne_self_eq_false, laws_FnExactItemOf.j0]
      rw [if_neg (by simp), toKeep_ok a b h1 h2 _ (by omega)]
      simp only [Option.bind_some]
      rw [eqKeep_ok _ _ (by rw [List.length_map]; omega) (by rw [List.length_map]; omega) _ (by rw [List.length_map, List.length_map]; omega)]
      rfl

end Go.Proofs.Ytakapoionaaimaa.Pure
