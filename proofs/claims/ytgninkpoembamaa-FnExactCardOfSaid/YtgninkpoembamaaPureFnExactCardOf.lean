/- The pure statement of the law 'FnExactCardOf', proved: over numbers, lists and texts alone. No condition. -/
import Derived.Test.YtgninkpoembamaaStFnExactCardOf
import Derived.Laws.BitsLemmas
namespace Go.Proofs.Ytgninkpoembamaa.Pure
open Go.RowKit Go.Proofs.Ytgninkpoembamaa.PFnExactCardOf Go.Proofs.YtgninkpoembamaaW.PrintWords Go.Proofs.YtgninkpoembamaaW.PrintLast Go.Proofs.YtgninkpoembamaaW.PrintMore Go.Proofs.Ytgninkpoembamaa.StFnExactCardOf Go.Proofs.Ytgninkpoembamaa.Opens
set_option linter.unusedVariables false
set_option linter.unusedSimpArgs false

/-! ### base -/
theorem w64 {x : Int} (h0 : -9223372036854775808 ≤ x) (h1 : x ≤ 9223372036854775807) : wrap64 x = x := by unfold wrap64; omega
theorem w64_range (x : Int) : -9223372036854775808 ≤ wrap64 x ∧ wrap64 x ≤ 9223372036854775807 := by unfold wrap64; omega
theorem ip {α : Type} {c : Prop} [Decidable c] {a b : α} (h : c) : (if c then a else b) = a := if_pos h
theorem ineg {α : Type} {c : Prop} [Decidable c] {a b : α} (h : ¬ c) : (if c then a else b) = b := if_neg h
theorem wf_range {n : Int} (h : (Lit.int .i64 n).wf = true) : -9223372036854775808 ≤ n ∧ n ≤ 9223372036854775807 := by
  simp only [Lit.wf, IntKind.min, IntKind.max, IntKind.signed, IntKind.bits, Bool.and_eq_true, decide_eq_true_eq, if_true] at h
  omega
theorem wf_u8 {n : Int} (h : (Lit.int .u8 n).wf = true) : 0 ≤ n ∧ n ≤ 255 := by
  simp [Lit.wf, IntKind.min, IntKind.max, IntKind.signed, IntKind.bits] at h
  omega
theorem and_low (x : Int) (i : Nat) (hi : i ≤ 62) : Go.bits .and .i64 x (2 ^ i - 1) = x % 2 ^ i := by
  have hpos : 0 < 2 ^ i := Nat.two_pow_pos i
  have hc : ((2 : Int) ^ i - 1) = ((2 ^ i - 1 : Nat) : Int) := by rw [Int.natCast_sub hpos]; simp
  have h62 : 2 ^ i ≤ 2 ^ 62 := Nat.pow_le_pow_right (by decide) hi
  have hlt : 2 ^ i - 1 < 2 ^ 64 := by omega
  have hd : (2 ^ i : Nat) ∣ 2 ^ 64 := Nat.pow_dvd_pow 2 (by omega)
  rw [hc]
  simp only [Go.bits, BitVec.ofInt_natCast, BitVec.toNat_and, BitVec.toNat_ofNat, BitVec.toNat_ofInt]
  simp only [show IntKind.i64.bits = 64 from rfl]
  rw [Nat.mod_eq_of_lt hlt, Nat.and_two_pow_sub_one_eq_mod]
  have h1 : (((x % ((2 ^ 64 : Nat) : Int)).toNat % 2 ^ i : Nat) : Int) = x % 2 ^ i := by
    rw [Int.natCast_emod, Int.toNat_of_nonneg (Int.emod_nonneg _ (by decide))]
    rw [Int.natCast_pow]
    exact Int.emod_emod_of_dvd _ (by
      have : (((2 ^ i : Nat) : Int)) ∣ ((2 ^ 64 : Nat) : Int) := Int.natCast_dvd_natCast.2 hd
      simpa using this)
  rw [h1]
  have h2 : 0 ≤ x % 2 ^ i := Int.emod_nonneg _ (by
    have : (0 : Int) < 2 ^ i := by exact_mod_cast hpos
    omega)
  have h3 : x % 2 ^ i < 2 ^ i := Int.emod_lt_of_pos _ (by exact_mod_cast hpos)
  have h4 : (2 : Int) ^ i ≤ 2 ^ 62 := by exact_mod_cast h62
  rw [IntKind.wrap_i64]
  omega
theorem and255 (x : Int) : Go.bits .and .i64 x 255 = x % 256 := and_low x 8 (by omega)
theorem and65535 (x : Int) : Go.bits .and .i64 x 65535 = x % 65536 := and_low x 16 (by omega)
theorem and30 (x : Int) : Go.bits .and .i64 x 1073741823 = x % 1073741824 := and_low x 30 (by omega)
theorem and1 (x : Int) : Go.bits .and .i64 x 1 = x % 2 := and_low x 1 (by omega)
/-- A law's last step: both are one. -/
theorem same_end {v : Bool} : (if (v != v) = true then some false else some true : Option Bool) = some true := by simp
theorem Ev.ex {α : Type} {g : Nat → Option α} {r : α} (h : Ev g r) : ∃ k, g k = some r := h.rounds
theorem Ev.from_ {α : Type} {g : Nat → Option α} {r : α} (K : Nat) (h : ∀ k, K ≤ k → g k = some r) : Ev g r := ⟨K, h⟩
theorem Ev.both {α β : Type} {g : Nat → Option α} {f : Nat → Option β} {r : α} {q : β} (h : Ev g r) (h' : Ev f q) : ∃ K, ∀ k, K ≤ k → g k = some r ∧ f k = some q := by
  obtain ⟨K, h⟩ := h
  obtain ⟨K', h'⟩ := h'
  exact ⟨K + K', fun k hk => ⟨h k (by omega), h' k (by omega)⟩⟩

/-! ### loops -/
/-- A loop upward whose rounds do nothing but go on. -/
theorem up_loop {β : Type} {F : Nat → Int → Option β} {n : Nat} {r : β} (hs : ∀ k (j : Nat), j < n → F (k + 1) (j : Int) = F k ((j + 1 : Nat) : Int)) (he : ∀ k, F (k + 1) (n : Int) = some r) :
    ∀ (d j : Nat), n - j = d → j ≤ n → ∀ k, d < k → F k (j : Int) = some r := by
  intro d
  induction d with
  | zero =>
    intro j hd hj k hk
    obtain ⟨k, rfl⟩ : ∃ m, k = m + 1 := ⟨k - 1, by omega⟩
    obtain rfl : j = n := by omega
    exact he k
  | succ d ih =>
    intro j hd hj k hk
    obtain ⟨k, rfl⟩ : ∃ m, k = m + 1 := ⟨k - 1, by omega⟩
    rw [hs k j (by omega)]
    exact ih (j + 1) (by omega) (by omega) k (by omega)
/-- A loop that turns each element of a list into one of a list that was made. -/
theorem map_loop {α β : Type} {F : Nat → List β → Int → Option (List β)} {g : α → β} {l : List α}
    (hs : ∀ k (acc : List β) (j : Nat) (hj : j < l.length), acc.length = l.length → F (k + 1) acc (j : Int) = F k (acc.set j (g l[j])) ((j + 1 : Nat) : Int))
    (he : ∀ k (acc : List β), F (k + 1) acc (l.length : Int) = some acc) :
    ∀ (d j : Nat) (acc : List β), l.length - j = d → j ≤ l.length → acc.length = l.length → (∀ i, i < j → acc[i]? = (l[i]?).map g) → ∀ k, d < k → F k acc (j : Int) = some (l.map g) := by
  intro d
  induction d with
  | zero =>
    intro j acc hd hj hl ha k hk
    obtain ⟨k, rfl⟩ : ∃ m, k = m + 1 := ⟨k - 1, by omega⟩
    obtain rfl : j = l.length := by omega
    rw [he]
    congr 1
    apply List.ext_getElem?
    intro i
    rw [List.getElem?_map]
    by_cases hi : i < l.length
    · exact ha i hi
    · rw [List.getElem?_eq_none (by omega), List.getElem?_eq_none (by omega)]; rfl
  | succ d ih =>
    intro j acc hd hj hl ha k hk
    obtain ⟨k, rfl⟩ : ∃ m, k = m + 1 := ⟨k - 1, by omega⟩
    have hjl : j < l.length := by omega
    rw [hs k acc j hjl hl]
    refine ih (j + 1) _ (by omega) (by omega) (by rw [List.length_set]; exact hl) (fun i hi => ?_) k (by omega)
    by_cases hij : i = j
    · subst hij
      rw [List.getElem?_set_self (by omega), List.getElem?_eq_getElem hjl]
      rfl
    · rw [List.getElem?_set_ne (fun h => hij h.symm)]
      exact ha i (by omega)
theorem getD_at {α : Type} {l : List α} {j : Nat} (z : α) (h : j < l.length) : l.getD (j : Int).toNat z = l[j] := by
  simp [List.getD_eq_getElem?_getD, List.getElem?_eq_getElem h]

/-! ### knowns -/
def conK (x : S89) : S70 := ⟨x.f0, x.f1⟩
theorem toKnowns_ok (l : List S89) (hl : l.length ≤ 1048576) : ∀ k, l.length < k → laws_toKnownS.f k l = some (l.map conK) := by
  intro k hk
  unfold laws_toKnownS.f
  rw [if_pos (by omega), if_pos (by omega)]
  refine map_loop (F := fun k acc j => laws_toKnownS.l0 k l acc j) ?_ ?_ l.length 0 _ (by omega) (by omega) (by simp) (fun i hi => absurd hi (by omega)) k hk
  · intro k acc j hj ha
    simp only [laws_toKnownS.l0, laws_toKnown.f, Option.bind_some]
    rw [if_pos (by omega), if_pos (by omega), if_pos (by omega), w64 (by omega) (by omega)]
    unfold rd_T89
    rw [getD_at _ hj]
    rfl
  · intro k acc
    simp only [laws_toKnownS.l0]
    rw [if_neg (by omega)]
theorem eqKnowns_ok (l : List S70) (hl : l.length ≤ 2000000) : ∀ k, l.length < k → laws_eqKnownS.f k l l = some true := by
  intro k hk
  unfold laws_eqKnownS.f
  rw [if_pos rfl]
  refine up_loop (F := fun k j => laws_eqKnownS.l0 k l l j) (n := l.length) ?_ ?_ l.length 0 (by omega) (by omega) k hk
  · intro k j hj
    simp only [laws_eqKnownS.l0, laws_eqKnown.f]
    rw [if_pos (by omega), if_pos (by omega), if_pos (by omega), w64 (by omega) (by omega)]
    simp
  · intro k
    simp only [laws_eqKnownS.l0]
    rw [if_neg (by omega)]
theorem szKnowns_eq (l : List S89) (hl : l.length ≤ maxLen) : ∃ t, laws_szKnownS.f l 1048576 = some t ∧ (t < 0 ∨ l.length ≤ 1048576) := by
  unfold laws_szKnownS.f
  simp only [maxLen] at hl
  rw [w64 (by omega) (by omega)]
  split
  · exact ⟨_, rfl, .inl (by omega)⟩
  · exact ⟨_, rfl, .inr (by omega)⟩

/-! ### cardof -/
def cardM (l : List S70) (a : Int) : Int := ((l.find? (fun x => decide (x.f0 = a))).map (·.f1)).getD 0
theorem card_loop (l : List S70) (a : Int) (hl : l.length ≤ 2000000) : ∀ (d j : Nat), l.length - j = d → j ≤ l.length → ∀ k, d < k → impl_CardOf.l0 k a l (l.length : Int) (j : Int) = some (cardM (l.drop j) a) := by
  intro d
  induction d with
  | zero =>
    intro j hd hj k hk
    obtain ⟨k, rfl⟩ : ∃ m, k = m + 1 := ⟨k - 1, by omega⟩
    simp only [impl_CardOf.l0]
    rw [if_neg (by omega), List.drop_of_length_le (by omega)]
    rfl
  | succ d ih =>
    intro j hd hj k hk
    obtain ⟨k, rfl⟩ : ∃ m, k = m + 1 := ⟨k - 1, by omega⟩
    have hjl : j < l.length := by omega
    have hget : rd_T70 l (j : Int) = l[j] := by
      unfold rd_T70
      simp [List.getD_eq_getElem?_getD, List.getElem?_eq_getElem hjl]
    have hdrop : l.drop j = l[j] :: l.drop (j + 1) := List.drop_eq_getElem_cons hjl
    simp only [impl_CardOf.l0]
    rw [if_pos (by omega), if_pos (by omega), if_pos (by omega), hget, w64 (x := (j : Int) + 1) (by omega) (by omega), hdrop]
    by_cases h : l[j].f0 = a
    · rw [if_pos h]
      simp only [cardM, List.find?_cons, h, decide_true, Option.map_some, Option.getD_some]
    · rw [if_neg h]
      have := ih (j + 1) (by omega) (by omega) k (by omega)
      rw [show ((j : Int) + 1) = ((j + 1 : Nat) : Int) by omega, this]
      simp only [cardM, List.find?_cons, h, decide_false]
theorem card_ok (l : List S70) (a : Int) (hl : l.length ≤ 2000000) : ∀ k, l.length < k → impl_CardOf.f k l a = some (cardM l a) := fun k hk =>
  card_loop l a hl l.length 0 (by omega) (by omega) k hk

/-! ### FnExactCardOf -/
theorem card_down (l : List S70) (a : Int) (hl : l.length ≤ 2000000) : ∀ (j : Nat), j ≤ l.length → ∀ k, j < k → spec_CardOf.l0 k l a (cardM (l.drop j) a) ((j : Int) - 1) = some (cardM l a) := by
  intro j
  induction j with
  | zero =>
    intro hj k hk
    obtain ⟨k, rfl⟩ : ∃ m, k = m + 1 := ⟨k - 1, by omega⟩
    simp only [spec_CardOf.l0]
    rw [if_neg (by omega)]
    rfl
  | succ j ih =>
    intro hj k hk
    obtain ⟨k, rfl⟩ : ∃ m, k = m + 1 := ⟨k - 1, by omega⟩
    have hjl : j < l.length := by omega
    have hget : rd_T70 l (j : Int) = l[j] := by unfold rd_T70; exact getD_at _ hjl
    have hdrop : l.drop j = l[j] :: l.drop (j + 1) := List.drop_eq_getElem_cons hjl
    have ih := ih (by omega) k (by omega)
    simp only [spec_CardOf.l0]
    rw [show ((j + 1 : Nat) : Int) - 1 = (j : Int) by omega, if_pos (by omega), if_pos (by omega), if_pos (by omega), hget, w64 (x := (j : Int) - 1) (by omega) (by omega)]
    rw [hdrop] at ih
    by_cases h : l[j].f0 = a
    · rw [if_pos h]
      simp only [cardM, List.find?_cons, h, decide_true, Option.map_some, Option.getD_some] at ih ⊢
      exact ih
    · rw [if_neg h]
      simp only [cardM, List.find?_cons, h, decide_false] at ih ⊢
      exact ih
theorem cardSpec_ok (l : List S70) (a : Int) (hl : l.length ≤ 2000000) : ∀ k, l.length < k → spec_CardOf.f k l a = some (cardM l a) := by
  intro k hk
  unfold spec_CardOf.f
  rw [w64 (by omega) (by omega)]
  have := card_down l a hl l.length (Nat.le_refl _) k hk
  rw [List.drop_length] at this
  exact this
theorem FnExactCardOf : StFnExactCardOf.Pure := by
  intro l a hl _
  obtain ⟨t, ht, hc⟩ := szKnowns_eq l hl.1
  unfold laws_FnExactCardOf.f
  rw [ht]
  simp only [Option.bind_some]
  by_cases h : t < 0
  · exact ⟨0, by rw [if_pos h]⟩
  · have hlen : l.length ≤ 1048576 := by omega
    have hm : (l.map conK).length = l.length := List.length_map _
    refine ⟨l.length + 1, ?_⟩
    rw [if_neg h, toKnowns_ok l hlen _ (by omega)]
    simp only [Option.bind_some]
    rw [cardSpec_ok _ _ (by omega) _ (by omega), card_ok _ _ (by omega) _ (by omega), eqKnowns_ok _ (by omega) _ (by omega)]
    simp

end Go.Proofs.Ytgninkpoembamaa.Pure
