/- The pure statement of the law 'FnExactLearn', proved: over numbers, lists and texts alone. No condition. -/
import Derived.Test.YtideegpoakkgeaaStFnExactLearn
import Derived.Laws.BitsLemmas
namespace Go.Proofs.Ytideegpoakkgeaa.Pure
open Go.RowKit Go.Proofs.Ytideegpoakkgeaa.QFnExactLearn Go.Proofs.YtideegpoakkgeaaW.PrintWords Go.Proofs.YtideegpoakkgeaaW.PrintLast Go.Proofs.YtideegpoakkgeaaW.PrintMore Go.Proofs.Ytideegpoakkgeaa.StFnExactLearn Go.Proofs.Ytideegpoakkgeaa.Opens
set_option linter.unusedVariables false
set_option linter.unusedSimpArgs false

/-! ### base -/
theorem w64 {x : Int} (h0 : -9223372036854775808 ≤ x) (h1 : x ≤ 9223372036854775807) : wrap64 x = x := by unfold wrap64; omega
theorem w64_range (x : Int) : -9223372036854775808 ≤ wrap64 x ∧ wrap64 x ≤ 9223372036854775807 := by unfold wrap64; omega
theorem ip {α : Type} {c : Prop} [Decidable c] {a b : α} (h : c) : (if c then a else b) = a := if_pos h
theorem ineg {α : Type} {c : Prop} [Decidable c] {a b : α} (h : ¬ c) : (if c then a else b) = b := if_neg h
theorem wf_range {n : Int} (h : (Lit.int .i64 n).wf = true) : -9223372036854775808 ≤ n ∧ n ≤ 9223372036854775807 := by
  simp only [Lit.wf, IntKind.min, IntKind.max, IntKind.signed, IntKind.bits, Bool.and_eq_true, decide_eq_true_eq, if_true] at h
  omega
theorem wf_u8 {n : Int} (h : (Lit.int .u8 n).wf = true) : 0 ≤ n ∧ n ≤ 255 := by
  simp [Lit.wf, IntKind.min, IntKind.max, IntKind.signed, IntKind.bits] at h
  omega
theorem and_low (x : Int) (i : Nat) (hi : i ≤ 62) : Go.bits .and .i64 x (2 ^ i - 1) = x % 2 ^ i := by
  have hpos : 0 < 2 ^ i := Nat.two_pow_pos i
  have hc : ((2 : Int) ^ i - 1) = ((2 ^ i - 1 : Nat) : Int) := by rw [Int.natCast_sub hpos]; simp
  have h62 : 2 ^ i ≤ 2 ^ 62 := Nat.pow_le_pow_right (by decide) hi
  have hlt : 2 ^ i - 1 < 2 ^ 64 := by omega
  have hd : (2 ^ i : Nat) ∣ 2 ^ 64 := Nat.pow_dvd_pow 2 (by omega)
  rw [hc]
  simp only [Go.bits, BitVec.ofInt_natCast, BitVec.toNat_and, BitVec.toNat_ofNat, BitVec.toNat_ofInt]
  simp only [show IntKind.i64.bits = 64 from rfl]
  rw [Nat.mod_eq_of_lt hlt, Nat.and_two_pow_sub_one_eq_mod]
  have h1 : (((x % ((2 ^ 64 : Nat) : Int)).toNat % 2 ^ i : Nat) : Int) = x % 2 ^ i := by
    rw [Int.natCast_emod, Int.toNat_of_nonneg (Int.emod_nonneg _ (by decide))]
    rw [Int.natCast_pow]
    exact Int.emod_emod_of_dvd _ (by
      have : (((2 ^ i : Nat) : Int)) ∣ ((2 ^ 64 : Nat) : Int) := Int.natCast_dvd_natCast.2 hd
      simpa using this)
  rw [h1]
  have h2 : 0 ≤ x % 2 ^ i := Int.emod_nonneg _ (by
    have : (0 : Int) < 2 ^ i := by exact_mod_cast hpos
    omega)
  have h3 : x % 2 ^ i < 2 ^ i := Int.emod_lt_of_pos _ (by exact_mod_cast hpos)
  have h4 : (2 : Int) ^ i ≤ 2 ^ 62 := by exact_mod_cast h62
  rw [IntKind.wrap_i64]
  omega
theorem and255 (x : Int) : Go.bits .and .i64 x 255 = x % 256 := and_low x 8 (by omega)
theorem and65535 (x : Int) : Go.bits .and .i64 x 65535 = x % 65536 := and_low x 16 (by omega)
theorem and30 (x : Int) : Go.bits .and .i64 x 1073741823 = x % 1073741824 := and_low x 30 (by omega)
theorem and1 (x : Int) : Go.bits .and .i64 x 1 = x % 2 := and_low x 1 (by omega)
/-- A law's last step: both are one. -/
theorem same_end {v : Bool} : (if (v != v) = true then some false else some true : Option Bool) = some true := by simp
theorem Ev.ex {α : Type} {g : Nat → Option α} {r : α} (h : Ev g r) : ∃ k, g k = some r := h.rounds
theorem Ev.from_ {α : Type} {g : Nat → Option α} {r : α} (K : Nat) (h : ∀ k, K ≤ k → g k = some r) : Ev g r := ⟨K, h⟩
theorem Ev.both {α β : Type} {g : Nat → Option α} {f : Nat → Option β} {r : α} {q : β} (h : Ev g r) (h' : Ev f q) : ∃ K, ∀ k, K ≤ k → g k = some r ∧ f k = some q := by
  obtain ⟨K, h⟩ := h
  obtain ⟨K', h'⟩ := h'
  exact ⟨K + K', fun k hk => ⟨h k (by omega), h' k (by omega)⟩⟩

/-! ### in -/
def rng (a b c : Int) : Bool := decide (b ≤ a) && decide (a ≤ c)
theorem rng_iff {a b c : Int} : rng a b c = true ↔ b ≤ a ∧ a ≤ c := by simp [rng]
theorem rng_false {a b c : Int} : rng a b c = false ↔ ¬ (b ≤ a ∧ a ≤ c) := by rw [← rng_iff]; simp
theorem in_eq (a b c : Int) : spec_l01In.f a b c = some (rng a b c) := by
  unfold spec_l01In.f rng
  by_cases h : b ≤ a
  · rw [if_pos h]; simp [h]
  · rw [if_neg h]; simp [h]
theorem within_eq (a b c : Int) : impl_within.f a b c = some (rng a b c) := by
  unfold impl_within.f rng
  by_cases h : b ≤ a
  · rw [if_pos h]; simp [h]
  · rw [if_neg h]; simp [h]

/-! ### learn -/
def learnM (l : List S88) (a c : Int) : List S88 :=
  let o := l.filter (fun x : S88 => !decide (x.f0 = a)) ++ [(⟨a, c⟩ : S88)]
  o.drop (o.length - 4)
theorem learn_loop (l : List S88) (a c : Int) (hl : l.length ≤ 2000000) : ∀ (d j : Nat) (acc : List S88), l.length - j = d → j ≤ l.length → acc.length ≤ j →
    ∀ k, d < k → impl_Learn.l0 k a c acc l (l.length : Int) (j : Int) = some ((acc ++ (l.drop j).filter (fun x : S88 => !decide (x.f0 = a)) ++ [(⟨a, c⟩ : S88)]).drop ((acc ++ (l.drop j).filter (fun x : S88 => !decide (x.f0 = a)) ++ [(⟨a, c⟩ : S88)]).length - 4)) := by
  intro d
  induction d with
  | zero =>
    intro j acc hd hj ha k hk
    obtain ⟨k, rfl⟩ : ∃ m, k = m + 1 := ⟨k - 1, by omega⟩
    have hjl : j = l.length := by omega
    subst hjl
    simp only [impl_Learn.l0]
    rw [if_neg (by omega), if_pos (by omega)]
    simp only [Option.bind_some, List.drop_length, List.filter_nil, List.append_nil]
    have hlen : (((acc ++ [(⟨a, c⟩ : S88)]).length : Nat) : Int) = (acc.length : Int) + 1 := by simp
    have hw : wrap64 ((((acc ++ [(⟨a, c⟩ : S88)]).length : Nat) : Int) - 4) = (acc.length : Int) - 3 := by
      rw [hlen, w64 (by omega) (by omega)]; omega
    rw [hw]
    have hmx : mx 0 ((acc.length : Int) - 3) = (((acc ++ [(⟨a, c⟩ : S88)]).length - 4 : Nat) : Int) := by
      unfold mx
      simp only [List.length_append, List.length_singleton]
      split <;> omega
    rw [hmx, if_pos (by omega), if_pos (by omega)]
    simp
  | succ d ih =>
    intro j acc hd hj ha k hk
    obtain ⟨k, rfl⟩ : ∃ m, k = m + 1 := ⟨k - 1, by omega⟩
    have hjl : j < l.length := by omega
    have hget : rd_T88 l (j : Int) = l[j] := by
      unfold rd_T88
      simp [List.getD_eq_getElem?_getD, List.getElem?_eq_getElem hjl]
    have hdrop : l.drop j = l[j] :: l.drop (j + 1) := List.drop_eq_getElem_cons hjl
    simp only [impl_Learn.l0]
    rw [if_pos (by omega), if_pos (by omega), if_pos (by omega), hget, w64 (x := (j : Int) + 1) (by omega) (by omega)]
    by_cases h : l[j].f0 = a
    · rw [if_pos h, hdrop, List.filter_cons_of_neg (by simp [h])]
      exact ih (j + 1) acc (by omega) (by omega) (by omega) k (by omega)
    · rw [if_neg h, if_pos (by omega), hdrop, List.filter_cons_of_pos (by simp [h])]
      have := ih (j + 1) (acc ++ [⟨l[j].f0, l[j].f1⟩]) (by omega) (by omega) (by rw [List.length_append, List.length_singleton]; omega) k (by omega)
      rw [List.append_assoc acc] at this
      exact this
theorem learn_good (l : List S88) (a c : Int) (hl : l.length ≤ 2000000) (ha : rng a 1 99 = true) (hc : rng c 1 99 = true) : ∀ k, l.length + 1 < k → impl_Learn.f k l a c = some (learnM l a c) := by
  intro k hk
  obtain ⟨k, rfl⟩ : ∃ m, k = m + 1 := ⟨k - 1, by omega⟩
  unfold impl_Learn.f impl_isAddr.f
  simp only [within_eq, Option.bind_some, ha, hc, if_true, Bool.not_true, impl_Learn.j0]
  rw [if_neg (by simp)]
  exact learn_loop l a c hl l.length 0 [] (by omega) (by omega) (by simp) k (by omega)
theorem learn_bad (l : List S88) (a c : Int) (hl : l.length ≤ 2000000) (h : (rng a 1 99 && rng c 1 99) = false) : ∀ k, 0 < k → impl_Learn.f k l a c = some l := by
  intro k hk
  obtain ⟨k, rfl⟩ : ∃ m, k = m + 1 := ⟨k - 1, by omega⟩
  unfold impl_Learn.f impl_isAddr.f
  simp only [within_eq, Option.bind_some, impl_Learn.j0]
  have hlen : ([] : List S88).length + l.length < 8796093022208 := by simp; omega
  cases ha : rng a 1 99 <;> cases hc : rng c 1 99 <;> simp_all
theorem spec_learn_cut : ∀ (d : Nat) (o : List S88), o.length ≤ 4 + d → o.length ≤ 3000000 → ∀ k, d < k → spec_Learn.l1 k o = some (o.drop (o.length - 4)) := by
  intro d
  induction d with
  | zero =>
    intro o ho _ k hk
    obtain ⟨k, rfl⟩ : ∃ m, k = m + 1 := ⟨k - 1, by omega⟩
    simp only [spec_Learn.l1]
    rw [if_neg (by omega), show o.length - 4 = 0 by omega, List.drop_zero]
  | succ d ih =>
    intro o ho h3 k hk
    obtain ⟨k, rfl⟩ : ∃ m, k = m + 1 := ⟨k - 1, by omega⟩
    simp only [spec_Learn.l1, Option.bind_some, List.length_nil, Nat.zero_add, List.nil_append]
    by_cases h : (o.length : Int) > 4
    · rw [if_pos h, if_pos (by omega), if_pos (by rw [List.length_drop]; omega), ih (o.drop 1) (by rw [List.length_drop]; omega) (by rw [List.length_drop]; omega) k (by omega), List.length_drop, List.drop_drop]
      congr 2
      omega
    · rw [if_neg h, show o.length - 4 = 0 by omega, List.drop_zero]
theorem spec_learn_loop (l : List S88) (a c : Int) (hl : l.length ≤ 2000000) : ∀ (d j : Nat) (acc : List S88), l.length - j = d → j ≤ l.length → acc.length ≤ j →
    ∀ k, 2 * d + acc.length + l.length + 5 < k → spec_Learn.l0 k l a c acc (j : Int) = some ((acc ++ (l.drop j).filter (fun x : S88 => !decide (x.f0 = a)) ++ [(⟨a, c⟩ : S88)]).drop ((acc ++ (l.drop j).filter (fun x : S88 => !decide (x.f0 = a)) ++ [(⟨a, c⟩ : S88)]).length - 4)) := by
  intro d
  induction d with
  | zero =>
    intro j acc hd hj ha k hk
    obtain ⟨k, rfl⟩ : ∃ m, k = m + 1 := ⟨k - 1, by omega⟩
    have hjl : j = l.length := by omega
    subst hjl
    simp only [spec_Learn.l0]
    rw [if_neg (by omega), if_pos (by omega)]
    simp only [List.drop_length, List.filter_nil, List.append_nil]
    exact spec_learn_cut acc.length _ (by rw [List.length_append, List.length_singleton]; omega) (by rw [List.length_append, List.length_singleton]; omega) k (by omega)
  | succ d ih =>
    intro j acc hd hj ha k hk
    obtain ⟨k, rfl⟩ : ∃ m, k = m + 1 := ⟨k - 1, by omega⟩
    have hjl : j < l.length := by omega
    have hget : rd_T88 l (j : Int) = l[j] := by
      unfold rd_T88
      simp [List.getD_eq_getElem?_getD, List.getElem?_eq_getElem hjl]
    have hdrop : l.drop j = l[j] :: l.drop (j + 1) := List.drop_eq_getElem_cons hjl
    simp only [spec_Learn.l0]
    rw [if_pos (by omega), if_pos (by omega), hget, w64 (x := (j : Int) + 1) (by omega) (by omega)]
    by_cases h : l[j].f0 = a
    · rw [if_pos h, hdrop, List.filter_cons_of_neg (by simp [h])]
      exact ih (j + 1) acc (by omega) (by omega) (by omega) k (by omega)
    · rw [if_neg h, if_pos (by omega), hdrop, List.filter_cons_of_pos (by simp [h])]
      have := ih (j + 1) (acc ++ [⟨l[j].f0, l[j].f1⟩]) (by omega) (by omega) (by rw [List.length_append, List.length_singleton]; omega) k (by rw [List.length_append, List.length_singleton]; omega)
      rw [List.append_assoc acc] at this
      exact this
theorem learn_both (l : List S88) (a c : Int) (hl : l.length ≤ 2000000) : ∃ r : List S88, r.length ≤ l.length + 1 ∧ ∀ k, 4 * l.length + 20 < k → spec_Learn.f k l a c = some r ∧ impl_Learn.f k l a c = some r := by
  cases hb : (rng a 1 99 && rng c 1 99) with
  | false =>
    refine ⟨l, by omega, fun k hk => ⟨?_, learn_bad l a c hl hb k (by omega)⟩⟩
    obtain ⟨k, rfl⟩ : ∃ m, k = m + 1 := ⟨k - 1, by omega⟩
    have hlen : 0 + l.length < 8796093022208 := by omega
    unfold spec_Learn.f
    simp only [in_eq, Option.bind_some, spec_Learn.j0, List.length_nil, List.nil_append]
    cases ha : rng a 1 99 <;> cases hc : rng c 1 99 <;> simp_all
  | true =>
    have ha : rng a 1 99 = true := by cases h : rng a 1 99 <;> simp_all
    have hc : rng c 1 99 = true := by cases h : rng c 1 99 <;> simp_all
    refine ⟨learnM l a c, ?_, fun k hk => ⟨?_, learn_good l a c hl ha hc k (by omega)⟩⟩
    · unfold learnM
      have := List.length_filter_le (fun x : S88 => !decide (x.f0 = a)) l
      simp only [List.length_drop, List.length_append, List.length_singleton]
      omega
    · obtain ⟨k, rfl⟩ : ∃ m, k = m + 1 := ⟨k - 1, by omega⟩
      unfold spec_Learn.f
      simp only [in_eq, Option.bind_some, ha, hc, if_true, Bool.not_true, spec_Learn.j0, Bool.false_eq_true, if_false]
      exact spec_learn_loop l a c hl l.length 0 [] (by omega) (by omega) (by simp) k (by simp; omega)

/-! ### loops -/
/-- A loop upward whose rounds do nothing but go on. -/
theorem up_loop {β : Type} {F : Nat → Int → Option β} {n : Nat} {r : β} (hs : ∀ k (j : Nat), j < n → F (k + 1) (j : Int) = F k ((j + 1 : Nat) : Int)) (he : ∀ k, F (k + 1) (n : Int) = some r) :
    ∀ (d j : Nat), n - j = d → j ≤ n → ∀ k, d < k → F k (j : Int) = some r := by
  intro d
  induction d with
  | zero =>
    intro j hd hj k hk
    obtain ⟨k, rfl⟩ : ∃ m, k = m + 1 := ⟨k - 1, by omega⟩
    obtain rfl : j = n := by omega
    exact he k
  | succ d ih =>
    intro j hd hj k hk
    obtain ⟨k, rfl⟩ : ∃ m, k = m + 1 := ⟨k - 1, by omega⟩
    rw [hs k j (by omega)]
    exact ih (j + 1) (by omega) (by omega) k (by omega)
/-- A loop that turns each element of a list into one of a list that was made. -/
theorem map_loop {α β : Type} {F : Nat → List β → Int → Option (List β)} {g : α → β} {l : List α}
    (hs : ∀ k (acc : List β) (j : Nat) (hj : j < l.length), acc.length = l.length → F (k + 1) acc (j : Int) = F k (acc.set j (g l[j])) ((j + 1 : Nat) : Int))
    (he : ∀ k (acc : List β), F (k + 1) acc (l.length : Int) = some acc) :
    ∀ (d j : Nat) (acc : List β), l.length - j = d → j ≤ l.length → acc.length = l.length → (∀ i, i < j → acc[i]? = (l[i]?).map g) → ∀ k, d < k → F k acc (j : Int) = some (l.map g) := by
  intro d
  induction d with
  | zero =>
    intro j acc hd hj hl ha k hk
    obtain ⟨k, rfl⟩ : ∃ m, k = m + 1 := ⟨k - 1, by omega⟩
    obtain rfl : j = l.length := by omega
    rw [he]
    congr 1
    apply List.ext_getElem?
    intro i
    rw [List.getElem?_map]
    by_cases hi : i < l.length
    · exact ha i hi
    · rw [List.getElem?_eq_none (by omega), List.getElem?_eq_none (by omega)]; rfl
  | succ d ih =>
    intro j acc hd hj hl ha k hk
    obtain ⟨k, rfl⟩ : ∃ m, k = m + 1 := ⟨k - 1, by omega⟩
    have hjl : j < l.length := by omega
    rw [hs k acc j hjl hl]
    refine ih (j + 1) _ (by omega) (by omega) (by rw [List.length_set]; exact hl) (fun i hi => ?_) k (by omega)
    by_cases hij : i = j
    · subst hij
      rw [List.getElem?_set_self (by omega), List.getElem?_eq_getElem hjl]
      rfl
    · rw [List.getElem?_set_ne (fun h => hij h.symm)]
      exact ha i (by omega)
theorem getD_at {α : Type} {l : List α} {j : Nat} (z : α) (h : j < l.length) : l.getD (j : Int).toNat z = l[j] := by
  simp [List.getD_eq_getElem?_getD, List.getElem?_eq_getElem h]

/-! ### knowns -/
def conK (x : S90) : S88 := ⟨x.f0, x.f1⟩
theorem toKnowns_ok (l : List S90) (hl : l.length ≤ 1048576) : ∀ k, l.length < k → laws_toKnownS.f k l = some (l.map conK) := by
  intro k hk
  unfold laws_toKnownS.f
  rw [if_pos (by omega), if_pos (by omega)]
  refine map_loop (F := fun k acc j => laws_toKnownS.l0 k l acc j) ?_ ?_ l.length 0 _ (by omega) (by omega) (by simp) (fun i hi => absurd hi (by omega)) k hk
  · intro k acc j hj ha
    simp only [laws_toKnownS.l0, laws_toKnown.f, Option.bind_some]
    rw [if_pos (by omega), if_pos (by omega), if_pos (by omega), w64 (by omega) (by omega)]
    unfold rd_T90
    rw [getD_at _ hj]
    rfl
  · intro k acc
    simp only [laws_toKnownS.l0]
    rw [if_neg (by omega)]
theorem eqKnowns_ok (l : List S88) (hl : l.length ≤ 2000000) : ∀ k, l.length < k → laws_eqKnownS.f k l l = some true := by
  intro k hk
  unfold laws_eqKnownS.f
  rw [if_pos rfl]
  refine up_loop (F := fun k j => laws_eqKnownS.l0 k l l j) (n := l.length) ?_ ?_ l.length 0 (by omega) (by omega) k hk
  · intro k j hj
    simp only [laws_eqKnownS.l0, laws_eqKnown.f]
    rw [if_pos (by omega), if_pos (by omega), if_pos (by omega), w64 (by omega) (by omega)]
    simp
  · intro k
    simp only [laws_eqKnownS.l0]
    rw [if_neg (by omega)]
theorem szKnowns_eq (l : List S90) (hl : l.length ≤ maxLen) : ∃ t, laws_szKnownS.f l 1048576 = some t ∧ (t < 0 ∨ l.length ≤ 1048576) := by
  unfold laws_szKnownS.f
  simp only [maxLen] at hl
  rw [w64 (by omega) (by omega)]
  split
  · exact ⟨_, rfl, .inl (by omega)⟩
  · exact ⟨_, rfl, .inr (by omega)⟩

/-! ### mark -/
theorem mark_loop {α : Type} {F : Nat → List α → Int → Int → Option (Int × List α)} {G : Int → α} {w : Nat}
    (hs : ∀ k (l : List α) (c : Int) (j : Nat), j < l.length → l.length ≤ 2000000 → 20 ≤ k → 0 ≤ c → c ≤ 100000000000000 → F (k + 1) l c (j : Int) = F k (l.set j (G c)) (c + w) ((j + 1 : Nat) : Int))
    (he : ∀ k (l : List α) (c : Int), F (k + 1) l c (l.length : Int) = some (c, l)) :
    ∀ (d j : Nat) (l : List α) (c : Int), l.length - j = d → j ≤ l.length → l.length ≤ 2000000 → 0 ≤ c → c + w * d ≤ 100000000000000 →
    ∃ l' : List α, l'.length = l.length ∧ (∀ i, i < j → l'[i]? = l[i]?) ∧ (∀ i, j ≤ i → i < l.length → l'[i]? = some (G (c + w * ((i - j : Nat) : Int)))) ∧ ∀ k, d + 20 < k → F k l c (j : Int) = some (c + w * d, l') := by
  intro d
  induction d with
  | zero =>
    intro j l c hd hj hl h0 h1
    obtain rfl : j = l.length := by omega
    refine ⟨l, rfl, fun _ _ => rfl, fun i h2 h3 => by omega, fun k hk => ?_⟩
    obtain ⟨k, rfl⟩ : ∃ m, k = m + 1 := ⟨k - 1, by omega⟩
    rw [he]
    simp
  | succ d ih =>
    intro j l c hd hj hl h0 h1
    have hmul : (w : Int) * ((d + 1 : Nat) : Int) = w + w * d := by rw [Int.natCast_succ, Int.mul_add, Int.mul_one, Int.add_comm]
    have hwd : 0 ≤ (w : Int) * (d : Int) := Int.mul_nonneg (by omega) (by omega)
    obtain ⟨l', hl', h2, h3, h4⟩ := ih (j + 1) (l.set j (G c)) (c + w) (by rw [List.length_set]; omega) (by rw [List.length_set]; omega) (by rw [List.length_set]; exact hl) (by omega) (by omega)
    rw [List.length_set] at hl' h3
    refine ⟨l', hl', fun i hi => ?_, fun i hi1 hi2 => ?_, fun k hk => ?_⟩
    · rw [h2 i (by omega), List.getElem?_set_ne (by omega)]
    · by_cases hij : i = j
      · subst hij
        rw [h2 i (by omega), List.getElem?_set_self (by omega)]
        simp
      · rw [h3 i (by omega) hi2]
        congr 2
        have : ((i - j : Nat) : Int) = ((i - (j + 1) : Nat) : Int) + 1 := by omega
        rw [this, Int.mul_add, Int.mul_one]
        omega
    · obtain ⟨k, rfl⟩ : ∃ m, k = m + 1 := ⟨k - 1, by omega⟩
      rw [hs k l c j (by omega) hl (by omega) h0 (by omega), h4 k (by omega), hmul]
      congr 2
      omega
theorem held_loop {α : Type} {F : Nat → List α → Int → Int → Option Int} {G : Int → α} {w : Nat} {l : List α}
    (hs : ∀ k (c : Int) (j : Nat) (hj : j < l.length), l.length ≤ 2000000 → 20 ≤ k → 0 ≤ c → c ≤ 100000000000000 → l[j] = G c → F (k + 1) l c (j : Int) = F k l (c + w) ((j + 1 : Nat) : Int))
    (he : ∀ k (c : Int), F (k + 1) l c (l.length : Int) = some c) (hl : l.length ≤ 2000000) :
    ∀ (d j : Nat) (c : Int), l.length - j = d → j ≤ l.length → 0 ≤ c → c + w * d ≤ 100000000000000 → (∀ i, j ≤ i → i < l.length → l[i]? = some (G (c + w * ((i - j : Nat) : Int)))) → ∀ k, d + 20 < k → F k l c (j : Int) = some (c + w * d) := by
  intro d
  induction d with
  | zero =>
    intro j c hd hj h0 h1 hG k hk
    obtain rfl : j = l.length := by omega
    obtain ⟨k, rfl⟩ : ∃ m, k = m + 1 := ⟨k - 1, by omega⟩
    rw [he]
    simp
  | succ d ih =>
    intro j c hd hj h0 h1 hG k hk
    obtain ⟨k, rfl⟩ : ∃ m, k = m + 1 := ⟨k - 1, by omega⟩
    have hjl : j < l.length := by omega
    have hmul : (w : Int) * ((d + 1 : Nat) : Int) = w + w * d := by rw [Int.natCast_succ, Int.mul_add, Int.mul_one, Int.add_comm]
    have hwd : 0 ≤ (w : Int) * (d : Int) := Int.mul_nonneg (by omega) (by omega)
    have hj0 : l[j] = G c := by
      have := hG j (Nat.le_refl _) hjl
      rw [List.getElem?_eq_getElem hjl] at this
      simpa using this
    rw [hs k c j hjl hl (by omega) h0 (by omega) hj0, ih (j + 1) (c + w) (by omega) (by omega) (by omega) (by omega) (fun i h2 h3 => ?_) k (by omega), hmul]
    · congr 1; omega
    · rw [hG i (by omega) h3]
      congr 2
      have : ((i - j : Nat) : Int) = ((i - (j + 1) : Nat) : Int) + 1 := by omega
      rw [this, Int.mul_add, Int.mul_one]
      omega

/-! ### m_Known -/
def mkKnown (c : Int) : S88 := ⟨c, c + 1⟩
theorem rdset_Known (l : List S88) (j : Nat) (a : S88) (h : j < l.length) : rd_T88 (l.set j a) (j : Int) = a := by
  unfold rd_T88
  rw [getD_at _ (by rw [List.length_set]; exact h), List.getElem_set_self]
theorem markKnownS_ok (l : List S88) (c : Int) (hl : l.length ≤ 2000000) (h0 : 0 ≤ c) (h1 : c + 2 * l.length ≤ 100000000000000) :
    ∃ l' : List S88, l'.length = l.length ∧ (∀ i, i < l.length → l'[i]? = some (mkKnown (c + 2 * (i : Int)))) ∧ ∀ k, l.length + 20 < k → laws_markKnownS.f k l c = some (c + 2 * l.length, l') := by
  obtain ⟨l', hl', _, h3, h4⟩ := mark_loop (F := fun k l c j => laws_markKnownS.l0 k l c j) (G := mkKnown) (w := 2) (fun k l c j hj hl hk h0 h1 => by
      simp (disch := omega) only [laws_markKnownS.l0, ip, Option.bind_some, w64, rdset_Known, List.set_set, Int.toNat_natCast]
      unfold mkKnown
      congr 1 <;> omega) (fun k l c => by simp only [laws_markKnownS.l0]; rw [if_neg (by omega)]) l.length 0 l c (by omega) (by omega) hl h0 h1
  exact ⟨l', hl', fun i hi => by simpa using h3 i (by omega) hi, h4⟩
theorem heldKnownS_ok (l : List S88) (c : Int) (hl : l.length ≤ 2000000) (h0 : 0 ≤ c) (h1 : c + 2 * l.length ≤ 100000000000000) (hG : ∀ i, i < l.length → l[i]? = some (mkKnown (c + 2 * (i : Int)))) :
    ∀ k, l.length + 20 < k → laws_heldKnownS.f k l c = some (c + 2 * l.length) := by
  exact held_loop (F := fun k l c j => laws_heldKnownS.l0 k l c j) (G := mkKnown) (w := 2) (fun k c j hj hl hk h0 h1 hP => by
      have hr : rd_T88 l (j : Int) = mkKnown c := by unfold rd_T88; rw [getD_at _ hj]; exact hP
      simp (disch := omega) only [laws_heldKnownS.l0, hr, mkKnown, ip, Option.bind_some, w64, if_true, bne_self_eq_false, Bool.false_eq_true, if_false]
      congr 1 <;> omega) (fun k c => by simp only [laws_heldKnownS.l0]; rw [if_neg (by omega)]) hl l.length 0 c (by omega) (by omega) h0 h1 (fun i _ hi => by simpa using hG i hi)
theorem markheldKnown (l : List S88) (hl : l.length ≤ 2000000) (c : Int) (h0 : 0 ≤ c) (h1 : c ≤ 10000000000000) : ∃ (m : Int) (l' : List S88), 0 ≤ m ∧ m ≤ c + 2 * l.length ∧ Ev (fun k => laws_markKnownS.f k l c) (m, l') ∧ Ev (fun k => laws_heldKnownS.f k l' c) m := by
  obtain ⟨l', hl', h2, h3⟩ := markKnownS_ok l c hl h0 (by omega)
  refine ⟨c + 2 * l.length, l', by omega, by omega, ⟨l.length + 21, fun k hk => h3 k (by omega)⟩, ⟨l.length + 21, fun k hk => ?_⟩⟩
  have := heldKnownS_ok l' c (by omega) h0 (by omega) (fun i hi => h2 i (by omega)) k (by omega)
  rw [hl'] at this
  exact this
theorem eqKnownS_ok (l : List S88) (hl : l.length ≤ 2000000) : ∀ k, l.length < k → laws_eqKnownS.f k l l = some true := by
  intro k hk
  unfold laws_eqKnownS.f
  rw [if_pos rfl]
  refine up_loop (F := fun k j => laws_eqKnownS.l0 k l l j) (n := l.length) ?_ ?_ l.length 0 (by omega) (by omega) k hk
  · intro k j hj
    simp (disch := omega) only [laws_eqKnownS.l0, laws_eqKnown.f, ip, w64, Option.bind_some, if_true, bne_self_eq_false, Bool.false_eq_true, if_false]
    rfl
  · intro k
    simp only [laws_eqKnownS.l0]
    rw [if_neg (by omega)]

/-! ### FnExactLearn -/
theorem FnExactLearn : StFnExactLearn.Pure := by
  intro l a c hl _ _
  obtain ⟨t, ht, hq⟩ := szKnowns_eq l hl.1
  by_cases hn : t < 0
  · refine ⟨0, ?_⟩
    unfold laws_FnExactLearn.f
    rw [ht]
    simp only [Option.bind_some]
    rw [if_pos hn]
  · have ll := hq.resolve_left hn
    have lm : (l.map conK).length = l.length := List.length_map _
    obtain ⟨r, lr, hr⟩ := learn_both (l.map conK) a c (by omega)
    obtain ⟨m0, l0', g0, _, m0e, _⟩ := markheldKnown (l.map conK) (by omega) 1 (by omega) (by omega)
    obtain ⟨m1, l1', g1, _, m1e, h1e⟩ := markheldKnown r (by omega) 1 (by omega) (by omega)
    obtain ⟨K2, hK2⟩ := Ev.both m1e h1e
    obtain ⟨K3, hK30⟩ := m0e
    have hK3 : ∀ k, K3 ≤ k → laws_markKnownS.f k (l.map conK) 1 = some (m0, l0') := hK30
    have hto := toKnowns_ok l ll
    refine ⟨K2 + K3 + 4 * l.length + 30, ?_⟩
    unfold laws_FnExactLearn.f
    rw [ht]
    simp only [Option.bind_some]
    rw [if_neg hn, hto _ (by omega)]
    simp only [Option.bind_some]
    rw [(hr _ (by omega)).1]
    simp only [Option.bind_some]
    rw [(hr _ (by omega)).2]
    simp only [Option.bind_some]
    rw [eqKnowns_ok r (by omega) _ (by omega)]
    simp only [Option.bind_some, if_true]
    rw [eqKnowns_ok (l.map conK) (by omega) _ (by omega)]
    simp only [Option.bind_some, if_true]
    rw [hK3 _ (by omega)]
    simp only [Option.bind_some]
    rw [if_neg (by omega)]
    simp only [Option.bind_some, Bool.not_true, laws_FnExactLearn.j0, Bool.false_eq_true, if_false]
    rw [(hK2 _ (by omega)).1]
    simp only [Option.bind_some]
    rw [(hK2 _ (by omega)).2]
    simp only [Option.bind_some, if_true]
    rw [if_neg (by omega), hto _ (by omega)]
    simp only [Option.bind_some]
    rw [(hr _ (by omega)).2]
    simp only [Option.bind_some]
    rw [eqKnowns_ok r (by omega) _ (by omega)]
    simp only [Option.bind_some, if_true]
    rw [if_neg (by omega)]

end Go.Proofs.Ytideegpoakkgeaa.Pure
