/- The pure statement of the law 'FnKnown', proved: over numbers, lists and texts alone. No condition. -/
import Derived.Test.YtgninkpoembamaaStFnKnown
import Derived.Laws.BitsLemmas
namespace Go.Proofs.Ytgninkpoembamaa.Pure
open Go.RowKit Go.Proofs.Ytgninkpoembamaa.PFnKnown Go.Proofs.YtgninkpoembamaaW.PrintWords Go.Proofs.YtgninkpoembamaaW.PrintLast Go.Proofs.YtgninkpoembamaaW.PrintMore Go.Proofs.Ytgninkpoembamaa.StFnKnown Go.Proofs.Ytgninkpoembamaa.Opens
set_option linter.unusedVariables false
set_option linter.unusedSimpArgs false

/-! ### base -/
theorem w64 {x : Int} (h0 : -9223372036854775808 ≤ x) (h1 : x ≤ 9223372036854775807) : wrap64 x = x := by unfold wrap64; omega
theorem w64_range (x : Int) : -9223372036854775808 ≤ wrap64 x ∧ wrap64 x ≤ 9223372036854775807 := by unfold wrap64; omega
theorem ip {α : Type} {c : Prop} [Decidable c] {a b : α} (h : c) : (if c then a else b) = a := if_pos h
theorem ineg {α : Type} {c : Prop} [Decidable c] {a b : α} (h : ¬ c) : (if c then a else b) = b := if_neg h
theorem wf_range {n : Int} (h : (Lit.int .i64 n).wf = true) : -9223372036854775808 ≤ n ∧ n ≤ 9223372036854775807 := by
  simp only [Lit.wf, IntKind.min, IntKind.max, IntKind.signed, IntKind.bits, Bool.and_eq_true, decide_eq_true_eq, if_true] at h
  omega
theorem wf_u8 {n : Int} (h : (Lit.int .u8 n).wf = true) : 0 ≤ n ∧ n ≤ 255 := by
  simp [Lit.wf, IntKind.min, IntKind.max, IntKind.signed, IntKind.bits] at h
  omega
theorem and_low (x : Int) (i : Nat) (hi : i ≤ 62) : Go.bits .and .i64 x (2 ^ i - 1) = x % 2 ^ i := by
  have hpos : 0 < 2 ^ i := Nat.two_pow_pos i
  have hc : ((2 : Int) ^ i - 1) = ((2 ^ i - 1 : Nat) : Int) := by rw [Int.natCast_sub hpos]; simp
  have h62 : 2 ^ i ≤ 2 ^ 62 := Nat.pow_le_pow_right (by decide) hi
  have hlt : 2 ^ i - 1 < 2 ^ 64 := by omega
  have hd : (2 ^ i : Nat) ∣ 2 ^ 64 := Nat.pow_dvd_pow 2 (by omega)
  rw [hc]
  simp only [Go.bits, BitVec.ofInt_natCast, BitVec.toNat_and, BitVec.toNat_ofNat, BitVec.toNat_ofInt]
  simp only [show IntKind.i64.bits = 64 from rfl]
  rw [Nat.mod_eq_of_lt hlt, Nat.and_two_pow_sub_one_eq_mod]
  have h1 : (((x % ((2 ^ 64 : Nat) : Int)).toNat % 2 ^ i : Nat) : Int) = x % 2 ^ i := by
    rw [Int.natCast_emod, Int.toNat_of_nonneg (Int.emod_nonneg _ (by decide))]
    rw [Int.natCast_pow]
    exact Int.emod_emod_of_dvd _ (by
      have : (((2 ^ i : Nat) : Int)) ∣ ((2 ^ 64 : Nat) : Int) := Int.natCast_dvd_natCast.2 hd
      simpa using this)
  rw [h1]
  have h2 : 0 ≤ x % 2 ^ i := Int.emod_nonneg _ (by
    have : (0 : Int) < 2 ^ i := by exact_mod_cast hpos
    omega)
  have h3 : x % 2 ^ i < 2 ^ i := Int.emod_lt_of_pos _ (by exact_mod_cast hpos)
  have h4 : (2 : Int) ^ i ≤ 2 ^ 62 := by exact_mod_cast h62
  rw [IntKind.wrap_i64]
  omega
theorem and255 (x : Int) : Go.bits .and .i64 x 255 = x % 256 := and_low x 8 (by omega)
theorem and65535 (x : Int) : Go.bits .and .i64 x 65535 = x % 65536 := and_low x 16 (by omega)
theorem and30 (x : Int) : Go.bits .and .i64 x 1073741823 = x % 1073741824 := and_low x 30 (by omega)
theorem and1 (x : Int) : Go.bits .and .i64 x 1 = x % 2 := and_low x 1 (by omega)
/-- A law's last step: both are one. -/
theorem same_end {v : Bool} : (if (v != v) = true then some false else some true : Option Bool) = some true := by simp
theorem Ev.ex {α : Type} {g : Nat → Option α} {r : α} (h : Ev g r) : ∃ k, g k = some r := h.rounds
theorem Ev.from_ {α : Type} {g : Nat → Option α} {r : α} (K : Nat) (h : ∀ k, K ≤ k → g k = some r) : Ev g r := ⟨K, h⟩
theorem Ev.both {α β : Type} {g : Nat → Option α} {f : Nat → Option β} {r : α} {q : β} (h : Ev g r) (h' : Ev f q) : ∃ K, ∀ k, K ≤ k → g k = some r ∧ f k = some q := by
  obtain ⟨K, h⟩ := h
  obtain ⟨K', h'⟩ := h'
  exact ⟨K + K', fun k hk => ⟨h k (by omega), h' k (by omega)⟩⟩

/-! ### in -/
def rng (a b c : Int) : Bool := decide (b ≤ a) && decide (a ≤ c)
theorem rng_iff {a b c : Int} : rng a b c = true ↔ b ≤ a ∧ a ≤ c := by simp [rng]
theorem rng_false {a b c : Int} : rng a b c = false ↔ ¬ (b ≤ a ∧ a ≤ c) := by rw [← rng_iff]; simp
theorem within_eq (a b c : Int) : impl_within.f a b c = some (rng a b c) := by
  unfold impl_within.f rng
  by_cases h : b ≤ a
  · rw [if_pos h]; simp [h]
  · rw [if_neg h]; simp [h]

/-! ### learn -/
def learnM (l : List S70) (a c : Int) : List S70 :=
  let o := l.filter (fun x : S70 => !decide (x.f0 = a)) ++ [(⟨a, c⟩ : S70)]
  o.drop (o.length - 4)
theorem learn_loop (l : List S70) (a c : Int) (hl : l.length ≤ 2000000) : ∀ (d j : Nat) (acc : List S70), l.length - j = d → j ≤ l.length → acc.length ≤ j →
    ∀ k, d < k → impl_Learn.l0 k a c acc l (l.length : Int) (j : Int) = some ((acc ++ (l.drop j).filter (fun x : S70 => !decide (x.f0 = a)) ++ [(⟨a, c⟩ : S70)]).drop ((acc ++ (l.drop j).filter (fun x : S70 => !decide (x.f0 = a)) ++ [(⟨a, c⟩ : S70)]).length - 4)) := by
  intro d
  induction d with
  | zero =>
    intro j acc hd hj ha k hk
    obtain ⟨k, rfl⟩ : ∃ m, k = m + 1 := ⟨k - 1, by omega⟩
    have hjl : j = l.length := by omega
    subst hjl
    simp only [impl_Learn.l0]
    rw [if_neg (by omega), if_pos (by omega)]
    simp only [Option.bind_some, List.drop_length, List.filter_nil, List.append_nil]
    have hlen : (((acc ++ [(⟨a, c⟩ : S70)]).length : Nat) : Int) = (acc.length : Int) + 1 := by simp
    have hw : wrap64 ((((acc ++ [(⟨a, c⟩ : S70)]).length : Nat) : Int) - 4) = (acc.length : Int) - 3 := by
      rw [hlen, w64 (by omega) (by omega)]; omega
    rw [hw]
    have hmx : mx 0 ((acc.length : Int) - 3) = (((acc ++ [(⟨a, c⟩ : S70)]).length - 4 : Nat) : Int) := by
      unfold mx
      simp only [List.length_append, List.length_singleton]
      split <;> omega
    rw [hmx, if_pos (by omega), if_pos (by omega)]
    simp
  | succ d ih =>
    intro j acc hd hj ha k hk
    obtain ⟨k, rfl⟩ : ∃ m, k = m + 1 := ⟨k - 1, by omega⟩
    have hjl : j < l.length := by omega
    have hget : rd_T70 l (j : Int) = l[j] := by
      unfold rd_T70
      simp [List.getD_eq_getElem?_getD, List.getElem?_eq_getElem hjl]
    have hdrop : l.drop j = l[j] :: l.drop (j + 1) := List.drop_eq_getElem_cons hjl
    simp only [impl_Learn.l0]
    rw [if_pos (by omega), if_pos (by omega), if_pos (by omega), hget, w64 (x := (j : Int) + 1) (by omega) (by omega)]
    by_cases h : l[j].f0 = a
    · rw [if_pos h, hdrop, List.filter_cons_of_neg (by simp [h])]
      exact ih (j + 1) acc (by omega) (by omega) (by omega) k (by omega)
    · rw [if_neg h, if_pos (by omega), hdrop, List.filter_cons_of_pos (by simp [h])]
      have := ih (j + 1) (acc ++ [⟨l[j].f0, l[j].f1⟩]) (by omega) (by omega) (by rw [List.length_append, List.length_singleton]; omega) k (by omega)
      rw [List.append_assoc acc] at this
      exact this
theorem learn_good (l : List S70) (a c : Int) (hl : l.length ≤ 2000000) (ha : rng a 1 99 = true) (hc : rng c 1 99 = true) : ∀ k, l.length + 1 < k → impl_Learn.f k l a c = some (learnM l a c) := by
  intro k hk
  obtain ⟨k, rfl⟩ : ∃ m, k = m + 1 := ⟨k - 1, by omega⟩
  unfold impl_Learn.f impl_isAddr.f
  simp only [within_eq, Option.bind_some, ha, hc, if_true, Bool.not_true, impl_Learn.j0]
  rw [if_neg (by simp)]
  exact learn_loop l a c hl l.length 0 [] (by omega) (by omega) (by simp) k (by omega)
theorem learn_bad (l : List S70) (a c : Int) (hl : l.length ≤ 2000000) (h : (rng a 1 99 && rng c 1 99) = false) : ∀ k, 0 < k → impl_Learn.f k l a c = some l := by
  intro k hk
  obtain ⟨k, rfl⟩ : ∃ m, k = m + 1 := ⟨k - 1, by omega⟩
  unfold impl_Learn.f impl_isAddr.f
  simp only [within_eq, Option.bind_some, impl_Learn.j0]
  have hlen : ([] : List S70).length + l.length < 8796093022208 := by simp; omega
  cases ha : rng a 1 99 <;> cases hc : rng c 1 99 <;> simp_all

/-! ### cardof -/
def cardM (l : List S70) (a : Int) : Int := ((l.find? (fun x => decide (x.f0 = a))).map (·.f1)).getD 0
theorem card_loop (l : List S70) (a : Int) (hl : l.length ≤ 2000000) : ∀ (d j : Nat), l.length - j = d → j ≤ l.length → ∀ k, d < k → impl_CardOf.l0 k a l (l.length : Int) (j : Int) = some (cardM (l.drop j) a) := by
  intro d
  induction d with
  | zero =>
    intro j hd hj k hk
    obtain ⟨k, rfl⟩ : ∃ m, k = m + 1 := ⟨k - 1, by omega⟩
    simp only [impl_CardOf.l0]
    rw [if_neg (by omega), List.drop_of_length_le (by omega)]
    rfl
  | succ d ih =>
    intro j hd hj k hk
    obtain ⟨k, rfl⟩ : ∃ m, k = m + 1 := ⟨k - 1, by omega⟩
    have hjl : j < l.length := by omega
    have hget : rd_T70 l (j : Int) = l[j] := by
      unfold rd_T70
      simp [List.getD_eq_getElem?_getD, List.getElem?_eq_getElem hjl]
    have hdrop : l.drop j = l[j] :: l.drop (j + 1) := List.drop_eq_getElem_cons hjl
    simp only [impl_CardOf.l0]
    rw [if_pos (by omega), if_pos (by omega), if_pos (by omega), hget, w64 (x := (j : Int) + 1) (by omega) (by omega), hdrop]
    by_cases h : l[j].f0 = a
    · rw [if_pos h]
      simp only [cardM, List.find?_cons, h, decide_true, Option.map_some, Option.getD_some]
    · rw [if_neg h]
      have := ih (j + 1) (by omega) (by omega) k (by omega)
      rw [show ((j : Int) + 1) = ((j + 1 : Nat) : Int) by omega, this]
      simp only [cardM, List.find?_cons, h, decide_false]
theorem card_ok (l : List S70) (a : Int) (hl : l.length ≤ 2000000) : ∀ k, l.length < k → impl_CardOf.f k l a = some (cardM l a) := fun k hk =>
  card_loop l a hl l.length 0 (by omega) (by omega) k hk

/-! ### draw -/
def Cur (b : List Int) (i : Int) : Prop := 0 ≤ i ∧ i ≤ (b.length : Int)
theorem new_loop (b : List Int) : ∀ (d : Nat) (i x : Int), 0 ≤ i → i ≤ 4000 → 4000 - i ≤ d → ∃ h, ∀ k, d < k → spec_l01New.l0 k b x i = some (b, 0, h) := by
  intro d
  induction d with
  | zero =>
    intro i x h0 h1 hd
    refine ⟨x, fun k hk => ?_⟩
    obtain ⟨k, rfl⟩ : ∃ m, k = m + 1 := ⟨k - 1, by omega⟩
    simp only [spec_l01New.l0]
    by_cases hl : i < (b.length : Int)
    · rw [if_pos hl, if_neg (by omega)]
    · rw [if_neg hl]
  | succ d ih =>
    intro i x h0 h1 hd
    by_cases hl : i < (b.length : Int) ∧ i < 4000
    · obtain ⟨h, ih⟩ := ih (i + 1) (Go.bits .and .i64 (wrap64 ((wrap64 ((wrap64 (x * 131)) + (wrap64 (rd b i)))) + 7)) 1073741823) (by omega) (by omega) (by omega)
      refine ⟨h, fun k hk => ?_⟩
      obtain ⟨k, rfl⟩ : ∃ m, k = m + 1 := ⟨k - 1, by omega⟩
      simp only [spec_l01New.l0]
      rw [if_pos hl.1, if_pos hl.2, if_pos h0, w64 (x := i + 1) (by omega) (by omega)]
      exact ih k (by omega)
    · refine ⟨x, fun k hk => ?_⟩
      obtain ⟨k, rfl⟩ : ∃ m, k = m + 1 := ⟨k - 1, by omega⟩
      simp only [spec_l01New.l0]
      by_cases hl2 : i < (b.length : Int)
      · rw [if_pos hl2, if_neg (by omega)]
      · rw [if_neg hl2]
theorem new_ok (b : List Int) : ∃ h, Ev (fun k => spec_l01New.f k b) (b, 0, h) := by
  obtain ⟨h, hk⟩ := new_loop b 4000 0 (wrap64 (37401 + (b.length : Int))) (by omega) (by omega) (by omega)
  exact ⟨h, 4001, fun k h1 => hk k (by omega)⟩
theorem cur_zero (b : List Int) : Cur b 0 := ⟨by omega, by omega⟩
theorem byte_ok {b : List Int} {i : Int} (h : Int) (hb : b.length ≤ 1048576) (hi : Cur b i) : ∃ v i' h', spec_l01Byte.f b i h = some (v, i', h') ∧ (0 ≤ v ∧ v ≤ 255) ∧ Cur b i' := by
  obtain ⟨h0, h1⟩ := hi
  unfold spec_l01Byte.f
  by_cases hl : i < (b.length : Int)
  · rw [if_pos hl, if_pos h0]
    refine ⟨_, _, _, rfl, ?_, ?_⟩
    · rw [and255]; omega
    · rw [w64 (by omega) (by omega)]; exact ⟨by omega, by omega⟩
  · rw [if_neg hl]
    refine ⟨_, _, _, rfl, ?_, h0, h1⟩
    rw [and255]; omega
theorem tmod_below {x n : Int} (hx : 0 ≤ x) (hn : 0 < n) : 0 ≤ Int.tmod x n ∧ Int.tmod x n < n := by
  rw [Int.tmod_eq_emod_of_nonneg hx]
  exact ⟨Int.emod_nonneg _ (by omega), Int.emod_lt_of_pos _ hn⟩
theorem below_ok {b : List Int} {i : Int} (h n : Int) (hb : b.length ≤ 1048576) (hi : Cur b i) : ∃ v i' h', spec_l01Below.f b i h n = some (v, i', h') ∧ (0 ≤ v ∧ (0 < n → v < n) ∧ (n ≤ 0 → v = 0)) ∧ Cur b i' := by
  unfold spec_l01Below.f
  by_cases hn : n ≤ 0
  · rw [if_pos hn]
    exact ⟨0, i, h, rfl, ⟨by omega, fun h => by omega, fun _ => rfl⟩, hi⟩
  · rw [if_neg hn]
    by_cases hs : n ≤ 256
    · rw [if_pos hs]
      obtain ⟨v, i', h', e, hv, hi'⟩ := byte_ok h hb hi
      rw [e]
      simp only [Option.bind_some]
      rw [if_neg (by omega)]
      have := tmod_below hv.1 (show 0 < n by omega)
      exact ⟨_, _, _, rfl, ⟨this.1, fun _ => this.2, fun h => absurd h hn⟩, hi'⟩
    · rw [if_neg hs]
      obtain ⟨v1, i1, h1, e1, hv1, hi1⟩ := byte_ok h hb hi
      rw [e1]
      simp only [Option.bind_some]
      obtain ⟨v2, i2, h2, e2, hv2, hi2⟩ := byte_ok h1 hb hi1
      rw [e2]
      simp only [Option.bind_some]
      obtain ⟨v3, i3, h3, e3, hv3, hi3⟩ := byte_ok h2 hb hi2
      rw [e3]
      simp only [Option.bind_some]
      obtain ⟨v4, i4, h4, e4, hv4, hi4⟩ := byte_ok h3 hb hi3
      rw [e4]
      simp only [Option.bind_some]
      rw [if_neg (by omega)]
      rw [w64 (x := v1 * 16777216) (by omega) (by omega), w64 (x := v2 * 65536) (by omega) (by omega), w64 (x := v3 * 256) (by omega) (by omega), w64 (x := v1 * 16777216 + v2 * 65536) (by omega) (by omega),
        w64 (x := v1 * 16777216 + v2 * 65536 + v3 * 256) (by omega) (by omega), w64 (x := v1 * 16777216 + v2 * 65536 + v3 * 256 + v4) (by omega) (by omega)]
      have := tmod_below (show 0 ≤ v1 * 16777216 + v2 * 65536 + v3 * 256 + v4 by omega) (show 0 < n by omega)
      exact ⟨_, _, _, rfl, ⟨this.1, fun _ => this.2, fun h => absurd h hn⟩, hi4⟩
theorem big_eq (b : List Int) : laws_big.f b = some (decide ((b.length : Int) > 1048576)) := rfl

/-! ### places -/
theorem places_loop {b : List Int} (hb : b.length ≤ 1048576) : ∀ (d : Nat) (acc : List Int) (j : Int) (i h : Int), Cur b i → (acc.length : Int) = j → 12 - j = d → (∀ x ∈ acc, 0 ≤ x ∧ x < 10000) →
    ∃ p, p.length = 12 ∧ (∀ x ∈ p, 0 ≤ x ∧ x < 10000) ∧ ∀ k, d < k → spec_DrawPlaces.l0 k acc j b i h = some p := by
  intro d
  induction d with
  | zero =>
    intro acc j i h hi hl hd ha
    refine ⟨acc, by omega, ha, fun k hk => ?_⟩
    obtain ⟨k, rfl⟩ : ∃ m, k = m + 1 := ⟨k - 1, by omega⟩
    simp only [spec_DrawPlaces.l0]
    rw [if_neg (by omega)]
  | succ d ih =>
    intro acc j i h hi hl hd ha
    obtain ⟨v, i', h', e, hv, hi'⟩ := below_ok h 10000 hb hi
    obtain ⟨p, hp, hp2, hk2⟩ := ih (acc ++ [v]) (j + 1) i' h' hi' (by rw [List.length_append, List.length_singleton]; omega) (by omega) (by
      intro x hx
      rcases List.mem_append.1 hx with hx | hx
      · exact ha x hx
      · rw [List.mem_singleton.1 hx]; exact ⟨hv.1, hv.2.1 (by omega)⟩)
    refine ⟨p, hp, hp2, fun k hk => ?_⟩
    obtain ⟨k, rfl⟩ : ∃ m, k = m + 1 := ⟨k - 1, by omega⟩
    simp only [spec_DrawPlaces.l0]
    rw [if_pos (by omega), e]
    simp only [Option.bind_some]
    rw [if_pos (by omega), w64 (x := j + 1) (by omega) (by omega)]
    exact hk2 k (by omega)
theorem places_ok {b : List Int} (hb : b.length ≤ 1048576) : ∃ p, p.length = 12 ∧ (∀ x ∈ p, 0 ≤ x ∧ x < 10000) ∧ Ev (fun k => spec_DrawPlaces.f k b) p := by
  obtain ⟨h, hn⟩ := new_ok b
  obtain ⟨v, i', h', e, _, hi'⟩ := byte_ok h hb (cur_zero b)
  obtain ⟨p, hp, hp2, hk⟩ := places_loop hb 12 [] 0 i' h' hi' rfl rfl (fun x hx => by cases hx)
  refine ⟨p, hp, hp2, Ev.bind hn ?_⟩
  refine ⟨13, fun k h1 => ?_⟩
  show (spec_l01Byte.f b 0 h).bind _ = _
  rw [e]
  exact hk k (by omega)
theorem rd_range {p : List Int} {a c : Int} (hp : ∀ x ∈ p, a ≤ x ∧ x < c) {j : Int} (h0 : 0 ≤ j) (h1 : j < (p.length : Int)) : a ≤ rd p j ∧ rd p j < c := by
  refine hp _ ?_
  unfold rd
  rw [List.getD_eq_getElem?_getD, List.getElem?_eq_getElem (by omega), Option.getD_some]
  exact List.getElem_mem _

/-! ### FnKnown -/
def Good (p : List Int) (L : List S70) : Prop := L.length ≤ 4 ∧ (∀ x ∈ L, 1 ≤ x.f0 ∧ x.f0 ≤ 7) ∧ (L.map (·.f0)).Nodup
theorem good_learn {p : List Int} {L : List S70} {a c : Int} (h : Good p L) (ha : 1 ≤ a ∧ a ≤ 7) : Good p (learnM L a c) ∧ 0 < (learnM L a c).length ∧ cardM (learnM L a c) a = c := by
  obtain ⟨h1, h2, h3⟩ := h
  have hf : (L.filter (fun x => !decide (x.f0 = a))).length ≤ L.length := List.length_filter_le _ _
  have hlast : learnM L a c = (L.filter (fun x => !decide (x.f0 = a))).drop ((L.filter (fun x => !decide (x.f0 = a))).length - 3) ++ [⟨a, c⟩] := by
    unfold learnM
    simp only [List.length_append, List.length_singleton]
    rw [List.drop_append_of_le_length (by omega)]
    congr 2
  have hsub : ((L.filter (fun x => !decide (x.f0 = a))).drop ((L.filter (fun x => !decide (x.f0 = a))).length - 3)).Sublist L := (List.drop_sublist _ _).trans List.filter_sublist
  have hne : ∀ x ∈ (L.filter (fun x => !decide (x.f0 = a))).drop ((L.filter (fun x => !decide (x.f0 = a))).length - 3), x.f0 ≠ a := by
    intro x hx
    have := (List.mem_filter.1 ((List.drop_sublist _ _).subset hx)).2
    simpa using this
  rw [hlast]
  refine ⟨⟨?_, ?_, ?_⟩, ?_, ?_⟩
  · rw [List.length_append, List.length_drop, List.length_singleton]; omega
  · intro x hx
    rcases List.mem_append.1 hx with hx | hx
    · exact h2 x (hsub.subset hx)
    · rw [List.mem_singleton.1 hx]; exact ha
  · rw [List.map_append, List.nodup_append]
    refine ⟨h3.sublist (hsub.map _), by simp, ?_⟩
    intro x hx y hy
    obtain ⟨z, hz, rfl⟩ := List.mem_map.1 hx
    have : y = a := by simpa using hy
    rw [this]
    exact hne z hz
  · simp
  · unfold cardM
    rw [List.find?_append, List.find?_eq_none.2 (by intro x hx; simp [hne x hx])]
    simp
theorem l2_ok (p : List Int) (L : List S70) (i : Int) (hn : (L.map (·.f0)).Nodup) (hL : L.length ≤ 4) (a : Nat) (ha : a < L.length) (hr : Ev (fun k => laws_FnKnown.l1 k p L i ((a + 1 : Nat) : Int)) true) :
    ∀ (d j : Nat), a - j = d → j ≤ a → Ev (fun k => laws_FnKnown.l2 k p L i (a : Int) (j : Int)) true := by
  intro d
  induction d with
  | zero =>
    intro j hd hj
    refine Ev.step (fun k => ?_) hr
    simp only [laws_FnKnown.l2]
    rw [if_neg (by omega), w64 (by omega) (by omega)]
    rfl
  | succ d ih =>
    intro j hd hj
    refine Ev.step (fun k => ?_) (ih (j + 1) (by omega) (by omega))
    have e1 : rd_T70 L (j : Int) = L[j] := by unfold rd_T70; simp [List.getD_eq_getElem?_getD, List.getElem?_eq_getElem (show j < L.length by omega)]
    have e2 : rd_T70 L (a : Int) = L[a] := by unfold rd_T70; simp [List.getD_eq_getElem?_getD, List.getElem?_eq_getElem ha]
    have hne : ¬ L[j].f0 = L[a].f0 := by
      have := List.pairwise_iff_getElem.1 hn j a (by simp; omega) (by simp; omega) (by omega)
      simpa using this
    simp only [laws_FnKnown.l2]
    rw [if_pos (by omega), if_pos (by omega), if_pos (by omega), if_pos (by omega), if_pos (by omega), e1, e2, if_neg hne, w64 (by omega) (by omega)]
    rfl
theorem l1_ok (p : List Int) (L : List S70) (i : Int) (hn : (L.map (·.f0)).Nodup) (hL : L.length ≤ 4) (hr : Ev (fun k => laws_FnKnown.l0 k p L (wrap64 (i + 1))) true) :
    ∀ (d a : Nat), L.length - a = d → a ≤ L.length → Ev (fun k => laws_FnKnown.l1 k p L i (a : Int)) true := by
  intro d
  induction d with
  | zero =>
    intro a hd ha
    refine Ev.step (fun k => ?_) hr
    simp only [laws_FnKnown.l1]
    rw [if_neg (by omega)]
  | succ d ih =>
    intro a hd ha
    refine Ev.step (fun k => ?_) (l2_ok p L i hn hL a (by omega) (ih (a + 1) (by omega) (by omega)) a 0 (by omega) (by omega))
    simp only [laws_FnKnown.l1]
    rw [if_pos (by omega)]
    rfl
theorem l0_ok (p : List Int) (hp : p.length = 12) (hp2 : ∀ x ∈ p, 0 ≤ x ∧ x < 10000) : ∀ (d i : Nat) (L : List S70), 9 - i = d → i ≤ 9 → Good p L → (0 < i → 0 < L.length) → Ev (fun k => laws_FnKnown.l0 k p L (i : Int)) true := by
  intro d
  induction d with
  | zero =>
    intro i L hd hi hG hpos
    have h1 : Ev (fun k => impl_Learn.f k L 0 5) L := ⟨1, fun k hk => learn_bad L 0 5 (by have := hG.1; omega) (by decide) k (by omega)⟩
    have h2 : Ev (fun k => impl_CardOf.f k L 99) (cardM L 99) := ⟨L.length + 1, fun k hk => card_ok L 99 (by have := hG.1; omega) k (by omega)⟩
    have h3 : cardM L 99 = 0 := by
      unfold cardM
      rw [List.find?_eq_none.2 (by intro x hx; have := hG.2.1 x hx; simp; omega)]
      rfl
    have hlen := hpos (by omega)
    refine Ev.step (f := fun k => (impl_Learn.f k L 0 5).bind fun t168 => ((impl_CardOf.f k L 99).bind fun t171 => (if t171 = 0 then (if (t168.length : Int) = (L.length : Int) then (some (decide ((L.length : Int) > 0))) else (some false)) else (some false)))) (fun k => ?_) ?_
    · simp only [laws_FnKnown.l0]
      rw [if_neg (by omega)]
    · refine Ev.bind h1 (Ev.bind h2 ?_)
      rw [h3]
      refine ⟨0, fun k _ => ?_⟩
      simp only [if_true]
      simp; omega
  | succ d ih =>
    intro i L hd hi hG hpos
    have hr := rd_range hp2 (j := (i : Int)) (by omega) (by omega)
    have ea : wrap64 (1 + Int.tmod (rd p (i : Int)) 7) = 1 + (rd p (i : Int)) % 7 := by rw [Int.tmod_eq_emod_of_nonneg hr.1, w64 (by omega) (by omega)]
    have ec : wrap64 (1 + Int.tmod (rd p (i : Int)) 50) = 1 + (rd p (i : Int)) % 50 := by rw [Int.tmod_eq_emod_of_nonneg hr.1, w64 (by omega) (by omega)]
    obtain ⟨g1, g2, g3⟩ := good_learn (c := 1 + (rd p (i : Int)) % 50) (a := 1 + (rd p (i : Int)) % 7) hG (by omega)
    have h1 : Ev (fun k => impl_Learn.f k L (1 + (rd p (i : Int)) % 7) (1 + (rd p (i : Int)) % 50)) (learnM L (1 + (rd p (i : Int)) % 7) (1 + (rd p (i : Int)) % 50)) :=
      ⟨L.length + 2, fun k hk => learn_good L _ _ (by have := hG.1; omega) (by rw [rng_iff]; omega) (by rw [rng_iff]; omega) k (by omega)⟩
    have hnext := ih (i + 1) (learnM L (1 + (rd p (i : Int)) % 7) (1 + (rd p (i : Int)) % 50)) (by omega) (by omega) g1 (fun _ => g2)
    generalize learnM L (1 + (rd p (i : Int)) % 7) (1 + (rd p (i : Int)) % 50) = t at *
    have h2 : Ev (fun k => impl_CardOf.f k t (1 + (rd p (i : Int)) % 7)) (1 + (rd p (i : Int)) % 50) := ⟨t.length + 1, fun k hk => by show impl_CardOf.f k t _ = _; rw [card_ok t _ (by have := g1.1; omega) k (by omega), g3]⟩
    have hl1 := l1_ok p t (i : Int) g1.2.2 g1.1 (by rw [w64 (by omega) (by omega)]; exact hnext) t.length 0 (by omega) (by omega)
    have hj1 : Ev (fun k => laws_FnKnown.j1 k p t (i : Int) false) true := by
      refine Ev.step (fun k => ?_) hl1
      simp only [laws_FnKnown.j1]
      rw [if_neg (by simp)]
      rfl
    refine Ev.step (f := fun k => (impl_Learn.f k L (1 + (rd p (i : Int)) % 7) (1 + (rd p (i : Int)) % 50)).bind fun t174 => (if (t174.length : Int) > 4 then (laws_FnKnown.j1 k p t174 (i : Int) true) else ((impl_CardOf.f k t174 (1 + (rd p (i : Int)) % 7)).bind fun t178 => (laws_FnKnown.j1 k p t174 (i : Int) (t178 != (1 + (rd p (i : Int)) % 50)))))) (fun k => ?_) ?_
    · simp only [laws_FnKnown.l0]
      rw [if_pos (by omega), if_pos (by omega), if_pos (by omega), ea, ec]
    · refine Ev.bind h1 ?_
      have hng : ¬ (t.length : Int) > 4 := by have := g1.1; omega
      simp only [if_neg hng]
      refine Ev.bind h2 ?_
      simp only [bne_self_eq_false]
      exact hj1
theorem FnKnown_main (b : List Int) : ∃ k, laws_FnKnown.f k b = some true := by
  unfold laws_FnKnown.f
  simp only [big_eq, Option.bind_some]
  by_cases hb : (b.length : Int) > 1048576
  · exact ⟨0, by rw [if_pos (by simpa using hb)]⟩
  · obtain ⟨p, hp, hp2, he⟩ := places_ok (b := b) (by omega)
    have := l0_ok p hp hp2 9 0 [] (by omega) (by omega) ⟨by simp, fun x hx => (by cases hx), by simp⟩ (fun h => absurd h (by omega))
    obtain ⟨k, hk⟩ := (Ev.bind (f := fun k t162 => laws_FnKnown.l0 k t162 [] 0) he this).rounds
    exact ⟨k, by rw [if_neg (by simpa using hb)]; exact hk⟩
theorem FnKnown : StFnKnown.Pure := by
  intro b
  intros
  exact FnKnown_main b

end Go.Proofs.Ytgninkpoembamaa.Pure
