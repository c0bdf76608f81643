/- The pure statement of the law 'FnGaps', proved: over numbers, lists and texts alone. No condition. -/
import Derived.Test.YtgninkpoembamaaStFnGaps
import Derived.Laws.BitsLemmas
namespace Go.Proofs.Ytgninkpoembamaa.Pure
open Go.RowKit Go.Proofs.Ytgninkpoembamaa.PFnGaps Go.Proofs.YtgninkpoembamaaW.PrintWords Go.Proofs.YtgninkpoembamaaW.PrintLast Go.Proofs.YtgninkpoembamaaW.PrintMore Go.Proofs.Ytgninkpoembamaa.StFnGaps Go.Proofs.Ytgninkpoembamaa.Opens
set_option linter.unusedVariables false
set_option linter.unusedSimpArgs false

/-! ### base -/
theorem w64 {x : Int} (h0 : -9223372036854775808 ≤ x) (h1 : x ≤ 9223372036854775807) : wrap64 x = x := by unfold wrap64; omega
theorem w64_range (x : Int) : -9223372036854775808 ≤ wrap64 x ∧ wrap64 x ≤ 9223372036854775807 := by unfold wrap64; omega
theorem ip {α : Type} {c : Prop} [Decidable c] {a b : α} (h : c) : (if c then a else b) = a := if_pos h
theorem ineg {α : Type} {c : Prop} [Decidable c] {a b : α} (h : ¬ c) : (if c then a else b) = b := if_neg h
theorem wf_range {n : Int} (h : (Lit.int .i64 n).wf = true) : -9223372036854775808 ≤ n ∧ n ≤ 9223372036854775807 := by
  simp only [Lit.wf, IntKind.min, IntKind.max, IntKind.signed, IntKind.bits, Bool.and_eq_true, decide_eq_true_eq, if_true] at h
  omega
theorem wf_u8 {n : Int} (h : (Lit.int .u8 n).wf = true) : 0 ≤ n ∧ n ≤ 255 := by
  simp [Lit.wf, IntKind.min, IntKind.max, IntKind.signed, IntKind.bits] at h
  omega
theorem and_low (x : Int) (i : Nat) (hi : i ≤ 62) : Go.bits .and .i64 x (2 ^ i - 1) = x % 2 ^ i := by
  have hpos : 0 < 2 ^ i := Nat.two_pow_pos i
  have hc : ((2 : Int) ^ i - 1) = ((2 ^ i - 1 : Nat) : Int) := by rw [Int.natCast_sub hpos]; simp
  have h62 : 2 ^ i ≤ 2 ^ 62 := Nat.pow_le_pow_right (by decide) hi
  have hlt : 2 ^ i - 1 < 2 ^ 64 := by omega
  have hd : (2 ^ i : Nat) ∣ 2 ^ 64 := Nat.pow_dvd_pow 2 (by omega)
  rw [hc]
  simp only [Go.bits, BitVec.ofInt_natCast, BitVec.toNat_and, BitVec.toNat_ofNat, BitVec.toNat_ofInt]
  simp only [show IntKind.i64.bits = 64 from rfl]
  rw [Nat.mod_eq_of_lt hlt, Nat.and_two_pow_sub_one_eq_mod]
  have h1 : (((x % ((2 ^ 64 : Nat) : Int)).toNat % 2 ^ i : Nat) : Int) = x % 2 ^ i := by
    rw [Int.natCast_emod, Int.toNat_of_nonneg (Int.emod_nonneg _ (by decide))]
    rw [Int.natCast_pow]
    exact Int.emod_emod_of_dvd _ (by
      have : (((2 ^ i : Nat) : Int)) ∣ ((2 ^ 64 : Nat) : Int) := Int.natCast_dvd_natCast.2 hd
      simpa using this)
  rw [h1]
  have h2 : 0 ≤ x % 2 ^ i := Int.emod_nonneg _ (by
    have : (0 : Int) < 2 ^ i := by exact_mod_cast hpos
    omega)
  have h3 : x % 2 ^ i < 2 ^ i := Int.emod_lt_of_pos _ (by exact_mod_cast hpos)
  have h4 : (2 : Int) ^ i ≤ 2 ^ 62 := by exact_mod_cast h62
  rw [IntKind.wrap_i64]
  omega
theorem and255 (x : Int) : Go.bits .and .i64 x 255 = x % 256 := and_low x 8 (by omega)
theorem and65535 (x : Int) : Go.bits .and .i64 x 65535 = x % 65536 := and_low x 16 (by omega)
theorem and30 (x : Int) : Go.bits .and .i64 x 1073741823 = x % 1073741824 := and_low x 30 (by omega)
theorem and1 (x : Int) : Go.bits .and .i64 x 1 = x % 2 := and_low x 1 (by omega)
/-- A law's last step: both are one. -/
theorem same_end {v : Bool} : (if (v != v) = true then some false else some true : Option Bool) = some true := by simp
theorem Ev.ex {α : Type} {g : Nat → Option α} {r : α} (h : Ev g r) : ∃ k, g k = some r := h.rounds
theorem Ev.from_ {α : Type} {g : Nat → Option α} {r : α} (K : Nat) (h : ∀ k, K ≤ k → g k = some r) : Ev g r := ⟨K, h⟩
theorem Ev.both {α β : Type} {g : Nat → Option α} {f : Nat → Option β} {r : α} {q : β} (h : Ev g r) (h' : Ev f q) : ∃ K, ∀ k, K ≤ k → g k = some r ∧ f k = some q := by
  obtain ⟨K, h⟩ := h
  obtain ⟨K', h'⟩ := h'
  exact ⟨K + K', fun k hk => ⟨h k (by omega), h' k (by omega)⟩⟩

/-! ### addnum -/
theorem wrap64_emod (x : Int) : wrap64 x % 65536 = x % 65536 := by unfold wrap64; omega
theorem tmod_emod (a : Int) : Int.tmod a 65536 % 65536 = a % 65536 ∧ -65536 < Int.tmod a 65536 ∧ Int.tmod a 65536 < 65536 := by
  by_cases h : 0 ≤ a
  · rw [Int.tmod_eq_emod_of_nonneg h]; omega
  · rw [Int.tmod_eq_emod]; split <;> omega
theorem impl_AddNum_eq (a b : Int) : impl_AddNum.f a b = some ((a + b) % 65536) := by
  unfold impl_AddNum.f
  rw [and65535, wrap64_emod]
theorem spec_AddNum_eq (a b : Int) : spec_AddNum.f a b = some ((a + b) % 65536) := by
  unfold spec_AddNum.f
  obtain ⟨ha, ha1, ha2⟩ := tmod_emod a
  obtain ⟨hb, hb1, hb2⟩ := tmod_emod b
  rw [w64 (x := Int.tmod a 65536 + Int.tmod b 65536) (by omega) (by omega)]
  obtain ⟨hc, hc1, hc2⟩ := tmod_emod (Int.tmod a 65536 + Int.tmod b 65536)
  generalize Int.tmod (Int.tmod a 65536 + Int.tmod b 65536) 65536 = t at *
  generalize Int.tmod a 65536 = x at *
  generalize Int.tmod b 65536 = y at *
  split
  · rw [w64 (by omega) (by omega)]; congr 1; omega
  · congr 1; omega

/-! ### draw -/
def Cur (b : List Int) (i : Int) : Prop := 0 ≤ i ∧ i ≤ (b.length : Int)
theorem new_loop (b : List Int) : ∀ (d : Nat) (i x : Int), 0 ≤ i → i ≤ 4000 → 4000 - i ≤ d → ∃ h, ∀ k, d < k → spec_l01New.l0 k b x i = some (b, 0, h) := by
  intro d
  induction d with
  | zero =>
    intro i x h0 h1 hd
    refine ⟨x, fun k hk => ?_⟩
    obtain ⟨k, rfl⟩ : ∃ m, k = m + 1 := ⟨k - 1, by omega⟩
    simp only [spec_l01New.l0]
    by_cases hl : i < (b.length : Int)
    · rw [if_pos hl, if_neg (by omega)]
    · rw [if_neg hl]
  | succ d ih =>
    intro i x h0 h1 hd
    by_cases hl : i < (b.length : Int) ∧ i < 4000
    · obtain ⟨h, ih⟩ := ih (i + 1) (Go.bits .and .i64 (wrap64 ((wrap64 ((wrap64 (x * 131)) + (wrap64 (rd b i)))) + 7)) 1073741823) (by omega) (by omega) (by omega)
      refine ⟨h, fun k hk => ?_⟩
      obtain ⟨k, rfl⟩ : ∃ m, k = m + 1 := ⟨k - 1, by omega⟩
      simp only [spec_l01New.l0]
      rw [if_pos hl.1, if_pos hl.2, if_pos h0, w64 (x := i + 1) (by omega) (by omega)]
      exact ih k (by omega)
    · refine ⟨x, fun k hk => ?_⟩
      obtain ⟨k, rfl⟩ : ∃ m, k = m + 1 := ⟨k - 1, by omega⟩
      simp only [spec_l01New.l0]
      by_cases hl2 : i < (b.length : Int)
      · rw [if_pos hl2, if_neg (by omega)]
      · rw [if_neg hl2]
theorem new_ok (b : List Int) : ∃ h, Ev (fun k => spec_l01New.f k b) (b, 0, h) := by
  obtain ⟨h, hk⟩ := new_loop b 4000 0 (wrap64 (37401 + (b.length : Int))) (by omega) (by omega) (by omega)
  exact ⟨h, 4001, fun k h1 => hk k (by omega)⟩
theorem cur_zero (b : List Int) : Cur b 0 := ⟨by omega, by omega⟩
theorem byte_ok {b : List Int} {i : Int} (h : Int) (hb : b.length ≤ 1048576) (hi : Cur b i) : ∃ v i' h', spec_l01Byte.f b i h = some (v, i', h') ∧ (0 ≤ v ∧ v ≤ 255) ∧ Cur b i' := by
  obtain ⟨h0, h1⟩ := hi
  unfold spec_l01Byte.f
  by_cases hl : i < (b.length : Int)
  · rw [if_pos hl, if_pos h0]
    refine ⟨_, _, _, rfl, ?_, ?_⟩
    · rw [and255]; omega
    · rw [w64 (by omega) (by omega)]; exact ⟨by omega, by omega⟩
  · rw [if_neg hl]
    refine ⟨_, _, _, rfl, ?_, h0, h1⟩
    rw [and255]; omega
theorem tmod_below {x n : Int} (hx : 0 ≤ x) (hn : 0 < n) : 0 ≤ Int.tmod x n ∧ Int.tmod x n < n := by
  rw [Int.tmod_eq_emod_of_nonneg hx]
  exact ⟨Int.emod_nonneg _ (by omega), Int.emod_lt_of_pos _ hn⟩
theorem below_ok {b : List Int} {i : Int} (h n : Int) (hb : b.length ≤ 1048576) (hi : Cur b i) : ∃ v i' h', spec_l01Below.f b i h n = some (v, i', h') ∧ (0 ≤ v ∧ (0 < n → v < n) ∧ (n ≤ 0 → v = 0)) ∧ Cur b i' := by
  unfold spec_l01Below.f
  by_cases hn : n ≤ 0
  · rw [if_pos hn]
    exact ⟨0, i, h, rfl, ⟨by omega, fun h => by omega, fun _ => rfl⟩, hi⟩
  · rw [if_neg hn]
    by_cases hs : n ≤ 256
    · rw [if_pos hs]
      obtain ⟨v, i', h', e, hv, hi'⟩ := byte_ok h hb hi
      rw [e]
      simp only [Option.bind_some]
      rw [if_neg (by omega)]
      have := tmod_below hv.1 (show 0 < n by omega)
      exact ⟨_, _, _, rfl, ⟨this.1, fun _ => this.2, fun h => absurd h hn⟩, hi'⟩
    · rw [if_neg hs]
      obtain ⟨v1, i1, h1, e1, hv1, hi1⟩ := byte_ok h hb hi
      rw [e1]
      simp only [Option.bind_some]
      obtain ⟨v2, i2, h2, e2, hv2, hi2⟩ := byte_ok h1 hb hi1
      rw [e2]
      simp only [Option.bind_some]
      obtain ⟨v3, i3, h3, e3, hv3, hi3⟩ := byte_ok h2 hb hi2
      rw [e3]
      simp only [Option.bind_some]
      obtain ⟨v4, i4, h4, e4, hv4, hi4⟩ := byte_ok h3 hb hi3
      rw [e4]
      simp only [Option.bind_some]
      rw [if_neg (by omega)]
      rw [w64 (x := v1 * 16777216) (by omega) (by omega), w64 (x := v2 * 65536) (by omega) (by omega), w64 (x := v3 * 256) (by omega) (by omega), w64 (x := v1 * 16777216 + v2 * 65536) (by omega) (by omega),
        w64 (x := v1 * 16777216 + v2 * 65536 + v3 * 256) (by omega) (by omega), w64 (x := v1 * 16777216 + v2 * 65536 + v3 * 256 + v4) (by omega) (by omega)]
      have := tmod_below (show 0 ≤ v1 * 16777216 + v2 * 65536 + v3 * 256 + v4 by omega) (show 0 < n by omega)
      exact ⟨_, _, _, rfl, ⟨this.1, fun _ => this.2, fun h => absurd h hn⟩, hi4⟩
theorem big_eq (b : List Int) : laws_big.f b = some (decide ((b.length : Int) > 1048576)) := rfl

/-! ### places -/
theorem places_loop {b : List Int} (hb : b.length ≤ 1048576) : ∀ (d : Nat) (acc : List Int) (j : Int) (i h : Int), Cur b i → (acc.length : Int) = j → 12 - j = d → (∀ x ∈ acc, 0 ≤ x ∧ x < 10000) →
    ∃ p, p.length = 12 ∧ (∀ x ∈ p, 0 ≤ x ∧ x < 10000) ∧ ∀ k, d < k → spec_DrawPlaces.l0 k acc j b i h = some p := by
  intro d
  induction d with
  | zero =>
    intro acc j i h hi hl hd ha
    refine ⟨acc, by omega, ha, fun k hk => ?_⟩
    obtain ⟨k, rfl⟩ : ∃ m, k = m + 1 := ⟨k - 1, by omega⟩
    simp only [spec_DrawPlaces.l0]
    rw [if_neg (by omega)]
  | succ d ih =>
    intro acc j i h hi hl hd ha
    obtain ⟨v, i', h', e, hv, hi'⟩ := below_ok h 10000 hb hi
    obtain ⟨p, hp, hp2, hk2⟩ := ih (acc ++ [v]) (j + 1) i' h' hi' (by rw [List.length_append, List.length_singleton]; omega) (by omega) (by
      intro x hx
      rcases List.mem_append.1 hx with hx | hx
      · exact ha x hx
      · rw [List.mem_singleton.1 hx]; exact ⟨hv.1, hv.2.1 (by omega)⟩)
    refine ⟨p, hp, hp2, fun k hk => ?_⟩
    obtain ⟨k, rfl⟩ : ∃ m, k = m + 1 := ⟨k - 1, by omega⟩
    simp only [spec_DrawPlaces.l0]
    rw [if_pos (by omega), e]
    simp only [Option.bind_some]
    rw [if_pos (by omega), w64 (x := j + 1) (by omega) (by omega)]
    exact hk2 k (by omega)
theorem places_ok {b : List Int} (hb : b.length ≤ 1048576) : ∃ p, p.length = 12 ∧ (∀ x ∈ p, 0 ≤ x ∧ x < 10000) ∧ Ev (fun k => spec_DrawPlaces.f k b) p := by
  obtain ⟨h, hn⟩ := new_ok b
  obtain ⟨v, i', h', e, _, hi'⟩ := byte_ok h hb (cur_zero b)
  obtain ⟨p, hp, hp2, hk⟩ := places_loop hb 12 [] 0 i' h' hi' rfl rfl (fun x hx => by cases hx)
  refine ⟨p, hp, hp2, Ev.bind hn ?_⟩
  refine ⟨13, fun k h1 => ?_⟩
  show (spec_l01Byte.f b 0 h).bind _ = _
  rw [e]
  exact hk k (by omega)
theorem rd_range {p : List Int} {a c : Int} (hp : ∀ x ∈ p, a ≤ x ∧ x < c) {j : Int} (h0 : 0 ≤ j) (h1 : j < (p.length : Int)) : a ≤ rd p j ∧ rd p j < c := by
  refine hp _ ?_
  unfold rd
  rw [List.getD_eq_getElem?_getD, List.getElem?_eq_getElem (by omega), Option.getD_some]
  exact List.getElem_mem _

/-! ### pickint -/
theorem rd_mem {l : List Int} {i : Int} (h0 : 0 ≤ i) (h1 : i < (l.length : Int)) : rd l i ∈ l := by
  unfold rd
  rw [List.getD_eq_getElem?_getD, List.getElem?_eq_getElem (by omega), Option.getD_some]
  exact List.getElem_mem _
theorem pickInt_ok {b : List Int} {i : Int} (h : Int) (l : List Int) (hb : b.length ≤ 1048576) (hi : Cur b i) (hl : 0 < l.length) : ∃ v i' h', spec_l01PickInt.f b i h l = some (v, i', h') ∧ v ∈ l ∧ Cur b i' := by
  unfold spec_l01PickInt.f
  obtain ⟨v, i', h', e, hv, hi'⟩ := below_ok h (l.length : Int) hb hi
  rw [e]
  simp only [Option.bind_some]
  have h1 := hv.2.1 (by omega)
  rw [if_pos hv.1, if_pos h1]
  exact ⟨_, _, _, rfl, rd_mem hv.1 h1, hi'⟩

/-! ### FnGaps -/
theorem num_ok {b : List Int} {i : Int} (h : Int) (hb : b.length ≤ 1048576) (hi : Cur b i) : ∃ v i' h', spec_l12Num.f b i h = some (v, i', h') ∧ (0 ≤ v ∧ v < 65536) ∧ Cur b i' := by
  unfold spec_l12Num.f
  obtain ⟨v, i', h', e, hv, hi'⟩ := below_ok h 65536 hb hi
  rw [e]
  simp only [Option.bind_some]
  obtain ⟨u, i2, h2, e2, hu, hi2⟩ := pickInt_ok h' [0, 1, 5, 9, 65530, 65535, v] hb hi' (by simp)
  rw [e2]
  simp only [Option.bind_some]
  refine ⟨u, i2, h2, rfl, ?_, hi2⟩
  have := hv.2.1 (by omega)
  simp only [List.mem_cons, List.not_mem_nil, or_false] at hu
  omega
theorem drawAdd_ok {b : List Int} (hb : b.length ≤ 1048576) : ∃ x y, Ev (fun k => spec_DrawAddNum.f k b) (x, y) := by
  obtain ⟨h, hn⟩ := new_ok b
  obtain ⟨v, i', h', e, _, hi'⟩ := num_ok h hb (cur_zero b)
  obtain ⟨v2, i2, h2, e2, _, hi2⟩ := below_ok h' 500 hb hi'
  obtain ⟨v3, i3, h3, e3, _, hi3⟩ := pickInt_ok h2 [0, 1, (-1), 70000, (-70000), 9223372036854775807, (-9223372036854775808), v2] hb hi2 (by simp)
  refine ⟨v, v3, Ev.bind hn ⟨0, fun k _ => ?_⟩⟩
  show (spec_l12Num.f b 0 h).bind _ = _
  rw [e]
  simp only [Option.bind_some]
  rw [e2]
  simp only [Option.bind_some]
  rw [e3]
  simp only [Option.bind_some]
theorem gap_eq (a b : Int) (ha : 0 ≤ a ∧ a < 65536) : impl_Gap.f a b = some ((b - a) % 65536) := by
  unfold impl_Gap.f
  simp only [impl_AddNum_eq, Option.bind_some]
  rw [w64 (x := -a) (by omega) (by omega)]
  congr 2
theorem FnGaps_main (b : List Int) : ∃ k, laws_FnGaps.f k b = some true := by
  unfold laws_FnGaps.f
  simp only [big_eq, Option.bind_some]
  by_cases hb : (b.length : Int) > 1048576
  · exact ⟨0, by rw [if_pos (by simpa using hb)]⟩
  · obtain ⟨p, hp, hp2, he⟩ := places_ok (b := b) (by omega)
    obtain ⟨x, y, hd⟩ := drawAdd_ok (b := b) (by omega)
    obtain ⟨K, hK⟩ := Ev.both he hd
    obtain ⟨e1, e2⟩ := hK K (Nat.le_refl _)
    refine ⟨K, ?_⟩
    have r0 := rd_range hp2 (j := 0) (by omega) (by omega)
    have r1 := rd_range hp2 (j := 1) (by omega) (by omega)
    have r2 := rd_range hp2 (j := 2) (by omega) (by omega)
    have q0 : Int.tmod (wrap64 ((rd p 0) * 7)) 65536 = rd p 0 * 7 % 65536 := by rw [w64 (by omega) (by omega), Int.tmod_eq_emod_of_nonneg (by omega)]
    have q1 : Int.tmod (wrap64 ((rd p 1) * 11)) 65536 = rd p 1 * 11 % 65536 := by rw [w64 (by omega) (by omega), Int.tmod_eq_emod_of_nonneg (by omega)]
    have q2 : wrap64 ((wrap64 ((rd p 2) * 13)) - 60000) = rd p 2 * 13 - 60000 := by rw [w64 (x := rd p 2 * 13) (by omega) (by omega), w64 (by omega) (by omega)]
    rw [if_neg (by simpa using hb), e1]
    simp only [Option.bind_some]
    rw [if_pos (by omega), if_pos (by omega), if_pos (by omega), e2]
    simp only [Option.bind_some]
    rw [q0, q1, q2]
    generalize hA : rd p 0 * 7 % 65536 = A
    generalize hB : rd p 1 * 11 % 65536 = B
    generalize hC : rd p 2 * 13 - 60000 = C
    have a0 : 0 ≤ A ∧ A < 65536 := by omega
    have b0 : 0 ≤ B ∧ B < 65536 := by omega
    have c0 : -60000 ≤ C ∧ C < 100000 := by omega
    rw [w64 (x := -C) (by omega) (by omega)]
    simp only [gap_eq A B a0, gap_eq B A b0, gap_eq A A a0, impl_AddNum_eq, spec_AddNum_eq, Option.bind_some]
    have f1 : (A + (B - A) % 65536) % 65536 = B := by omega
    have f2 : (A - A) % 65536 = 0 := by omega
    have f3 : ((A + C) % 65536 + -C) % 65536 = A := by omega
    have f4 : 0 ≤ (x + y) % 65536 ∧ (x + y) % 65536 < 65536 := by omega
    rw [if_pos f1, if_pos f2]
    by_cases hAB : A = B
    · rw [if_pos hAB, if_pos f3, if_pos trivial, if_pos f4.1]
      simp [f4.2]
    · have f5 : wrap64 ((B - A) % 65536 + (A - B) % 65536) = 65536 := by rw [w64 (by omega) (by omega)]; omega
      rw [if_neg hAB, if_pos f5, if_pos f3, if_pos trivial, if_pos f4.1]
      simp [f4.2]
theorem FnGaps : StFnGaps.Pure := by
  intro b
  intros
  exact FnGaps_main b

end Go.Proofs.Ytgninkpoembamaa.Pure
