/- The pure statement of the law 'FnExactSumOnes', proved: over numbers, lists and texts alone. No condition. -/
import Derived.Test.YtgninkpoembamaaPFnExactSumOnesx0
import Derived.Test.YtgninkpoembamaaPFnExactSumOnesx1
import Derived.Laws.BitsLemmas
namespace Go.Proofs.Ytgninkpoembamaa.Pure
open Go.RowKit Go.Proofs.Ytgninkpoembamaa.PFnExactSumOnes Go.Proofs.YtgninkpoembamaaW.PrintWords Go.Proofs.YtgninkpoembamaaW.PrintLast Go.Proofs.YtgninkpoembamaaW.PrintMore
set_option linter.unusedVariables false
set_option linter.unusedSimpArgs false

/-! ### base -/
theorem w64 {x : Int} (h0 : -9223372036854775808 ≤ x) (h1 : x ≤ 9223372036854775807) : wrap64 x = x := by unfold wrap64; omega
theorem w64_range (x : Int) : -9223372036854775808 ≤ wrap64 x ∧ wrap64 x ≤ 9223372036854775807 := by unfold wrap64; omega
theorem ip {α : Type} {c : Prop} [Decidable c] {a b : α} (h : c) : (if c then a else b) = a := if_pos h
theorem ineg {α : Type} {c : Prop} [Decidable c] {a b : α} (h : ¬ c) : (if c then a else b) = b := if_neg h
theorem wf_range {n : Int} (h : (Lit.int .i64 n).wf = true) : -9223372036854775808 ≤ n ∧ n ≤ 9223372036854775807 := by
  simp only [Lit.wf, IntKind.min, IntKind.max, IntKind.signed, IntKind.bits, Bool.and_eq_true, decide_eq_true_eq, if_true] at h
  omega
theorem wf_u8 {n : Int} (h : (Lit.int .u8 n).wf = true) : 0 ≤ n ∧ n ≤ 255 := by
  simp [Lit.wf, IntKind.min, IntKind.max, IntKind.signed, IntKind.bits] at h
  omega
theorem and_low (x : Int) (i : Nat) (hi : i ≤ 62) : Go.bits .and .i64 x (2 ^ i - 1) = x % 2 ^ i := by
  have hpos : 0 < 2 ^ i := Nat.two_pow_pos i
  have hc : ((2 : Int) ^ i - 1) = ((2 ^ i - 1 : Nat) : Int) := by rw [Int.natCast_sub hpos]; simp
  have h62 : 2 ^ i ≤ 2 ^ 62 := Nat.pow_le_pow_right (by decide) hi
  have hlt : 2 ^ i - 1 < 2 ^ 64 := by omega
  have hd : (2 ^ i : Nat) ∣ 2 ^ 64 := Nat.pow_dvd_pow 2 (by omega)
  rw [hc]
  simp only [Go.bits, BitVec.ofInt_natCast, BitVec.toNat_and, BitVec.toNat_ofNat, BitVec.toNat_ofInt]
  simp only [show IntKind.i64.bits = 64 from rfl]
  rw [Nat.mod_eq_of_lt hlt, Nat.and_two_pow_sub_one_eq_mod]
  have h1 : (((x % ((2 ^ 64 : Nat) : Int)).toNat % 2 ^ i : Nat) : Int) = x % 2 ^ i := by
    rw [Int.natCast_emod, Int.toNat_of_nonneg (Int.emod_nonneg _ (by decide))]
    rw [Int.natCast_pow]
    exact Int.emod_emod_of_dvd _ (by
      have : (((2 ^ i : Nat) : Int)) ∣ ((2 ^ 64 : Nat) : Int) := Int.natCast_dvd_natCast.2 hd
      simpa using this)
  rw [h1]
  have h2 : 0 ≤ x % 2 ^ i := Int.emod_nonneg _ (by
    have : (0 : Int) < 2 ^ i := by exact_mod_cast hpos
    omega)
  have h3 : x % 2 ^ i < 2 ^ i := Int.emod_lt_of_pos _ (by exact_mod_cast hpos)
  have h4 : (2 : Int) ^ i ≤ 2 ^ 62 := by exact_mod_cast h62
  rw [IntKind.wrap_i64]
  omega
theorem and255 (x : Int) : Go.bits .and .i64 x 255 = x % 256 := and_low x 8 (by omega)
theorem and65535 (x : Int) : Go.bits .and .i64 x 65535 = x % 65536 := and_low x 16 (by omega)
theorem and30 (x : Int) : Go.bits .and .i64 x 1073741823 = x % 1073741824 := and_low x 30 (by omega)
theorem and1 (x : Int) : Go.bits .and .i64 x 1 = x % 2 := and_low x 1 (by omega)
/-- A law's last step: both are one. -/
theorem same_end {v : Bool} : (if (v != v) = true then some false else some true : Option Bool) = some true := by simp
theorem Ev.ex {α : Type} {g : Nat → Option α} {r : α} (h : Ev g r) : ∃ k, g k = some r := h.rounds
theorem Ev.from_ {α : Type} {g : Nat → Option α} {r : α} (K : Nat) (h : ∀ k, K ≤ k → g k = some r) : Ev g r := ⟨K, h⟩
theorem Ev.both {α β : Type} {g : Nat → Option α} {f : Nat → Option β} {r : α} {q : β} (h : Ev g r) (h' : Ev f q) : ∃ K, ∀ k, K ≤ k → g k = some r ∧ f k = some q := by
  obtain ⟨K, h⟩ := h
  obtain ⟨K', h'⟩ := h'
  exact ⟨K + K', fun k hk => ⟨h k (by omega), h' k (by omega)⟩⟩

/-! ### sumones -/
set_option maxHeartbeats 4000000 in
theorem sum_loop (s : ByteArray) (hs : s.size ≤ 1048576) : ∀ (d : Nat) (i x : Int), 0 ≤ i → i % 2 = 0 → i ≤ s.size + 1 → (s.size : Int) - i ≤ 2 * d → 0 ≤ x → x ≤ 65535 →
    ∃ r, 0 ≤ r ∧ r ≤ 65535 ∧ (∀ k, d < k → spec_SumOnes.l0 k s x i = some r) ∧ (∀ k, 2 * d < k → impl_SumOnes.l0 k s x i = some r) := by
  intro d
  induction d with
  | zero =>
    intro i x hi0 _ hi hd hx0 hx1
    refine ⟨65535 - x, by omega, by omega, fun k hk => ?_, fun k hk => ?_⟩
    · obtain ⟨k, rfl⟩ : ∃ m, k = m + 1 := ⟨k - 1, by omega⟩
      simp (disch := omega) only [spec_SumOnes.l0, ineg, w64]
    · obtain ⟨k, rfl⟩ : ∃ m, k = m + 1 := ⟨k - 1, by omega⟩
      simp (disch := omega) only [impl_SumOnes.l0, ineg, w64]
  | succ d ih =>
    intro i x hi0 he hi hd hx0 hx1
    by_cases hlt : i < (s.size : Int)
    · have hb := bt_range s i
      have hm : Int.tmod i 2 = 0 := by rw [Int.tmod_eq_emod_of_nonneg hi0]; exact he
      have hm1 : ¬ Int.tmod (i + 1) 2 = 0 := by rw [Int.tmod_eq_emod_of_nonneg (by omega)]; omega
      by_cases hl1 : i + 1 < (s.size : Int)
      · have hc := bt_range s (i + 1)
        obtain ⟨r, r0, r1, ih1, ih2⟩ := ih (i + 2) (if x + (256 * bt s i + bt s (i + 1)) > 65535 then x + (256 * bt s i + bt s (i + 1)) - 65535 else x + (256 * bt s i + bt s (i + 1))) (by omega) (by omega) (by omega) (by omega) (by split <;> omega) (by split <;> omega)
        refine ⟨r, r0, r1, fun k hk => ?_, fun k hk => ?_⟩
        · obtain ⟨k, rfl⟩ : ∃ m, k = m + 1 := ⟨k - 1, by omega⟩
          have ih1 := ih1 k (by omega)
          by_cases hg : x + (256 * bt s i + bt s (i + 1)) > 65535
          · rw [if_pos hg] at ih1
            simp (disch := omega) only [spec_SumOnes.l0, ip, ineg, w64]
            exact ih1
          · rw [if_neg hg] at ih1
            simp (disch := omega) only [spec_SumOnes.l0, ip, ineg, w64]
            exact ih1
        · obtain ⟨k, rfl⟩ : ∃ m, k = m + 1 + 1 := ⟨k - 2, by omega⟩
          have ih2 := ih2 k (by omega)
          by_cases hg1 : x + bt s i * 256 > 65535
          · rw [if_pos (by omega)] at ih2
            rw [show i + 2 = i + 1 + 1 by omega, show x + (256 * bt s i + bt s (i + 1)) - 65535 = x + bt s i * 256 - 65535 + bt s (i + 1) by omega] at ih2
            simp (disch := omega) only [impl_SumOnes.l0, ip, ineg, w64]
            exact ih2
          · by_cases hg2 : x + bt s i * 256 + bt s (i + 1) > 65535
            · rw [if_pos (by omega)] at ih2
              rw [show i + 2 = i + 1 + 1 by omega, show x + (256 * bt s i + bt s (i + 1)) - 65535 = x + bt s i * 256 + bt s (i + 1) - 65535 by omega] at ih2
              simp (disch := omega) only [impl_SumOnes.l0, ip, ineg, w64]
              exact ih2
            · rw [if_neg (by omega)] at ih2
              rw [show i + 2 = i + 1 + 1 by omega, show x + (256 * bt s i + bt s (i + 1)) = x + bt s i * 256 + bt s (i + 1) by omega] at ih2
              simp (disch := omega) only [impl_SumOnes.l0, ip, ineg, w64]
              exact ih2
      · by_cases hg : x + 256 * bt s i > 65535
        · refine ⟨65535 - (x + 256 * bt s i - 65535), by omega, by omega, fun k hk => ?_, fun k hk => ?_⟩
          · obtain ⟨k, rfl⟩ : ∃ m, k = m + 1 + 1 := ⟨k - 2, by omega⟩
            simp (disch := omega) only [spec_SumOnes.l0, ip, ineg, w64]
          · obtain ⟨k, rfl⟩ : ∃ m, k = m + 1 + 1 := ⟨k - 2, by omega⟩
            simp (disch := omega) only [impl_SumOnes.l0, ip, ineg, w64, Int.mul_comm (bt s i) 256]
        · refine ⟨65535 - (x + 256 * bt s i), by omega, by omega, fun k hk => ?_, fun k hk => ?_⟩
          · obtain ⟨k, rfl⟩ : ∃ m, k = m + 1 + 1 := ⟨k - 2, by omega⟩
            simp (disch := omega) only [spec_SumOnes.l0, ip, ineg, w64]
          · obtain ⟨k, rfl⟩ : ∃ m, k = m + 1 + 1 := ⟨k - 2, by omega⟩
            simp (disch := omega) only [impl_SumOnes.l0, ip, ineg, w64, Int.mul_comm (bt s i) 256]
    · refine ⟨65535 - x, by omega, by omega, fun k hk => ?_, fun k hk => ?_⟩
      · obtain ⟨k, rfl⟩ : ∃ m, k = m + 1 := ⟨k - 1, by omega⟩
        simp (disch := omega) only [spec_SumOnes.l0, ineg, w64]
      · obtain ⟨k, rfl⟩ : ∃ m, k = m + 1 := ⟨k - 1, by omega⟩
        simp (disch := omega) only [impl_SumOnes.l0, ineg, w64]
theorem sum_both (s : ByteArray) (hs : s.size ≤ 1048576) : ∃ r, Ev (fun k => spec_SumOnes.f k s) r ∧ Ev (fun k => impl_SumOnes.f k s) r := by
  obtain ⟨r, _, _, h1, h2⟩ := sum_loop s hs (s.size + 1) 0 0 (by omega) (by omega) (by omega) (by omega) (by omega) (by omega)
  exact ⟨r, ⟨s.size + 2, fun k hk => h1 k (by omega)⟩, ⟨2 * (s.size + 1) + 1, fun k hk => h2 k (by omega)⟩⟩

/-! ### FnExactSumOnes -/
theorem FnExactSumOnes : laws_FnExactSumOnes.Pure := by
  intro s hs
  by_cases hb : (s.size : Int) > 1048576
  · exact ⟨0, by unfold laws_FnExactSumOnes.f; rw [if_pos hb]⟩
  · obtain ⟨r, h1, h2⟩ := sum_both s (by omega)
    obtain ⟨K, h⟩ := Ev.both h1 h2
    obtain ⟨e1, e2⟩ := h K (Nat.le_refl _)
    exact ⟨K, by unfold laws_FnExactSumOnes.f; rw [if_neg hb, e1, e2]; simp⟩

end Go.Proofs.Ytgninkpoembamaa.Pure
