/- The pure statement of the law 'FnExactSegOk', proved: over numbers, lists and texts alone. No condition. -/
import Derived.Test.YtgninkpoembamaaStFnExactSegOk
import Derived.Laws.BitsLemmas
namespace Go.Proofs.Ytgninkpoembamaa.Pure
open Go.RowKit Go.Proofs.Ytgninkpoembamaa.PFnExactSegOk Go.Proofs.YtgninkpoembamaaW.PrintWords Go.Proofs.YtgninkpoembamaaW.PrintLast Go.Proofs.YtgninkpoembamaaW.PrintMore Go.Proofs.Ytgninkpoembamaa.StFnExactSegOk Go.Proofs.Ytgninkpoembamaa.Opens
set_option linter.unusedVariables false
set_option linter.unusedSimpArgs false

/-! ### base -/
theorem w64 {x : Int} (h0 : -9223372036854775808 ≤ x) (h1 : x ≤ 9223372036854775807) : wrap64 x = x := by unfold wrap64; omega
theorem w64_range (x : Int) : -9223372036854775808 ≤ wrap64 x ∧ wrap64 x ≤ 9223372036854775807 := by unfold wrap64; omega
theorem ip {α : Type} {c : Prop} [Decidable c] {a b : α} (h : c) : (if c then a else b) = a := if_pos h
theorem ineg {α : Type} {c : Prop} [Decidable c] {a b : α} (h : ¬ c) : (if c then a else b) = b := if_neg h
theorem wf_range {n : Int} (h : (Lit.int .i64 n).wf = true) : -9223372036854775808 ≤ n ∧ n ≤ 9223372036854775807 := by
  simp only [Lit.wf, IntKind.min, IntKind.max, IntKind.signed, IntKind.bits, Bool.and_eq_true, decide_eq_true_eq, if_true] at h
  omega
theorem wf_u8 {n : Int} (h : (Lit.int .u8 n).wf = true) : 0 ≤ n ∧ n ≤ 255 := by
  simp [Lit.wf, IntKind.min, IntKind.max, IntKind.signed, IntKind.bits] at h
  omega
theorem and_low (x : Int) (i : Nat) (hi : i ≤ 62) : Go.bits .and .i64 x (2 ^ i - 1) = x % 2 ^ i := by
  have hpos : 0 < 2 ^ i := Nat.two_pow_pos i
  have hc : ((2 : Int) ^ i - 1) = ((2 ^ i - 1 : Nat) : Int) := by rw [Int.natCast_sub hpos]; simp
  have h62 : 2 ^ i ≤ 2 ^ 62 := Nat.pow_le_pow_right (by decide) hi
  have hlt : 2 ^ i - 1 < 2 ^ 64 := by omega
  have hd : (2 ^ i : Nat) ∣ 2 ^ 64 := Nat.pow_dvd_pow 2 (by omega)
  rw [hc]
  simp only [Go.bits, BitVec.ofInt_natCast, BitVec.toNat_and, BitVec.toNat_ofNat, BitVec.toNat_ofInt]
  simp only [show IntKind.i64.bits = 64 from rfl]
  rw [Nat.mod_eq_of_lt hlt, Nat.and_two_pow_sub_one_eq_mod]
  have h1 : (((x % ((2 ^ 64 : Nat) : Int)).toNat % 2 ^ i : Nat) : Int) = x % 2 ^ i := by
    rw [Int.natCast_emod, Int.toNat_of_nonneg (Int.emod_nonneg _ (by decide))]
    rw [Int.natCast_pow]
    exact Int.emod_emod_of_dvd _ (by
      have : (((2 ^ i : Nat) : Int)) ∣ ((2 ^ 64 : Nat) : Int) := Int.natCast_dvd_natCast.2 hd
      simpa using this)
  rw [h1]
  have h2 : 0 ≤ x % 2 ^ i := Int.emod_nonneg _ (by
    have : (0 : Int) < 2 ^ i := by exact_mod_cast hpos
    omega)
  have h3 : x % 2 ^ i < 2 ^ i := Int.emod_lt_of_pos _ (by exact_mod_cast hpos)
  have h4 : (2 : Int) ^ i ≤ 2 ^ 62 := by exact_mod_cast h62
  rw [IntKind.wrap_i64]
  omega
theorem and255 (x : Int) : Go.bits .and .i64 x 255 = x % 256 := and_low x 8 (by omega)
theorem and65535 (x : Int) : Go.bits .and .i64 x 65535 = x % 65536 := and_low x 16 (by omega)
theorem and30 (x : Int) : Go.bits .and .i64 x 1073741823 = x % 1073741824 := and_low x 30 (by omega)
theorem and1 (x : Int) : Go.bits .and .i64 x 1 = x % 2 := and_low x 1 (by omega)
/-- A law's last step: both are one. -/
theorem same_end {v : Bool} : (if (v != v) = true then some false else some true : Option Bool) = some true := by simp
theorem Ev.ex {α : Type} {g : Nat → Option α} {r : α} (h : Ev g r) : ∃ k, g k = some r := h.rounds
theorem Ev.from_ {α : Type} {g : Nat → Option α} {r : α} (K : Nat) (h : ∀ k, K ≤ k → g k = some r) : Ev g r := ⟨K, h⟩
theorem Ev.both {α β : Type} {g : Nat → Option α} {f : Nat → Option β} {r : α} {q : β} (h : Ev g r) (h' : Ev f q) : ∃ K, ∀ k, K ≤ k → g k = some r ∧ f k = some q := by
  obtain ⟨K, h⟩ := h
  obtain ⟨K', h'⟩ := h'
  exact ⟨K + K', fun k hk => ⟨h k (by omega), h' k (by omega)⟩⟩

/-! ### in -/
def rng (a b c : Int) : Bool := decide (b ≤ a) && decide (a ≤ c)
theorem rng_iff {a b c : Int} : rng a b c = true ↔ b ≤ a ∧ a ≤ c := by simp [rng]
theorem rng_false {a b c : Int} : rng a b c = false ↔ ¬ (b ≤ a ∧ a ≤ c) := by rw [← rng_iff]; simp
theorem in_eq (a b c : Int) : spec_l01In.f a b c = some (rng a b c) := by
  unfold spec_l01In.f rng
  by_cases h : b ≤ a
  · rw [if_pos h]; simp [h]
  · rw [if_neg h]; simp [h]
theorem within_eq (a b c : Int) : impl_within.f a b c = some (rng a b c) := by
  unfold impl_within.f rng
  by_cases h : b ≤ a
  · rw [if_pos h]; simp [h]
  · rw [if_neg h]; simp [h]

/-! ### segok -/
def segB (n a f : Int) (s : ByteArray) : Bool :=
  rng n 0 65535 && rng a 0 65535 && rng f 0 7 && decide (s.size ≤ 8) && (decide (s.toList = []) || decide (f % 2 = 0)) && (decide (a = 0) || decide (f / 2 % 2 = 1))
theorem and2_flag (f : Int) (h : 0 ≤ f ∧ f ≤ 7) : Go.bits .and .i64 f 2 = 2 * (f / 2 % 2) := by
  have : f = 0 ∨ f = 1 ∨ f = 2 ∨ f = 3 ∨ f = 4 ∨ f = 5 ∨ f = 6 ∨ f = 7 := by omega
  rcases this with rfl | rfl | rfl | rfl | rfl | rfl | rfl | rfl <;> decide +kernel
theorem has1_eq (n a f : Int) (s : ByteArray) (h : 0 ≤ f ∧ f ≤ 7) : spec_l12Has.f n a f s 1 = some (decide (f % 2 = 1)) := by
  unfold spec_l12Has.f
  rw [if_neg (by decide), Int.tdiv_one, w64 (by omega) (by omega), Int.tmod_eq_emod_of_nonneg h.1]
  rfl
theorem has2_eq (n a f : Int) (s : ByteArray) (h : 0 ≤ f ∧ f ≤ 7) : spec_l12Has.f n a f s 2 = some (decide (f / 2 % 2 = 1)) := by
  unfold spec_l12Has.f
  rw [if_neg (by decide), Int.tdiv_eq_ediv_of_nonneg h.1, w64 (by omega) (by omega), Int.tmod_eq_emod_of_nonneg (by omega)]
  rfl
theorem spec_segOk_eq (n a f : Int) (s : ByteArray) : ∀ k, 0 < k → spec_SegOk.f k n a f s = some (segB n a f s) := by
  intro k hk
  obtain ⟨k, rfl⟩ : ∃ m, k = m + 1 := ⟨k - 1, by omega⟩
  unfold spec_SegOk.f segB
  simp only [in_eq, Option.bind_some, spec_SegOk.j0]
  cases h1 : rng n 0 65535
  · simp
  cases h2 : rng a 0 65535
  · simp
  cases h3 : rng f 0 7
  · simp
  have hf := rng_iff.1 h3
  simp only [if_true, has1_eq n a f s hf, has2_eq n a f s hf, Option.bind_some]
  by_cases h4 : (s.size : Int) > 8
  · have : ¬ s.size ≤ 8 := by omega
    simp [h4, this]
  · have : s.size ≤ 8 := by omega
    have h01 : f % 2 = 0 ∨ f % 2 = 1 := by omega
    by_cases h5 : s.toList = [] <;> by_cases h7 : f / 2 % 2 = 1 <;> by_cases h8 : a = 0 <;> rcases h01 with h6 | h6 <;> simp [h4, this, h5, h6, h7, h8]
theorem impl_segOk_eq (n a f : Int) (s : ByteArray) : impl_SegOk.f n a f s = some (segB n a f s) := by
  unfold impl_SegOk.f impl_isWord.f segB
  simp only [within_eq, Option.bind_some]
  cases h1 : rng n 0 65535
  · simp
  cases h2 : rng a 0 65535
  · simp
  cases h3 : rng f 0 7
  · simp
  have hf := rng_iff.1 h3
  simp only [if_true, and1, and2_flag f hf]
  by_cases h4 : (s.size : Int) > 8
  · have : ¬ s.size ≤ 8 := by omega
    simp [h4, this]
  · have : s.size ≤ 8 := by omega
    have h01 : f % 2 = 0 ∨ f % 2 = 1 := by omega
    have h02 : f / 2 % 2 = 0 ∨ f / 2 % 2 = 1 := by omega
    by_cases h5 : s.toList = [] <;> by_cases h8 : a = 0 <;> rcases h01 with h6 | h6 <;> rcases h02 with h7 | h7 <;> simp [h4, this, h5, h6, h7, h8]

/-! ### FnExactSegOk -/
theorem FnExactSegOk : StFnExactSegOk.Pure := by
  intro n a f s _ _ _ _
  refine ⟨1, ?_⟩
  unfold laws_FnExactSegOk.f laws_toSeg.f
  obtain ⟨t, ht⟩ : ∃ t, laws_szSeg.f n a f s 1048576 = some t := by unfold laws_szSeg.f; split <;> exact ⟨_, rfl⟩
  rw [ht]
  simp only [Option.bind_some, spec_segOk_eq n a f s 1 (by omega), impl_segOk_eq]
  split <;> simp

end Go.Proofs.Ytgninkpoembamaa.Pure
