/- The pure statement of the law 'FnSegs', proved: over numbers, lists and texts alone. No condition. -/
import Derived.Test.YtjijbffecppeiaaStFnSegs
import Derived.Laws.BitsLemmas
namespace Go.Proofs.Ytjijbffecppeiaa.Pure
open Go.RowKit Go.Proofs.Ytjijbffecppeiaa.QFnSegs Go.Proofs.YtjijbffecppeiaaW.PrintWords Go.Proofs.YtjijbffecppeiaaW.PrintLast Go.Proofs.YtjijbffecppeiaaW.PrintMore Go.Proofs.Ytjijbffecppeiaa.StFnSegs Go.Proofs.Ytjijbffecppeiaa.Opens
set_option linter.unusedVariables false
set_option linter.unusedSimpArgs false

/-! ### base -/
theorem w64 {x : Int} (h0 : -9223372036854775808 ≤ x) (h1 : x ≤ 9223372036854775807) : wrap64 x = x := by unfold wrap64; omega
theorem w64_range (x : Int) : -9223372036854775808 ≤ wrap64 x ∧ wrap64 x ≤ 9223372036854775807 := by unfold wrap64; omega
theorem ip {α : Type} {c : Prop} [Decidable c] {a b : α} (h : c) : (if c then a else b) = a := if_pos h
theorem ineg {α : Type} {c : Prop} [Decidable c] {a b : α} (h : ¬ c) : (if c then a else b) = b := if_neg h
theorem wf_range {n : Int} (h : (Lit.int .i64 n).wf = true) : -9223372036854775808 ≤ n ∧ n ≤ 9223372036854775807 := by
  simp only [Lit.wf, IntKind.min, IntKind.max, IntKind.signed, IntKind.bits, Bool.and_eq_true, decide_eq_true_eq, if_true] at h
  omega
theorem wf_u8 {n : Int} (h : (Lit.int .u8 n).wf = true) : 0 ≤ n ∧ n ≤ 255 := by
  simp [Lit.wf, IntKind.min, IntKind.max, IntKind.signed, IntKind.bits] at h
  omega
theorem and_low (x : Int) (i : Nat) (hi : i ≤ 62) : Go.bits .and .i64 x (2 ^ i - 1) = x % 2 ^ i := by
  have hpos : 0 < 2 ^ i := Nat.two_pow_pos i
  have hc : ((2 : Int) ^ i - 1) = ((2 ^ i - 1 : Nat) : Int) := by rw [Int.natCast_sub hpos]; simp
  have h62 : 2 ^ i ≤ 2 ^ 62 := Nat.pow_le_pow_right (by decide) hi
  have hlt : 2 ^ i - 1 < 2 ^ 64 := by omega
  have hd : (2 ^ i : Nat) ∣ 2 ^ 64 := Nat.pow_dvd_pow 2 (by omega)
  rw [hc]
  simp only [Go.bits, BitVec.ofInt_natCast, BitVec.toNat_and, BitVec.toNat_ofNat, BitVec.toNat_ofInt]
  simp only [show IntKind.i64.bits = 64 from rfl]
  rw [Nat.mod_eq_of_lt hlt, Nat.and_two_pow_sub_one_eq_mod]
  have h1 : (((x % ((2 ^ 64 : Nat) : Int)).toNat % 2 ^ i : Nat) : Int) = x % 2 ^ i := by
    rw [Int.natCast_emod, Int.toNat_of_nonneg (Int.emod_nonneg _ (by decide))]
    rw [Int.natCast_pow]
    exact Int.emod_emod_of_dvd _ (by
      have : (((2 ^ i : Nat) : Int)) ∣ ((2 ^ 64 : Nat) : Int) := Int.natCast_dvd_natCast.2 hd
      simpa using this)
  rw [h1]
  have h2 : 0 ≤ x % 2 ^ i := Int.emod_nonneg _ (by
    have : (0 : Int) < 2 ^ i := by exact_mod_cast hpos
    omega)
  have h3 : x % 2 ^ i < 2 ^ i := Int.emod_lt_of_pos _ (by exact_mod_cast hpos)
  have h4 : (2 : Int) ^ i ≤ 2 ^ 62 := by exact_mod_cast h62
  rw [IntKind.wrap_i64]
  omega
theorem and255 (x : Int) : Go.bits .and .i64 x 255 = x % 256 := and_low x 8 (by omega)
theorem and65535 (x : Int) : Go.bits .and .i64 x 65535 = x % 65536 := and_low x 16 (by omega)
theorem and30 (x : Int) : Go.bits .and .i64 x 1073741823 = x % 1073741824 := and_low x 30 (by omega)
theorem and1 (x : Int) : Go.bits .and .i64 x 1 = x % 2 := and_low x 1 (by omega)
/-- A law's last step: both are one. -/
theorem same_end {v : Bool} : (if (v != v) = true then some false else some true : Option Bool) = some true := by simp
theorem Ev.ex {α : Type} {g : Nat → Option α} {r : α} (h : Ev g r) : ∃ k, g k = some r := h.rounds
theorem Ev.from_ {α : Type} {g : Nat → Option α} {r : α} (K : Nat) (h : ∀ k, K ≤ k → g k = some r) : Ev g r := ⟨K, h⟩
theorem Ev.both {α β : Type} {g : Nat → Option α} {f : Nat → Option β} {r : α} {q : β} (h : Ev g r) (h' : Ev f q) : ∃ K, ∀ k, K ≤ k → g k = some r ∧ f k = some q := by
  obtain ⟨K, h⟩ := h
  obtain ⟨K', h'⟩ := h'
  exact ⟨K + K', fun k hk => ⟨h k (by omega), h' k (by omega)⟩⟩

/-! ### in -/
def rng (a b c : Int) : Bool := decide (b ≤ a) && decide (a ≤ c)
theorem rng_iff {a b c : Int} : rng a b c = true ↔ b ≤ a ∧ a ≤ c := by simp [rng]
theorem rng_false {a b c : Int} : rng a b c = false ↔ ¬ (b ≤ a ∧ a ≤ c) := by rw [← rng_iff]; simp
theorem in_eq (a b c : Int) : spec_l01In.f a b c = some (rng a b c) := by
  unfold spec_l01In.f rng
  by_cases h : b ≤ a
  · rw [if_pos h]; simp [h]
  · rw [if_neg h]; simp [h]
theorem within_eq (a b c : Int) : impl_within.f a b c = some (rng a b c) := by
  unfold impl_within.f rng
  by_cases h : b ≤ a
  · rw [if_pos h]; simp [h]
  · rw [if_neg h]; simp [h]

/-! ### segok -/
def segB (n a f : Int) (s : ByteArray) : Bool :=
  rng n 0 65535 && rng a 0 65535 && rng f 0 7 && decide (s.size ≤ 8) && (decide (s.toList = []) || decide (f % 2 = 0)) && (decide (a = 0) || decide (f / 2 % 2 = 1))
theorem and2_flag (f : Int) (h : 0 ≤ f ∧ f ≤ 7) : Go.bits .and .i64 f 2 = 2 * (f / 2 % 2) := by
  have : f = 0 ∨ f = 1 ∨ f = 2 ∨ f = 3 ∨ f = 4 ∨ f = 5 ∨ f = 6 ∨ f = 7 := by omega
  rcases this with rfl | rfl | rfl | rfl | rfl | rfl | rfl | rfl <;> decide +kernel
theorem has1_eq (n a f : Int) (s : ByteArray) (h : 0 ≤ f ∧ f ≤ 7) : spec_l12Has.f n a f s 1 = some (decide (f % 2 = 1)) := by
  unfold spec_l12Has.f
  rw [if_neg (by decide), Int.tdiv_one, w64 (by omega) (by omega), Int.tmod_eq_emod_of_nonneg h.1]
  rfl
theorem has2_eq (n a f : Int) (s : ByteArray) (h : 0 ≤ f ∧ f ≤ 7) : spec_l12Has.f n a f s 2 = some (decide (f / 2 % 2 = 1)) := by
  unfold spec_l12Has.f
  rw [if_neg (by decide), Int.tdiv_eq_ediv_of_nonneg h.1, w64 (by omega) (by omega), Int.tmod_eq_emod_of_nonneg (by omega)]
  rfl
theorem spec_segOk_eq (n a f : Int) (s : ByteArray) : ∀ k, 0 < k → spec_SegOk.f k n a f s = some (segB n a f s) := by
  intro k hk
  obtain ⟨k, rfl⟩ : ∃ m, k = m + 1 := ⟨k - 1, by omega⟩
  unfold spec_SegOk.f segB
  simp only [in_eq, Option.bind_some, spec_SegOk.j0]
  cases h1 : rng n 0 65535
  · simp
  cases h2 : rng a 0 65535
  · simp
  cases h3 : rng f 0 7
  · simp
  have hf := rng_iff.1 h3
  simp only [if_true, has1_eq n a f s hf, has2_eq n a f s hf, Option.bind_some]
  by_cases h4 : (s.size : Int) > 8
  · have : ¬ s.size ≤ 8 := by omega
    simp [h4, this]
  · have : s.size ≤ 8 := by omega
    have h01 : f % 2 = 0 ∨ f % 2 = 1 := by omega
    by_cases h5 : s.toList = [] <;> by_cases h7 : f / 2 % 2 = 1 <;> by_cases h8 : a = 0 <;> rcases h01 with h6 | h6 <;> simp [h4, this, h5, h6, h7, h8]
theorem impl_segOk_eq (n a f : Int) (s : ByteArray) : impl_SegOk.f n a f s = some (segB n a f s) := by
  unfold impl_SegOk.f impl_isWord.f segB
  simp only [within_eq, Option.bind_some]
  cases h1 : rng n 0 65535
  · simp
  cases h2 : rng a 0 65535
  · simp
  cases h3 : rng f 0 7
  · simp
  have hf := rng_iff.1 h3
  simp only [if_true, and1, and2_flag f hf]
  by_cases h4 : (s.size : Int) > 8
  · have : ¬ s.size ≤ 8 := by omega
    simp [h4, this]
  · have : s.size ≤ 8 := by omega
    have h01 : f % 2 = 0 ∨ f % 2 = 1 := by omega
    have h02 : f / 2 % 2 = 0 ∨ f / 2 % 2 = 1 := by omega
    by_cases h5 : s.toList = [] <;> by_cases h8 : a = 0 <;> rcases h01 with h6 | h6 <;> rcases h02 with h7 | h7 <;> simp [h4, this, h5, h6, h7, h8]

/-! ### bl -/
theorem bl_inj {s t : ByteArray} (h : bytesOf s = bytesOf t) : s = t := by
  unfold bytesOf at h
  have h2 : s.data.toList = t.data.toList := by
    apply List.ext_getElem?
    intro i
    have h3 := congrArg (fun l => l[i]?) h
    simp only [List.getElem?_map] at h3
    cases h4 : s.data.toList[i]? <;> cases h5 : t.data.toList[i]? <;> rw [h4, h5] at h3 <;> simp at h3 ⊢
    exact UInt8.toNat_inj.1 (by omega)
  exact ByteArray.ext (by rw [← Array.toArray_toList (xs := s.data), h2])
theorem bl_app (s t : ByteArray) : bytesOf (s ++ t) = bytesOf s ++ bytesOf t := by
  unfold bytesOf
  rw [ByteArray.toList_data_append, List.map_append]
theorem bl_ext (s : ByteArray) (a b : Nat) : bytesOf (s.extract a b) = ((bytesOf s).drop a).take (b - a) := by
  unfold bytesOf
  rw [ByteArray.data_extract, Array.toList_extract, ← List.map_drop, ← List.map_take] <;> simp [List.extract_eq_drop_take]
theorem bl_range {s : ByteArray} : ∀ x ∈ bytesOf s, 0 ≤ x ∧ x ≤ 255 := by
  intro x hx
  obtain ⟨b, _, rfl⟩ := List.mem_map.1 hx
  have := b.toNat_lt
  omega
theorem bl_str {l : List Int} (h : ∀ x ∈ l, 0 ≤ x ∧ x ≤ 255) : bytesOf (strOfNums l) = l := by
  unfold bytesOf
  rw [strOfNums_data, List.map_map]
  have : ∀ x ∈ l, ((fun b : UInt8 => (b.toNat : Int)) ∘ fun n : Int => UInt8.ofNat n.toNat) x = x := by
    intro x hx
    have := h x hx
    simp only [Function.comp, UInt8.toNat_ofNat']
    omega
  rw [List.map_congr_left this, List.map_id']
theorem str_bl (s : ByteArray) : strOfNums (bytesOf s) = s := bl_inj (bl_str bl_range)
theorem bl_empty : bytesOf (⟨#[]⟩ : ByteArray) = [] := rfl
theorem bt_bl (s : ByteArray) (i : Int) : bt s i = rd (bytesOf s) i := (rd_bytesOf s i).symm
theorem toList_iff {s t : ByteArray} : s.toList = t.toList ↔ s = t := by
  rw [ByteArray.toList_eq, ByteArray.toList_eq]
  constructor
  · intro h; exact ByteArray.ext (by rw [← Array.toArray_toList (xs := s.data), h])
  · intro h; rw [h]
theorem toList_nil {s : ByteArray} : s.toList = ([] : List UInt8) ↔ bytesOf s = [] := by
  rw [ByteArray.toList_eq]
  unfold bytesOf
  simp

/-! ### scan -/
theorem one_bad (s : ByteArray) (a : Int) : impl_scan_one.f s a true = some (0, s, a, true) := by unfold impl_scan_one.f; rw [if_pos rfl]
theorem one_end (s : ByteArray) (a : Int) (h : a ≥ (s.size : Int)) (b : Bool) : impl_scan_one.f s a b = some (0, s, a, true) := by
  unfold impl_scan_one.f
  by_cases hb : b = true
  · rw [if_pos hb]
  · rw [if_neg hb, if_pos h]
theorem one_ok (s : ByteArray) (a : Int) (h0 : 0 ≤ a) (h : a < (s.size : Int)) (hs : s.size ≤ 9000000000000000000) : impl_scan_one.f s a false = some (bt s a, s, a + 1, false) := by
  unfold impl_scan_one.f
  have hb := bt_range s a
  rw [if_neg (by simp), if_neg (by omega), w64 (x := a + 1) (by omega) (by omega), show a + 1 - 1 = a by omega, w64 (x := a) (by omega) (by omega), if_pos h0, if_pos h, w64 (by omega) (by omega)]
theorem rest_bad (s : ByteArray) (a : Int) : impl_scan_rest.f s a true = some ((⟨#[]⟩ : ByteArray), s, a, true) := by unfold impl_scan_rest.f; rw [if_pos rfl]
theorem rest_ok (s : ByteArray) (a : Int) (h0 : 0 ≤ a) (h : a ≤ (s.size : Int)) : impl_scan_rest.f s a false = some (s.extract a.toNat s.size, s, (s.size : Int), false) := by
  unfold impl_scan_rest.f
  rw [if_neg (by simp), if_pos h0, if_pos h]
theorem done_bad (s : ByteArray) (a : Int) : impl_scan_done.f s a true = some (false, s, a, true) := by unfold impl_scan_done.f; rw [if_pos rfl]
theorem done_ok (s : ByteArray) (a : Int) : impl_scan_done.f s a false = some ((a == (s.size : Int)), s, a, false) := by unfold impl_scan_done.f; rw [if_neg (by simp)]

/-! ### readseg -/
theorem or256 (x y : Int) (hx : 0 ≤ x ∧ x ≤ 255) (hy : 0 ≤ y ∧ y ≤ 255) : Go.bits .or .i64 (x * 256) y = x * 256 + y := by
  obtain ⟨a, rfl⟩ : ∃ a : Nat, x = a := ⟨x.toNat, by omega⟩
  obtain ⟨c, rfl⟩ : ∃ c : Nat, y = c := ⟨y.toNat, by omega⟩
  have ha : a ≤ 255 := by omega
  have hc : c < 2 ^ 8 := by omega
  have e : ((a : Int) * 256) = ((2 ^ 8 * a : Nat) : Int) := by omega
  rw [e]
  simp only [Go.bits, BitVec.ofInt_natCast, BitVec.toNat_or, BitVec.toNat_ofNat, show IntKind.i64.bits = 64 from rfl]
  rw [Nat.mod_eq_of_lt (by omega), Nat.mod_eq_of_lt (by omega), ← Nat.two_pow_add_eq_or_of_lt hc, IntKind.wrap_i64]
  omega
theorem word_end (s : ByteArray) (a : Int) (h0 : 0 ≤ a) (h : a + 1 < (s.size : Int)) (hs : s.size ≤ 9000000000000000000) : impl_scan_word.f s a false = some (bt s a * 256 + bt s (a + 1), s, a + 1 + 1, false) := by
  unfold impl_scan_word.f
  have b0 := bt_range s a
  have b1 := bt_range s (a + 1)
  rw [one_ok s a h0 (by omega) hs]
  simp only [Option.bind_some]
  rw [one_ok s (a + 1) (by omega) h hs]
  simp only [Option.bind_some]
  rw [w64 (by omega) (by omega), or256 _ _ b0 b1]
theorem word_bad (s : ByteArray) (a : Int) (h0 : 0 ≤ a) (h : (s.size : Int) ≤ a + 1) (c : Bool) (hs : s.size ≤ 9000000000000000000) : ∃ v i, impl_scan_word.f s a c = some (v, s, i, true) := by
  unfold impl_scan_word.f
  cases c
  · by_cases h1 : a < (s.size : Int)
    · rw [one_ok s a h0 h1 hs]
      simp only [Option.bind_some]
      rw [one_end s (a + 1) (by omega)]
      exact ⟨_, _, rfl⟩
    · rw [one_end s a (by omega)]
      simp only [Option.bind_some]
      rw [one_bad]
      exact ⟨_, _, rfl⟩
  · rw [one_bad]
    simp only [Option.bind_some]
    rw [one_bad]
    exact ⟨_, _, rfl⟩
theorem word_true (s : ByteArray) (a : Int) : ∃ v i, impl_scan_word.f s a true = some (v, s, i, true) := by
  unfold impl_scan_word.f
  rw [one_bad]
  simp only [Option.bind_some]
  rw [one_bad]
  exact ⟨_, _, rfl⟩
def noSeg : Int × Int × Int × ByteArray × Bool := (0, 0, 0, (⟨#[]⟩ : ByteArray), false)
def readSegB (s : ByteArray) : Int × Int × Int × ByteArray × Bool :=
  if 5 ≤ s.size ∧ segB (bt s 0 * 256 + bt s 1) (bt s 2 * 256 + bt s 3) (bt s 4) (s.extract 5 s.size) = true then (bt s 0 * 256 + bt s 1, bt s 2 * 256 + bt s 3, bt s 4, s.extract 5 s.size, true) else noSeg
theorem impl_ReadSeg_eq (s : ByteArray) (hs : s.size ≤ 9000000000000000000) : impl_ReadSeg.f s = some (readSegB s) := by
  unfold impl_ReadSeg.f readSegB noSeg
  by_cases h5 : 5 ≤ s.size
  · rw [word_end s 0 (by omega) (by omega) hs]
    simp only [Option.bind_some]
    rw [word_end s (0 + 1 + 1) (by omega) (by omega) hs]
    simp only [Option.bind_some]
    rw [one_ok s (0 + 1 + 1 + 1 + 1) (by omega) (by omega) hs]
    simp only [Option.bind_some]
    rw [rest_ok s (0 + 1 + 1 + 1 + 1 + 1) (by omega) (by omega)]
    simp only [Option.bind_some, done_ok, beq_self_eq_true, if_true, impl_segOk_eq]
    have e5 : (0 + 1 + 1 + 1 + 1 + 1 : Int).toNat = 5 := rfl
    have e4 : (0 + 1 + 1 + 1 + 1 : Int) = 4 := rfl
    have e3 : (0 + 1 + 1 + 1 : Int) = 3 := rfl
    have e2 : (0 + 1 + 1 : Int) = 2 := rfl
    have e1 : (0 + 1 : Int) = 1 := rfl
    rw [e5, e4, e3, e2, e1]
    by_cases hc : segB (bt s 0 * 256 + bt s 1) (bt s 2 * 256 + bt s 3) (bt s 4) (s.extract 5 s.size) = true
    · rw [if_pos hc, if_pos ⟨h5, hc⟩]
    · rw [if_neg hc, if_neg (fun h => hc h.2)]
  · rw [if_neg (fun h => h5 h.1)]
    by_cases h2 : (s.size : Int) ≤ 0 + 1
    · obtain ⟨v, i, e⟩ := word_bad s 0 (by omega) h2 false hs
      rw [e]
      simp only [Option.bind_some]
      obtain ⟨v2, i2, e2⟩ := word_true s i
      rw [e2]
      simp [one_bad, rest_bad, done_bad]
    · rw [word_end s 0 (by omega) (by omega) hs]
      simp only [Option.bind_some]
      by_cases h4 : (s.size : Int) ≤ 0 + 1 + 1 + 1
      · obtain ⟨v, i, e⟩ := word_bad s (0 + 1 + 1) (by omega) h4 false hs
        rw [e]
        simp [one_bad, rest_bad, done_bad]
      · rw [word_end s (0 + 1 + 1) (by omega) (by omega) hs]
        simp only [Option.bind_some]
        rw [one_end s (0 + 1 + 1 + 1 + 1) (by omega)]
        simp [rest_bad, done_bad]
theorem spec_ReadSeg_eq (s : ByteArray) (hs : s.size ≤ 9000000000000000000) : ∀ k, 0 < k → spec_ReadSeg.f k s = some (readSegB s) := by
  intro k hk
  unfold spec_ReadSeg.f readSegB noSeg
  by_cases h5 : 5 ≤ s.size
  · have b0 := bt_range s 0
    have b1 := bt_range s 1
    have b2 := bt_range s 2
    have b3 := bt_range s 3
    have b4 := bt_range s 4
    rw [if_neg (by omega), if_pos (by omega), if_pos (by omega), if_pos (by omega), if_pos (by omega), if_pos (by omega), if_pos (by omega)]
    simp only [w64 (x := bt s 0) (by omega) (by omega), w64 (x := bt s 1) (by omega) (by omega), w64 (x := bt s 2) (by omega) (by omega), w64 (x := bt s 3) (by omega) (by omega), w64 (x := bt s 4) (by omega) (by omega), w64 (x := bt s 0 * 256) (by omega) (by omega), w64 (x := bt s 2 * 256) (by omega) (by omega), w64 (x := bt s 0 * 256 + bt s 1) (by omega) (by omega), w64 (x := bt s 2 * 256 + bt s 3) (by omega) (by omega), Int.mul_comm 256]
    rw [spec_segOk_eq _ _ _ _ k hk]
    simp only [Option.bind_some]
    by_cases hc : segB (bt s 0 * 256 + bt s 1) (bt s 2 * 256 + bt s 3) (bt s 4) (s.extract 5 s.size) = true
    · rw [if_pos hc, if_pos ⟨h5, hc⟩]
    · rw [if_neg hc, if_neg (fun h => hc h.2)]
  · rw [if_pos (by omega), if_neg (fun h => h5 h.1)]

/-! ### bytes -/
theorem bytes_loop (l : List Int) (hl : l.length ≤ 2000000) : ∀ (d j : Nat) (acc : List Int), l.length - j = d → j ≤ l.length → acc.length = j → ∀ k, d < k → impl_byteTexts.l0 k acc l (l.length : Int) (j : Int) = some (strOfNums (acc ++ (l.drop j).map (· % 256))) := by
  intro d
  induction d with
  | zero =>
    intro j acc hd hj ha k hk
    obtain ⟨k, rfl⟩ : ∃ m, k = m + 1 := ⟨k - 1, by omega⟩
    simp only [impl_byteTexts.l0]
    rw [if_neg (by omega), List.drop_of_length_le (by omega)]
    simp
  | succ d ih =>
    intro j acc hd hj ha k hk
    obtain ⟨k, rfl⟩ : ∃ m, k = m + 1 := ⟨k - 1, by omega⟩
    have hjl : j < l.length := by omega
    have hget : rd l (j : Int) = l[j] := by unfold rd; simp [List.getD_eq_getElem?_getD, List.getElem?_eq_getElem hjl]
    have hdrop : l.drop j = l[j] :: l.drop (j + 1) := List.drop_eq_getElem_cons hjl
    simp only [impl_byteTexts.l0]
    rw [if_pos (by omega), if_pos (by omega), if_pos (by omega), if_pos (by omega), hget, w64 (x := (j : Int) + 1) (by omega) (by omega), hdrop]
    have := ih (j + 1) (acc ++ [l[j] % 256]) (by omega) (by omega) (by rw [List.length_append, List.length_singleton]; omega) k (by omega)
    rw [List.append_assoc] at this
    exact this
theorem bytes_ok (l : List Int) (hl : l.length ≤ 2000000) : ∀ k, l.length < k → impl_byteTexts.f k l = some (strOfNums (l.map (· % 256))) := fun k hk =>
  bytes_loop l hl l.length 0 [] (by omega) (by omega) rfl k hk
theorem two_eq (n : Int) (h : 0 ≤ n ∧ n ≤ 65535) : spec_l11Two.f n = some (strOfNums [n / 256 % 256, n % 256]) := by
  unfold spec_l11Two.f
  rw [Int.tdiv_eq_ediv_of_nonneg h.1, Int.tmod_eq_emod_of_nonneg h.1, w64 (by omega) (by omega)]
  rw [show n % 256 % 256 = n % 256 by omega]
theorem word_ok (n : Int) : ∀ k, 2 < k → impl_wordText.f k n = some (strOfNums [n / 256 % 256, n % 256]) := by
  intro k hk
  unfold impl_wordText.f
  rw [bytes_ok _ (by simp) k (by simpa using hk)]
  simp only [Option.bind_some, List.map_cons, List.map_nil, and255]
  rw [show n / 256 % 256 % 256 = n / 256 % 256 by omega, show n % 256 % 256 = n % 256 by omega]

/-! ### segtext -/
def segT (n a f : Int) (s : ByteArray) : ByteArray := strOfNums [n / 256 % 256, n % 256] ++ strOfNums [a / 256 % 256, a % 256] ++ strOfNums [f % 256] ++ s
theorem spec_segText_eq (n a f : Int) (s : ByteArray) : ∀ k, 0 < k → spec_SegText.f k n a f s = some (if segB n a f s = true then (segT n a f s, true) else ((⟨#[]⟩ : ByteArray), false)) := by
  intro k hk
  unfold spec_SegText.f
  rw [spec_segOk_eq n a f s k hk]
  simp only [Option.bind_some]
  by_cases h : segB n a f s = true
  · have h' := h
    unfold segB at h'
    simp only [Bool.and_eq_true, decide_eq_true_eq, rng_iff] at h'
    rw [if_pos h, if_pos h, two_eq n h'.1.1.1.1.1, two_eq a h'.1.1.1.1.2]
    simp only [Option.bind_some, ByteArray.size_append, strOfNums_size, List.length_cons, List.length_nil]
    rw [if_pos (by omega), if_pos (by omega), if_pos (by omega)]
    rfl
  · rw [if_neg h, if_neg h]
theorem impl_segText_eq (n a f : Int) (s : ByteArray) : ∀ k, 2 < k → impl_SegText.f k n a f s = some (if segB n a f s = true then (segT n a f s, true) else ((⟨#[]⟩ : ByteArray), false)) := by
  intro k hk
  unfold impl_SegText.f
  rw [impl_segOk_eq n a f s]
  simp only [Option.bind_some]
  by_cases h : segB n a f s = true
  · have h' := h
    unfold segB at h'
    simp only [Bool.and_eq_true, decide_eq_true_eq, rng_iff] at h'
    rw [if_pos h, if_pos h, word_ok n k hk, word_ok a k hk, bytes_ok _ (by simp) k (by simp; omega)]
    simp only [Option.bind_some, ByteArray.size_append, strOfNums_size, List.length_cons, List.length_nil, List.map_cons, List.map_nil]
    rw [if_pos (by omega), if_pos (by omega), if_pos (by omega)]
    rfl
  · rw [if_neg h, if_neg h]

/-! ### draw -/
def Cur (b : List Int) (i : Int) : Prop := 0 ≤ i ∧ i ≤ (b.length : Int)
theorem new_loop (b : List Int) : ∀ (d : Nat) (i x : Int), 0 ≤ i → i ≤ 4000 → 4000 - i ≤ d → ∃ h, ∀ k, d < k → spec_l01New.l0 k b x i = some (b, 0, h) := by
  intro d
  induction d with
  | zero =>
    intro i x h0 h1 hd
    refine ⟨x, fun k hk => ?_⟩
    obtain ⟨k, rfl⟩ : ∃ m, k = m + 1 := ⟨k - 1, by omega⟩
    simp only [spec_l01New.l0]
    by_cases hl : i < (b.length : Int)
    · rw [if_pos hl, if_neg (by omega)]
    · rw [if_neg hl]
  | succ d ih =>
    intro i x h0 h1 hd
    by_cases hl : i < (b.length : Int) ∧ i < 4000
    · obtain ⟨h, ih⟩ := ih (i + 1) (Go.bits .and .i64 (wrap64 ((wrap64 ((wrap64 (x * 131)) + (wrap64 (rd b i)))) + 7)) 1073741823) (by omega) (by omega) (by omega)
      refine ⟨h, fun k hk => ?_⟩
      obtain ⟨k, rfl⟩ : ∃ m, k = m + 1 := ⟨k - 1, by omega⟩
      simp only [spec_l01New.l0]
      rw [if_pos hl.1, if_pos hl.2, if_pos h0, w64 (x := i + 1) (by omega) (by omega)]
      exact ih k (by omega)
    · refine ⟨x, fun k hk => ?_⟩
      obtain ⟨k, rfl⟩ : ∃ m, k = m + 1 := ⟨k - 1, by omega⟩
      simp only [spec_l01New.l0]
      by_cases hl2 : i < (b.length : Int)
      · rw [if_pos hl2, if_neg (by omega)]
      · rw [if_neg hl2]
theorem new_ok (b : List Int) : ∃ h, Ev (fun k => spec_l01New.f k b) (b, 0, h) := by
  obtain ⟨h, hk⟩ := new_loop b 4000 0 (wrap64 (37401 + (b.length : Int))) (by omega) (by omega) (by omega)
  exact ⟨h, 4001, fun k h1 => hk k (by omega)⟩
theorem cur_zero (b : List Int) : Cur b 0 := ⟨by omega, by omega⟩
theorem byte_ok {b : List Int} {i : Int} (h : Int) (hb : b.length ≤ 1048576) (hi : Cur b i) : ∃ v i' h', spec_l01Byte.f b i h = some (v, i', h') ∧ (0 ≤ v ∧ v ≤ 255) ∧ Cur b i' := by
  obtain ⟨h0, h1⟩ := hi
  unfold spec_l01Byte.f
  by_cases hl : i < (b.length : Int)
  · rw [if_pos hl, if_pos h0]
    refine ⟨_, _, _, rfl, ?_, ?_⟩
    · rw [and255]; omega
    · rw [w64 (by omega) (by omega)]; exact ⟨by omega, by omega⟩
  · rw [if_neg hl]
    refine ⟨_, _, _, rfl, ?_, h0, h1⟩
    rw [and255]; omega
theorem tmod_below {x n : Int} (hx : 0 ≤ x) (hn : 0 < n) : 0 ≤ Int.tmod x n ∧ Int.tmod x n < n := by
  rw [Int.tmod_eq_emod_of_nonneg hx]
  exact ⟨Int.emod_nonneg _ (by omega), Int.emod_lt_of_pos _ hn⟩
theorem below_ok {b : List Int} {i : Int} (h n : Int) (hb : b.length ≤ 1048576) (hi : Cur b i) : ∃ v i' h', spec_l01Below.f b i h n = some (v, i', h') ∧ (0 ≤ v ∧ (0 < n → v < n) ∧ (n ≤ 0 → v = 0)) ∧ Cur b i' := by
  unfold spec_l01Below.f
  by_cases hn : n ≤ 0
  · rw [if_pos hn]
    exact ⟨0, i, h, rfl, ⟨by omega, fun h => by omega, fun _ => rfl⟩, hi⟩
  · rw [if_neg hn]
    by_cases hs : n ≤ 256
    · rw [if_pos hs]
      obtain ⟨v, i', h', e, hv, hi'⟩ := byte_ok h hb hi
      rw [e]
      simp only [Option.bind_some]
      rw [if_neg (by omega)]
      have := tmod_below hv.1 (show 0 < n by omega)
      exact ⟨_, _, _, rfl, ⟨this.1, fun _ => this.2, fun h => absurd h hn⟩, hi'⟩
    · rw [if_neg hs]
      obtain ⟨v1, i1, h1, e1, hv1, hi1⟩ := byte_ok h hb hi
      rw [e1]
      simp only [Option.bind_some]
      obtain ⟨v2, i2, h2, e2, hv2, hi2⟩ := byte_ok h1 hb hi1
      rw [e2]
      simp only [Option.bind_some]
      obtain ⟨v3, i3, h3, e3, hv3, hi3⟩ := byte_ok h2 hb hi2
      rw [e3]
      simp only [Option.bind_some]
      obtain ⟨v4, i4, h4, e4, hv4, hi4⟩ := byte_ok h3 hb hi3
      rw [e4]
      simp only [Option.bind_some]
      rw [if_neg (by omega)]
      rw [w64 (x := v1 * 16777216) (by omega) (by omega), w64 (x := v2 * 65536) (by omega) (by omega), w64 (x := v3 * 256) (by omega) (by omega), w64 (x := v1 * 16777216 + v2 * 65536) (by omega) (by omega),
        w64 (x := v1 * 16777216 + v2 * 65536 + v3 * 256) (by omega) (by omega), w64 (x := v1 * 16777216 + v2 * 65536 + v3 * 256 + v4) (by omega) (by omega)]
      have := tmod_below (show 0 ≤ v1 * 16777216 + v2 * 65536 + v3 * 256 + v4 by omega) (show 0 < n by omega)
      exact ⟨_, _, _, rfl, ⟨this.1, fun _ => this.2, fun h => absurd h hn⟩, hi4⟩
theorem big_eq (b : List Int) : laws_big.f b = some (decide ((b.length : Int) > 1048576)) := rfl

/-! ### tot -/
/-- A row of calls that comes to an answer of a kind. -/
def Tot {α : Type} (g : Nat → Option α) (P : α → Prop) : Prop := ∃ r, Ev g r ∧ P r
theorem Tot.bind {α β : Type} {g : Nat → Option α} {f : Nat → α → Option β} {P : α → Prop} {Q : β → Prop} (h : Tot g P) (h2 : ∀ r, P r → Tot (fun k => f k r) Q) : Tot (fun k => (g k).bind (f k)) Q := by
  obtain ⟨r, e, hr⟩ := h
  obtain ⟨q, e2, hq⟩ := h2 r hr
  exact ⟨q, Ev.bind e e2, hq⟩
theorem Tot.ret {α : Type} {P : α → Prop} (r : α) (h : P r) : Tot (fun _ => some r) P := ⟨r, Ev.now _, h⟩
theorem Tot.step {α : Type} {F f : Nat → Option α} {P : α → Prop} (hs : ∀ k, F (k + 1) = f k) (h : Tot f P) : Tot F P := by
  obtain ⟨r, e, hr⟩ := h
  exact ⟨r, Ev.step hs e, hr⟩
theorem Tot.mono {α : Type} {g : Nat → Option α} {P Q : α → Prop} (h : Tot g P) (hpq : ∀ r, P r → Q r) : Tot g Q := by
  obtain ⟨r, e, hr⟩ := h
  exact ⟨r, e, hpq r hr⟩
theorem Tot.of_some {α : Type} {o : Option α} {P : α → Prop} (r : α) (e : o = some r) (h : P r) : Tot (fun _ => o) P := ⟨r, ⟨0, fun _ _ => e⟩, h⟩
theorem tByte {b : List Int} {i : Int} (h : Int) (hb : b.length ≤ 1048576) (hi : Cur b i) : Tot (fun _ => spec_l01Byte.f b i h) (fun r => (0 ≤ r.1 ∧ r.1 ≤ 255) ∧ Cur b r.2.1) := by
  obtain ⟨v, i', h', e, hv, hi'⟩ := byte_ok h hb hi
  exact Tot.of_some _ e ⟨hv, hi'⟩
theorem tBelow {b : List Int} {i : Int} (h n : Int) (hb : b.length ≤ 1048576) (hi : Cur b i) : Tot (fun _ => spec_l01Below.f b i h n) (fun r => (0 ≤ r.1 ∧ (0 < n → r.1 < n) ∧ (n ≤ 0 → r.1 = 0)) ∧ Cur b r.2.1) := by
  obtain ⟨v, i', h', e, hv, hi'⟩ := below_ok h n hb hi
  exact Tot.of_some _ e ⟨hv, hi'⟩
theorem rd_mem {l : List Int} {i : Int} (h0 : 0 ≤ i) (h1 : i < (l.length : Int)) : rd l i ∈ l := by
  unfold rd
  rw [List.getD_eq_getElem?_getD, List.getElem?_eq_getElem (by omega), Option.getD_some]
  exact List.getElem_mem _
theorem tPick {b : List Int} {i : Int} (h : Int) (l : List Int) (hb : b.length ≤ 1048576) (hi : Cur b i) (hl : 0 < l.length) : Tot (fun _ => spec_l01PickInt.f b i h l) (fun r => r.1 ∈ l ∧ Cur b r.2.1) := by
  obtain ⟨v, i', h', e, hv, hi'⟩ := below_ok h (l.length : Int) hb hi
  have h1 := hv.2.1 (by omega)
  refine Tot.of_some (rd l v, i', h') ?_ ⟨rd_mem hv.1 h1, hi'⟩
  unfold spec_l01PickInt.f
  rw [e]
  simp only [Option.bind_some]
  rw [if_pos hv.1, if_pos h1]
theorem tOnce {b : List Int} {i : Int} (h n : Int) (hb : b.length ≤ 1048576) (hi : Cur b i) : Tot (fun _ => spec_l01Once.f b i h n) (fun r => Cur b r.2.1) := by
  obtain ⟨v, i', h', e, _, hi'⟩ := below_ok h n hb hi
  refine Tot.of_some (v == 0, i', h') ?_ hi'
  unfold spec_l01Once.f
  rw [e]
  rfl

/-! ### text -/
theorem text_loop {b : List Int} (hb : b.length ≤ 1048576) (n : Int) (hn : n ≤ 5000) : ∀ (d : Nat) (acc : List Int) (j : Int) (i h : Int), Cur b i → (acc.length : Int) = j → n - j ≤ d → (j ≤ n ∨ j = 0) →
    Tot (fun k => spec_l01Text.l0 k n acc j b i h) (fun r => (r.1.size : Int) = mx 0 n ∧ Cur b r.2.1) := by
  intro d
  induction d with
  | zero =>
    intro acc j i h hi hl hd hj
    refine Tot.step (f := fun _ => some (strOfNums acc, i, h)) (fun k => by simp only [spec_l01Text.l0]; rw [if_neg (by omega)]) (Tot.ret _ ⟨?_, hi⟩)
    rw [strOfNums_size]
    unfold mx
    split <;> omega
  | succ d ih =>
    intro acc j i h hi hl hd hj
    by_cases hjn : j < n
    · refine Tot.step (fun k => rfl) ?_
      simp only [spec_l01Text.l0, if_pos hjn]
      refine Tot.bind (tByte h hb hi) fun r hr => ?_
      have hlen : acc.length < 140737488355328 := by omega
      simp only [if_pos hlen]
      rw [w64 (by omega) (by omega)]
      exact ih (acc ++ [r.1 % 256]) (j + 1) r.2.1 r.2.2 hr.2 (by rw [List.length_append, List.length_singleton]; omega) (by omega) (by omega)
    · refine Tot.step (f := fun _ => some (strOfNums acc, i, h)) (fun k => by simp only [spec_l01Text.l0]; rw [if_neg hjn]) (Tot.ret _ ⟨?_, hi⟩)
      rw [strOfNums_size]
      unfold mx
      split <;> omega
theorem tText {b : List Int} {i : Int} (h n : Int) (hb : b.length ≤ 1048576) (hi : Cur b i) : Tot (fun k => spec_l01Text.f k b i h n) (fun r => r.1.size ≤ 5000 ∧ (0 ≤ n → n ≤ 5000 → (r.1.size : Int) = n) ∧ Cur b r.2.1) := by
  unfold spec_l01Text.f
  by_cases hn : n > 5000
  · simp only [if_pos hn]
    refine Tot.step (f := fun k => spec_l01Text.l0 k 5000 [] 0 b i h) (fun k => rfl) ((text_loop hb 5000 (by omega) 5000 [] 0 i h hi rfl (by omega) (by omega)).mono fun r hr => ⟨?_, fun h0 h1 => absurd h1 (by omega), hr.2⟩)
    have := hr.1
    unfold mx at this
    rw [if_pos (by omega)] at this
    omega
  · simp only [if_neg hn]
    refine Tot.step (f := fun k => spec_l01Text.l0 k n [] 0 b i h) (fun k => rfl) ((text_loop hb n (by omega) 5000 [] 0 i h hi rfl (by omega) (by omega)).mono fun r hr => ?_)
    have h2 := hr.1
    unfold mx at h2
    refine ⟨?_, fun h0 h1 => ?_, hr.2⟩
    · split at h2 <;> omega
    · split at h2 <;> omega
theorem long_loop (n c : Int) (hn : n ≤ 1000000) : ∀ (d : Nat) (j : Int) (l : List Int), (l.length : Int) = n → 0 ≤ j → n - j ≤ d → j ≤ n → Tot (fun k => spec_l01Long.l0 k n c l j) (fun r => (r.size : Int) = n) := by
  intro d
  induction d with
  | zero =>
    intro j l hl h0 hd hj
    refine Tot.step (f := fun _ => some (strOfNums l)) (fun k => by simp only [spec_l01Long.l0]; rw [if_neg (by omega)]) (Tot.ret _ (by rw [strOfNums_size]; exact hl))
  | succ d ih =>
    intro j l hl h0 hd hj
    by_cases hjn : j < n
    · refine Tot.step (fun k => by simp only [spec_l01Long.l0]; rw [if_pos hjn, if_pos h0, if_pos (by omega), w64 (by omega) (by omega)]) ?_
      exact ih (j + 1) (l.set j.toNat c) (by rw [List.length_set]; exact hl) (by omega) (by omega) (by omega)
    · refine Tot.step (f := fun _ => some (strOfNums l)) (fun k => by simp only [spec_l01Long.l0]; rw [if_neg hjn]) (Tot.ret _ (by rw [strOfNums_size]; exact hl))
theorem tLong (n c : Int) (h0 : 0 ≤ n) (hn : n ≤ 1000000) : Tot (fun k => spec_l01Long.f k n c) (fun r => (r.size : Int) = n) := by
  unfold spec_l01Long.f
  simp only [if_pos h0, if_pos (show n.toNat ≤ 281474976710656 by omega)]
  exact long_loop n c hn n.toNat 0 _ (by rw [List.length_replicate]; omega) (by omega) (by omega) (by omega)

/-! ### segdraw -/
theorem has_tot (n a f : Int) (s : ByteArray) (d : Int) (hd : ¬ d = 0) : Tot (fun _ => spec_l12Has.f n a f s d) (fun _ => True) := by
  unfold spec_l12Has.f
  simp only [if_neg hd]
  exact Tot.ret _ trivial
theorem tNum {b : List Int} {i : Int} (h : Int) (hb : b.length ≤ 1048576) (hi : Cur b i) : Tot (fun _ => spec_l12Num.f b i h) (fun r => Cur b r.2.1) := by
  unfold spec_l12Num.f
  refine Tot.bind (tBelow h 65536 hb hi) fun r hr => ?_
  refine Tot.bind (tPick r.2.2 _ hb hr.2 (by simp)) fun q hq => ?_
  exact Tot.ret _ hq.2
theorem tSeg_j0 {b : List Int} {i : Int} (h : Int) (n a f : Int) (s : ByteArray) (hb : b.length ≤ 1048576) (hi : Cur b i) (hs : s.size ≤ 5000) : Tot (fun k => spec_l12Seg.j0 k b i h n a f s) (fun r => r.2.2.2.1.size ≤ 5000 ∧ Cur b r.2.2.2.2.1) := by
  refine Tot.step (fun k => rfl) ?_
  simp only [spec_l12Seg.j0]
  refine Tot.bind (has_tot n a f s 1 (by omega)) fun t _ => ?_
  by_cases ht : t = true
  · simp only [if_pos ht]
    exact Tot.ret _ ⟨hs, hi⟩
  · simp only [if_neg ht]
    refine Tot.bind (tBelow h 9 hb hi) fun r hr => ?_
    refine Tot.bind (tText r.2.2 r.1 hb hr.2) fun q hq => ?_
    exact Tot.ret _ ⟨hq.1, hq.2.2⟩
theorem tSeg {b : List Int} {i : Int} (h : Int) (hb : b.length ≤ 1048576) (hi : Cur b i) : Tot (fun k => spec_l12Seg.f k b i h) (fun r => r.2.2.2.1.size ≤ 5000 ∧ Cur b r.2.2.2.2.1) := by
  unfold spec_l12Seg.f
  refine Tot.bind (tNum h hb hi) fun r hr => ?_
  refine Tot.bind (tPick r.2.2 _ hb hr (by simp)) fun q hq => ?_
  refine Tot.bind (has_tot _ _ _ _ 2 (by omega)) fun t _ => ?_
  by_cases ht : t = true
  · simp only [if_pos ht]
    refine Tot.bind (tNum q.2.2 hb hq.2) fun u hu => ?_
    exact tSeg_j0 _ _ _ _ _ hb hu (by show 0 ≤ 5000; omega)
  · simp only [if_neg ht]
    exact tSeg_j0 _ _ _ _ _ hb hq.2 (by show 0 ≤ 5000; omega)
theorem tAnySeg {b : List Int} {i : Int} (h : Int) (hb : b.length ≤ 1048576) (hi : Cur b i) : Tot (fun k => spec_l12Any.f k b i h) (fun r => r.2.2.2.1.size ≤ 5000 ∧ Cur b r.2.2.2.2.1) := by
  unfold spec_l12Any.f
  refine Tot.bind (tSeg h hb hi) fun r hr => ?_
  refine Tot.bind (tBelow r.2.2.2.2.2 16 hb hr.2) fun q hq => ?_
  by_cases h0 : q.1 = 0
  · simp only [if_pos h0]
    refine Tot.bind (tPick q.2.2 _ hb hq.2 (by simp)) fun u hu => ?_
    exact Tot.ret _ ⟨hr.1, hu.2⟩
  · simp only [if_neg h0]
    by_cases h1 : q.1 = 1
    · simp only [if_pos h1]
      refine Tot.bind (tPick q.2.2 _ hb hq.2 (by simp)) fun u hu => ?_
      exact Tot.ret _ ⟨hr.1, hu.2⟩
    · simp only [if_neg h1]
      by_cases h2 : q.1 = 2
      · simp only [if_pos h2]
        refine Tot.bind (tBelow q.2.2 2 hb hq.2) fun u hu => ?_
        have hu1 := hu.1.2.1 (by omega)
        have hu0 := hu.1.1
        refine Tot.bind (tLong (wrap64 (8 + u.1)) 65 (by rw [w64 (by omega) (by omega)]; omega) (by rw [w64 (by omega) (by omega)]; omega)) fun v hv => ?_
        rw [w64 (by omega) (by omega)] at hv
        exact Tot.ret _ ⟨by simp only; omega, hu.2⟩
      · simp only [if_neg h2]
        by_cases h3 : q.1 = 3
        · simp only [if_pos h3]
          refine Tot.bind (tPick q.2.2 _ hb hq.2 (by simp)) fun u hu => ?_
          exact Tot.ret _ ⟨hr.1, hu.2⟩
        · simp only [if_neg h3]
          exact Tot.ret _ ⟨hr.1, hq.2⟩

/-! ### spoilt -/
theorem tSpoilt_j0 {b : List Int} {i : Int} (h : Int) (s : ByteArray) (c : Bool) (hb : b.length ≤ 1048576) (hi : Cur b i) (hs : s.size ≤ 1000000) : Tot (fun k => spec_l02Spoilt.j0 k s c b i h) (fun r => r.1.size ≤ s.size + 5000 ∧ Cur b r.2.1) := by
  refine Tot.step (fun k => rfl) ?_
  simp only [spec_l02Spoilt.j0]
  cases c
  · simp only [Bool.false_eq_true, if_false]
    exact Tot.ret _ ⟨by show s.size ≤ s.size + 5000; omega, hi⟩
  · simp only [if_true]
    by_cases h0 : (s.size : Int) > 0
    · simp only [if_pos h0]
      refine Tot.bind (tBelow h (s.size : Int) hb hi) fun r hr => ?_
      have hv := hr.1.2.1 (by omega)
      have hv0 := hr.1.1
      have hw : wrap64 (r.1 + 1) = r.1 + 1 := w64 (by omega) (by omega)
      simp only [if_pos hr.1.1, if_pos (show r.1 ≤ (s.size : Int) by omega), hw, if_pos (show (0 : Int) ≤ r.1 + 1 by omega), if_pos (show r.1 + 1 ≤ (s.size : Int) by omega)]
      refine Tot.bind (tText r.2.2 1 hb hr.2) fun q hq => ?_
      have h1 : (s.extract 0 r.1.toNat).size ≤ s.size := by rw [ByteArray.size_extract]; omega
      have h2 : (s.extract (r.1 + 1).toNat s.size).size ≤ s.size := by rw [ByteArray.size_extract]; omega
      have h4 : (s.extract 0 r.1.toNat).size + (s.extract (r.1 + 1).toNat s.size).size ≤ s.size := by rw [ByteArray.size_extract, ByteArray.size_extract]; omega
      have hq1 := hq.1
      have h3 : (s.extract 0 r.1.toNat ++ q.1).size ≤ s.size + 5000 := by rw [ByteArray.size_append]; omega
      simp only [if_pos (show (s.extract 0 r.1.toNat).size + q.1.size ≤ 9223372036854775807 by omega), if_pos (show (s.extract 0 r.1.toNat ++ q.1).size + (s.extract (r.1 + 1).toNat s.size).size ≤ 9223372036854775807 by omega)]
      exact Tot.ret _ ⟨by rw [ByteArray.size_append, ByteArray.size_append]; omega, hq.2.2⟩
    · simp only [if_neg h0]
      exact Tot.ret _ ⟨by show s.size ≤ s.size + 5000; omega, hi⟩
theorem tSpoilt {b : List Int} {i : Int} (h : Int) (s : ByteArray) (hb : b.length ≤ 1048576) (hi : Cur b i) (hs : s.size ≤ 1000000) : Tot (fun k => spec_l02Spoilt.f k b i h s) (fun r => r.1.size ≤ s.size + 5000 ∧ Cur b r.2.1) := by
  unfold spec_l02Spoilt.f
  refine Tot.bind (tBelow h 12 hb hi) fun r hr => ?_
  by_cases h0 : r.1 = 0
  · simp only [if_pos h0]
    refine Tot.bind (tText r.2.2 1 hb hr.2) fun q hq => ?_
    have hq1 := hq.1
    simp only [if_pos (show s.size + q.1.size ≤ 9223372036854775807 by omega)]
    exact Tot.ret _ ⟨by rw [ByteArray.size_append]; omega, hq.2.2⟩
  · simp only [if_neg h0]
    by_cases h1 : r.1 = 1
    · simp only [if_pos h1, w64 (x := (s.size : Int) + 1) (by omega) (by omega)]
      refine Tot.bind (tBelow r.2.2 ((s.size : Int) + 1) hb hr.2) fun q hq => ?_
      have hv := hq.1.2.1 (by omega)
      simp only [if_pos hq.1.1, if_pos (show q.1 ≤ (s.size : Int) by omega)]
      exact Tot.ret _ ⟨by rw [ByteArray.size_extract]; omega, hq.2⟩
    · simp only [if_neg h1]
      by_cases h2 : r.1 = 2
      · simp only [if_pos h2]
        exact tSpoilt_j0 _ s _ hb hr.2 hs
      · simp only [if_neg h2]
        exact tSpoilt_j0 _ s _ hb hr.2 hs

/-! ### FnSegs -/
theorem segT_size (n a f : Int) (s : ByteArray) : (segT n a f s).size = 5 + s.size := by
  unfold segT
  simp only [ByteArray.size_append, strOfNums_size, List.length_cons, List.length_nil]
theorem bt_segT (n a f : Int) (s : ByteArray) : bytesOf (segT n a f s) = [n / 256 % 256, n % 256, a / 256 % 256, a % 256, f % 256] ++ bytesOf s := by
  unfold segT
  rw [bl_app, bl_app, bl_app, bl_str (by intro x hx; simp at hx; omega), bl_str (by intro x hx; simp at hx; omega), bl_str (by intro x hx; simp at hx; omega)]
  rfl
/-- What is written and read again is what was. -/
theorem seg_back (n a f : Int) (s : ByteArray) (h : segB n a f s = true) : readSegB (segT n a f s) = (n, a, f, s, true) := by
  have h' := h
  unfold segB at h'
  simp only [Bool.and_eq_true, decide_eq_true_eq, rng_iff] at h'
  obtain ⟨⟨⟨⟨⟨hn, ha⟩, hf⟩, _⟩, _⟩, _⟩ := h'
  have hb := bt_segT n a f s
  have h0 : bt (segT n a f s) 0 = n / 256 % 256 := by rw [bt_bl, hb]; rfl
  have h1 : bt (segT n a f s) 1 = n % 256 := by rw [bt_bl, hb]; rfl
  have h2 : bt (segT n a f s) 2 = a / 256 % 256 := by rw [bt_bl, hb]; rfl
  have h3 : bt (segT n a f s) 3 = a % 256 := by rw [bt_bl, hb]; rfl
  have h4 : bt (segT n a f s) 4 = f % 256 := by rw [bt_bl, hb]; rfl
  have hx : (segT n a f s).extract 5 (segT n a f s).size = s := by
    apply bl_inj
    rw [bl_ext, hb, segT_size]
    have := bytesOf_length s
    show (bytesOf s).take (5 + s.size - 5) = bytesOf s
    rw [List.take_of_length_le (by omega)]
  unfold readSegB
  rw [h0, h1, h2, h3, h4, hx, segT_size]
  have e1 : n / 256 % 256 * 256 + n % 256 = n := by omega
  have e2 : a / 256 % 256 * 256 + a % 256 = a := by omega
  have e3 : f % 256 = f := by omega
  rw [e1, e2, e3, if_pos ⟨by omega, h⟩]
/-- What is read and written again is what was. -/
theorem seg_forth (s : ByteArray) (h : (readSegB s).2.2.2.2 = true) : segB (readSegB s).1 (readSegB s).2.1 (readSegB s).2.2.1 (readSegB s).2.2.2.1 = true ∧ segT (readSegB s).1 (readSegB s).2.1 (readSegB s).2.2.1 (readSegB s).2.2.2.1 = s := by
  by_cases hc : 5 ≤ s.size ∧ segB (bt s 0 * 256 + bt s 1) (bt s 2 * 256 + bt s 3) (bt s 4) (s.extract 5 s.size) = true
  · have e : readSegB s = (bt s 0 * 256 + bt s 1, bt s 2 * 256 + bt s 3, bt s 4, s.extract 5 s.size, true) := if_pos hc
    rw [e]
    refine ⟨hc.2, ?_⟩
    apply bl_inj
    rw [bt_segT, bl_ext]
    have b0 := bt_range s 0
    have b1 := bt_range s 1
    have b2 := bt_range s 2
    have b3 := bt_range s 3
    have b4 := bt_range s 4
    have hl := bytesOf_length s
    have e0 : (bt s 0 * 256 + bt s 1) / 256 % 256 = bt s 0 := by omega
    have e1 : (bt s 0 * 256 + bt s 1) % 256 = bt s 1 := by omega
    have e2 : (bt s 2 * 256 + bt s 3) / 256 % 256 = bt s 2 := by omega
    have e3 : (bt s 2 * 256 + bt s 3) % 256 = bt s 3 := by omega
    have e4 : bt s 4 % 256 = bt s 4 := by omega
    rw [e0, e1, e2, e3, e4, bt_bl, bt_bl, bt_bl, bt_bl, bt_bl]
    have h5 := hc.1
    match hm : bytesOf s, hl with
    | a :: b :: c :: d :: f :: l, hl =>
      simp only [List.length_cons] at hl
      show [a, b, c, d, f] ++ (List.drop 5 (a :: b :: c :: d :: f :: l)).take (s.size - 5) = _
      simp only [List.drop_succ_cons, List.drop_zero]
      rw [List.take_of_length_le (by omega)]
      rfl
    | [], hl | [_], hl | [_, _], hl | [_, _, _], hl | [_, _, _, _], hl => simp at hl; omega
  · have e : readSegB s = noSeg := if_neg hc
    rw [e] at h
    cases h
theorem FnSegs : StFnSegs.Pure := by
  intro b hb
  by_cases hbig : (b.length : Int) > 1048576
  · exact ⟨0, by unfold laws_FnSegs.f; rw [big_eq]; simp [hbig]⟩
  · have hbl : b.length ≤ 1048576 := by omega
    obtain ⟨h, hn⟩ := new_ok b
    obtain ⟨q, e1, hq⟩ : Tot (fun k => spec_DrawSegText.f k b) (fun _ => True) := by
      unfold spec_DrawSegText.f
      refine Tot.bind (P := fun r => r = (b, 0, h)) ⟨_, hn, rfl⟩ fun r hr => ?_
      subst hr
      refine Tot.bind (tAnySeg h hbl (cur_zero b)) fun r hr => ?_
      exact Tot.ret _ trivial
    obtain ⟨t, e2, ht⟩ : Tot (fun k => spec_DrawReadSeg.f k b) (fun t => t.size ≤ 1000000) := by
      unfold spec_DrawReadSeg.f
      refine Tot.bind (P := fun r => r = (b, 0, h)) ⟨_, hn, rfl⟩ fun r hr => ?_
      subst hr
      refine Tot.bind (tAnySeg h hbl (cur_zero b)) fun r hr => ?_
      refine Tot.bind (P := fun t => t.1.size ≤ 5005) ⟨_, ⟨1, fun k hk => spec_segText_eq _ _ _ _ k hk⟩, ?_⟩ fun t ht => ?_
      · split
        · rw [segT_size]; omega
        · show 0 ≤ 5005; omega
      refine Tot.bind (tOnce _ 3 hbl hr.2) fun u hu => ?_
      by_cases hu1 : u.1 = true
      · simp only [if_pos hu1]
        refine Tot.bind (tSpoilt u.2.2 t.1 hbl hu (by omega)) fun v hv => ?_
        exact Tot.ret _ (by omega)
      · simp only [if_neg hu1]
        exact Tot.ret _ (by omega)
    obtain ⟨K, hK⟩ := Ev.both e1 e2
    refine ⟨K + 3, ?_⟩
    obtain ⟨k1, k2⟩ := hK (K + 3) (by omega)
    unfold laws_FnSegs.f
    rw [big_eq]
    simp only [Option.bind_some]
    rw [if_neg (by simpa using hbig), k1]
    simp only [Option.bind_some]
    obtain ⟨n, a, f, s⟩ := q
    simp only
    rw [impl_segText_eq n a f s _ (by omega)]
    simp only [Option.bind_some]
    have hrs : (if segB n a f s = true then (segT n a f s, true) else ((⟨#[]⟩ : ByteArray), false)).1.size ≤ 9000000000000000000 := by
      split
      · rename_i hc
        unfold segB at hc
        simp only [Bool.and_eq_true, decide_eq_true_eq] at hc
        rw [segT_size]
        omega
      · show 0 ≤ 9000000000000000000; omega
    rw [impl_ReadSeg_eq _ hrs, k2]
    simp only [Option.bind_some]
    rw [impl_ReadSeg_eq t (by omega), spec_ReadSeg_eq t (by omega) _ (by omega)]
    simp only [Option.bind_some]
    rw [impl_segText_eq _ _ _ _ _ (by omega)]
    simp only [Option.bind_some]
    rw [spec_segOk_eq n a f s _ (by omega)]
    simp only [Option.bind_some, impl_segOk_eq, beq_self_eq_true, if_true]
    have hT : (if (readSegB t).2.2.2.2 = true then some (((if segB (readSegB t).1 (readSegB t).2.1 (readSegB t).2.2.1 (readSegB t).2.2.2.1 = true then (segT (readSegB t).1 (readSegB t).2.1 (readSegB t).2.2.1 (readSegB t).2.2.2.1, true) else ((⟨#[]⟩ : ByteArray), false)).1.toList == t.toList)) else some true) = some true := by
      by_cases hr : (readSegB t).2.2.2.2 = true
      · obtain ⟨h1, h2⟩ := seg_forth t hr
        rw [if_pos hr, if_pos h1, h2]
        simp
      · rw [if_neg hr]
    cases hs : segB n a f s with
    | true =>
      have hback := seg_back n a f s hs
      simp only [if_true, hback, beq_self_eq_true, Bool.and_self, hT]
    | false =>
      simp only [Bool.false_eq_true, if_false, beq_self_eq_true, if_true, hT]

end Go.Proofs.Ytjijbffecppeiaa.Pure
