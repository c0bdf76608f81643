/- The pure statement of the law 'FnExactReadSeg', proved: over numbers, lists and texts alone. No condition. -/
import Derived.Test.YtakapoionaaimaaStFnExactReadSeg
import Derived.Laws.BitsLemmas
namespace Go.Proofs.Ytakapoionaaimaa.Pure
open Go.RowKit Go.Proofs.Ytakapoionaaimaa.QFnExactReadSeg Go.Proofs.YtakapoionaaimaaW.PrintWords Go.Proofs.YtakapoionaaimaaW.PrintLast Go.Proofs.YtakapoionaaimaaW.PrintMore Go.Proofs.Ytakapoionaaimaa.StFnExactReadSeg Go.Proofs.Ytakapoionaaimaa.Opens
set_option linter.unusedVariables false
set_option linter.unusedSimpArgs false

/-! ### base -/
theorem w64 {x : Int} (h0 : -9223372036854775808 ≤ x) (h1 : x ≤ 9223372036854775807) : wrap64 x = x := by unfold wrap64; omega
theorem w64_range (x : Int) : -9223372036854775808 ≤ wrap64 x ∧ wrap64 x ≤ 9223372036854775807 := by unfold wrap64; omega
theorem ip {α : Type} {c : Prop} [Decidable c] {a b : α} (h : c) : (if c then a else b) = a := if_pos h
theorem ineg {α : Type} {c : Prop} [Decidable c] {a b : α} (h : ¬ c) : (if c then a else b) = b := if_neg h
theorem wf_range {n : Int} (h : (Lit.int .i64 n).wf = true) : -9223372036854775808 ≤ n ∧ n ≤ 9223372036854775807 := by
  simp only [Lit.wf, IntKind.min, IntKind.max, IntKind.signed, IntKind.bits, Bool.and_eq_true, decide_eq_true_eq, if_true] at h
  omega
theorem wf_u8 {n : Int} (h : (Lit.int .u8 n).wf = true) : 0 ≤ n ∧ n ≤ 255 := by
  simp [Lit.wf, IntKind.min, IntKind.max, IntKind.signed, IntKind.bits] at h
  omega
theorem and_low (x : Int) (i : Nat) (hi : i ≤ 62) : Go.bits .and .i64 x (2 ^ i - 1) = x % 2 ^ i := by
  have hpos : 0 < 2 ^ i := Nat.two_pow_pos i
  have hc : ((2 : Int) ^ i - 1) = ((2 ^ i - 1 : Nat) : Int) := by rw [Int.natCast_sub hpos]; simp
  have h62 : 2 ^ i ≤ 2 ^ 62 := Nat.pow_le_pow_right (by decide) hi
  have hlt : 2 ^ i - 1 < 2 ^ 64 := by omega
  have hd : (2 ^ i : Nat) ∣ 2 ^ 64 := Nat.pow_dvd_pow 2 (by omega)
  rw [hc]
  simp only [Go.bits, BitVec.ofInt_natCast, BitVec.toNat_and, BitVec.toNat_ofNat, BitVec.toNat_ofInt]
  simp only [show IntKind.i64.bits = 64 from rfl]
  rw [Nat.mod_eq_of_lt hlt, Nat.and_two_pow_sub_one_eq_mod]
  have h1 : (((x % ((2 ^ 64 : Nat) : Int)).toNat % 2 ^ i : Nat) : Int) = x % 2 ^ i := by
    rw [Int.natCast_emod, Int.toNat_of_nonneg (Int.emod_nonneg _ (by decide))]
    rw [Int.natCast_pow]
    exact Int.emod_emod_of_dvd _ (by
      have : (((2 ^ i : Nat) : Int)) ∣ ((2 ^ 64 : Nat) : Int) := Int.natCast_dvd_natCast.2 hd
      simpa using this)
  rw [h1]
  have h2 : 0 ≤ x % 2 ^ i := Int.emod_nonneg _ (by
    have : (0 : Int) < 2 ^ i := by exact_mod_cast hpos
    omega)
  have h3 : x % 2 ^ i < 2 ^ i := Int.emod_lt_of_pos _ (by exact_mod_cast hpos)
  have h4 : (2 : Int) ^ i ≤ 2 ^ 62 := by exact_mod_cast h62
  rw [IntKind.wrap_i64]
  omega
theorem and255 (x : Int) : Go.bits .and .i64 x 255 = x % 256 := and_low x 8 (by omega)
theorem and65535 (x : Int) : Go.bits .and .i64 x 65535 = x % 65536 := and_low x 16 (by omega)
theorem and30 (x : Int) : Go.bits .and .i64 x 1073741823 = x % 1073741824 := and_low x 30 (by omega)
theorem and1 (x : Int) : Go.bits .and .i64 x 1 = x % 2 := and_low x 1 (by omega)
/-- A law's last step: both are one. -/
theorem same_end {v : Bool} : (if (v != v) = true then some false else some true : Option Bool) = some true := by simp
theorem Ev.ex {α : Type} {g : Nat → Option α} {r : α} (h : Ev g r) : ∃ k, g k = some r := h.rounds
theorem Ev.from_ {α : Type} {g : Nat → Option α} {r : α} (K : Nat) (h : ∀ k, K ≤ k → g k = some r) : Ev g r := ⟨K, h⟩
theorem Ev.both {α β : Type} {g : Nat → Option α} {f : Nat → Option β} {r : α} {q : β} (h : Ev g r) (h' : Ev f q) : ∃ K, ∀ k, K ≤ k → g k = some r ∧ f k = some q := by
  obtain ⟨K, h⟩ := h
  obtain ⟨K', h'⟩ := h'
  exact ⟨K + K', fun k hk => ⟨h k (by omega), h' k (by omega)⟩⟩

/-! ### in -/
def rng (a b c : Int) : Bool := decide (b ≤ a) && decide (a ≤ c)
theorem rng_iff {a b c : Int} : rng a b c = true ↔ b ≤ a ∧ a ≤ c := by simp [rng]
theorem rng_false {a b c : Int} : rng a b c = false ↔ ¬ (b ≤ a ∧ a ≤ c) := by rw [← rng_iff]; simp
theorem in_eq (a b c : Int) : spec_l01In.f a b c = some (rng a b c) := by
  unfold spec_l01In.f rng
  by_cases h : b ≤ a
  · rw [if_pos h]; simp [h]
  · rw [if_neg h]; simp [h]
theorem within_eq (a b c : Int) : impl_within.f a b c = some (rng a b c) := by
  unfold impl_within.f rng
  by_cases h : b ≤ a
  · rw [if_pos h]; simp [h]
  · rw [if_neg h]; simp [h]

/-! ### segok -/
def segB (n a f : Int) (s : ByteArray) : Bool :=
  rng n 0 65535 && rng a 0 65535 && rng f 0 7 && decide (s.size ≤ 8) && (decide (s.toList = []) || decide (f % 2 = 0)) && (decide (a = 0) || decide (f / 2 % 2 = 1))
theorem and2_flag (f : Int) (h : 0 ≤ f ∧ f ≤ 7) : Go.bits .and .i64 f 2 = 2 * (f / 2 % 2) := by
  have : f = 0 ∨ f = 1 ∨ f = 2 ∨ f = 3 ∨ f = 4 ∨ f = 5 ∨ f = 6 ∨ f = 7 := by omega
  rcases this with rfl | rfl | rfl | rfl | rfl | rfl | rfl | rfl <;> decide +kernel
theorem has1_eq (n a f : Int) (s : ByteArray) (h : 0 ≤ f ∧ f ≤ 7) : spec_l12Has.f n a f s 1 = some (decide (f % 2 = 1)) := by
  unfold spec_l12Has.f
  rw [if_neg (by decide), Int.tdiv_one, w64 (by omega) (by omega), Int.tmod_eq_emod_of_nonneg h.1]
  rfl
theorem has2_eq (n a f : Int) (s : ByteArray) (h : 0 ≤ f ∧ f ≤ 7) : spec_l12Has.f n a f s 2 = some (decide (f / 2 % 2 = 1)) := by
  unfold spec_l12Has.f
  rw [if_neg (by decide), Int.tdiv_eq_ediv_of_nonneg h.1, w64 (by omega) (by omega), Int.tmod_eq_emod_of_nonneg (by omega)]
  rfl
theorem spec_segOk_eq (n a f : Int) (s : ByteArray) : ∀ k, 0 < k → spec_SegOk.f k n a f s = some (segB n a f s) := by
  intro k hk
  obtain ⟨k, rfl⟩ : ∃ m, k = m + 1 := ⟨k - 1, by omega⟩
  unfold spec_SegOk.f segB
  simp only [in_eq, Option.bind_some, spec_SegOk.j0]
  cases h1 : rng n 0 65535
  · simp
  cases h2 : rng a 0 65535
  · simp
  cases h3 : rng f 0 7
  · simp
  have hf := rng_iff.1 h3
  simp only [if_true, has1_eq n a f s hf, has2_eq n a f s hf, Option.bind_some]
  by_cases h4 : (s.size : Int) > 8
  · have : ¬ s.size ≤ 8 := by omega
    simp [h4, this]
  · have : s.size ≤ 8 := by omega
    have h01 : f % 2 = 0 ∨ f % 2 = 1 := by omega
    by_cases h5 : s.toList = [] <;> by_cases h7 : f / 2 % 2 = 1 <;> by_cases h8 : a = 0 <;> rcases h01 with h6 | h6 <;> simp [h4, this, h5, h6, h7, h8]
theorem impl_segOk_eq (n a f : Int) (s : ByteArray) : impl_SegOk.f n a f s = some (segB n a f s) := by
  unfold impl_SegOk.f impl_isWord.f segB
  simp only [within_eq, Option.bind_some]
  cases h1 : rng n 0 65535
  · simp
  cases h2 : rng a 0 65535
  · simp
  cases h3 : rng f 0 7
  · simp
  have hf := rng_iff.1 h3
  simp only [if_true, and1, and2_flag f hf]
  by_cases h4 : (s.size : Int) > 8
  · have : ¬ s.size ≤ 8 := by omega
    simp [h4, this]
  · have : s.size ≤ 8 := by omega
    have h01 : f % 2 = 0 ∨ f % 2 = 1 := by omega
    have h02 : f / 2 % 2 = 0 ∨ f / 2 % 2 = 1 := by omega
    by_cases h5 : s.toList = [] <;> by_cases h8 : a = 0 <;> rcases h01 with h6 | h6 <;> rcases h02 with h7 | h7 <;> simp [h4, this, h5, h6, h7, h8]

/-! ### bl -/
theorem bl_inj {s t : ByteArray} (h : bytesOf s = bytesOf t) : s = t := by
  unfold bytesOf at h
  have h2 : s.data.toList = t.data.toList := by
    apply List.ext_getElem?
    intro i
    have h3 := congrArg (fun l => l[i]?) h
    simp only [List.getElem?_map] at h3
    cases h4 : s.data.toList[i]? <;> cases h5 : t.data.toList[i]? <;> rw [h4, h5] at h3 <;> simp at h3 ⊢
    exact UInt8.toNat_inj.1 (by omega)
  exact ByteArray.ext (by rw [← Array.toArray_toList (xs := s.data), h2])
theorem bl_app (s t : ByteArray) : bytesOf (s ++ t) = bytesOf s ++ bytesOf t := by
  unfold bytesOf
  rw [ByteArray.toList_data_append, List.map_append]
theorem bl_ext (s : ByteArray) (a b : Nat) : bytesOf (s.extract a b) = ((bytesOf s).drop a).take (b - a) := by
  unfold bytesOf
  rw [ByteArray.data_extract, Array.toList_extract, ← List.map_drop, ← List.map_take] <;> simp [List.extract_eq_drop_take]
theorem bl_range {s : ByteArray} : ∀ x ∈ bytesOf s, 0 ≤ x ∧ x ≤ 255 := by
  intro x hx
  obtain ⟨b, _, rfl⟩ := List.mem_map.1 hx
  have := b.toNat_lt
  omega
theorem bl_str {l : List Int} (h : ∀ x ∈ l, 0 ≤ x ∧ x ≤ 255) : bytesOf (strOfNums l) = l := by
  unfold bytesOf
  rw [strOfNums_data, List.map_map]
  have : ∀ x ∈ l, ((fun b : UInt8 => (b.toNat : Int)) ∘ fun n : Int => UInt8.ofNat n.toNat) x = x := by
    intro x hx
    have := h x hx
    simp only [Function.comp, UInt8.toNat_ofNat']
    omega
  rw [List.map_congr_left this, List.map_id']
theorem str_bl (s : ByteArray) : strOfNums (bytesOf s) = s := bl_inj (bl_str bl_range)
theorem bl_empty : bytesOf (⟨#[]⟩ : ByteArray) = [] := rfl
theorem bt_bl (s : ByteArray) (i : Int) : bt s i = rd (bytesOf s) i := (rd_bytesOf s i).symm
theorem toList_iff {s t : ByteArray} : s.toList = t.toList ↔ s = t := by
  rw [ByteArray.toList_eq, ByteArray.toList_eq]
  constructor
  · intro h; exact ByteArray.ext (by rw [← Array.toArray_toList (xs := s.data), h])
  · intro h; rw [h]
theorem toList_nil {s : ByteArray} : s.toList = ([] : List UInt8) ↔ bytesOf s = [] := by
  rw [ByteArray.toList_eq]
  unfold bytesOf
  simp

/-! ### scan -/
theorem one_bad (s : ByteArray) (a : Int) : impl_scan_one.f s a true = some (0, s, a, true) := by unfold impl_scan_one.f; rw [if_pos rfl]
theorem one_end (s : ByteArray) (a : Int) (h : a ≥ (s.size : Int)) (b : Bool) : impl_scan_one.f s a b = some (0, s, a, true) := by
  unfold impl_scan_one.f
  by_cases hb : b = true
  · rw [if_pos hb]
  · rw [if_neg hb, if_pos h]
theorem one_ok (s : ByteArray) (a : Int) (h0 : 0 ≤ a) (h : a < (s.size : Int)) (hs : s.size ≤ 9000000000000000000) : impl_scan_one.f s a false = some (bt s a, s, a + 1, false) := by
  unfold impl_scan_one.f
  have hb := bt_range s a
  rw [if_neg (by simp), if_neg (by omega), w64 (x := a + 1) (by omega) (by omega), show a + 1 - 1 = a by omega, w64 (x := a) (by omega) (by omega), if_pos h0, if_pos h, w64 (by omega) (by omega)]
theorem rest_bad (s : ByteArray) (a : Int) : impl_scan_rest.f s a true = some ((⟨#[]⟩ : ByteArray), s, a, true) := by unfold impl_scan_rest.f; rw [if_pos rfl]
theorem rest_ok (s : ByteArray) (a : Int) (h0 : 0 ≤ a) (h : a ≤ (s.size : Int)) : impl_scan_rest.f s a false = some (s.extract a.toNat s.size, s, (s.size : Int), false) := by
  unfold impl_scan_rest.f
  rw [if_neg (by simp), if_pos h0, if_pos h]
theorem done_bad (s : ByteArray) (a : Int) : impl_scan_done.f s a true = some (false, s, a, true) := by unfold impl_scan_done.f; rw [if_pos rfl]
theorem done_ok (s : ByteArray) (a : Int) : impl_scan_done.f s a false = some ((a == (s.size : Int)), s, a, false) := by unfold impl_scan_done.f; rw [if_neg (by simp)]

/-! ### readseg -/
theorem or256 (x y : Int) (hx : 0 ≤ x ∧ x ≤ 255) (hy : 0 ≤ y ∧ y ≤ 255) : Go.bits .or .i64 (x * 256) y = x * 256 + y := by
  obtain ⟨a, rfl⟩ : ∃ a : Nat, x = a := ⟨x.toNat, by omega⟩
  obtain ⟨c, rfl⟩ : ∃ c : Nat, y = c := ⟨y.toNat, by omega⟩
  have ha : a ≤ 255 := by omega
  have hc : c < 2 ^ 8 := by omega
  have e : ((a : Int) * 256) = ((2 ^ 8 * a : Nat) : Int) := by omega
  rw [e]
  simp only [Go.bits, BitVec.ofInt_natCast, BitVec.toNat_or, BitVec.toNat_ofNat, show IntKind.i64.bits = 64 from rfl]
  rw [Nat.mod_eq_of_lt (by omega), Nat.mod_eq_of_lt (by omega), ← Nat.two_pow_add_eq_or_of_lt hc, IntKind.wrap_i64]
  omega
theorem word_end (s : ByteArray) (a : Int) (h0 : 0 ≤ a) (h : a + 1 < (s.size : Int)) (hs : s.size ≤ 9000000000000000000) : impl_scan_word.f s a false = some (bt s a * 256 + bt s (a + 1), s, a + 1 + 1, false) := by
  unfold impl_scan_word.f
  have b0 := bt_range s a
  have b1 := bt_range s (a + 1)
  rw [one_ok s a h0 (by omega) hs]
  simp only [Option.bind_some]
  rw [one_ok s (a + 1) (by omega) h hs]
  simp only [Option.bind_some]
  rw [w64 (by omega) (by omega), or256 _ _ b0 b1]
theorem word_bad (s : ByteArray) (a : Int) (h0 : 0 ≤ a) (h : (s.size : Int) ≤ a + 1) (c : Bool) (hs : s.size ≤ 9000000000000000000) : ∃ v i, impl_scan_word.f s a c = some (v, s, i, true) := by
  unfold impl_scan_word.f
  cases c
  · by_cases h1 : a < (s.size : Int)
    · rw [one_ok s a h0 h1 hs]
      simp only [Option.bind_some]
      rw [one_end s (a + 1) (by omega)]
      exact ⟨_, _, rfl⟩
    · rw [one_end s a (by omega)]
      simp only [Option.bind_some]
      rw [one_bad]
      exact ⟨_, _, rfl⟩
  · rw [one_bad]
    simp only [Option.bind_some]
    rw [one_bad]
    exact ⟨_, _, rfl⟩
theorem word_true (s : ByteArray) (a : Int) : ∃ v i, impl_scan_word.f s a true = some (v, s, i, true) := by
  unfold impl_scan_word.f
  rw [one_bad]
  simp only [Option.bind_some]
  rw [one_bad]
  exact ⟨_, _, rfl⟩
def noSeg : Int × Int × Int × ByteArray × Bool := (0, 0, 0, (⟨#[]⟩ : ByteArray), false)
def readSegB (s : ByteArray) : Int × Int × Int × ByteArray × Bool :=
  if 5 ≤ s.size ∧ segB (bt s 0 * 256 + bt s 1) (bt s 2 * 256 + bt s 3) (bt s 4) (s.extract 5 s.size) = true then (bt s 0 * 256 + bt s 1, bt s 2 * 256 + bt s 3, bt s 4, s.extract 5 s.size, true) else noSeg
theorem impl_ReadSeg_eq (s : ByteArray) (hs : s.size ≤ 9000000000000000000) : impl_ReadSeg.f s = some (readSegB s) := by
  unfold impl_ReadSeg.f readSegB noSeg
  by_cases h5 : 5 ≤ s.size
  · rw [word_end s 0 (by omega) (by omega) hs]
    simp only [Option.bind_some]
    rw [word_end s (0 + 1 + 1) (by omega) (by omega) hs]
    simp only [Option.bind_some]
    rw [one_ok s (0 + 1 + 1 + 1 + 1) (by omega) (by omega) hs]
    simp only [Option.bind_some]
    rw [rest_ok s (0 + 1 + 1 + 1 + 1 + 1) (by omega) (by omega)]
    simp only [Option.bind_some, done_ok, beq_self_eq_true, if_true, impl_segOk_eq]
    have e5 : (0 + 1 + 1 + 1 + 1 + 1 : Int).toNat = 5 := rfl
    have e4 : (0 + 1 + 1 + 1 + 1 : Int) = 4 := rfl
    have e3 : (0 + 1 + 1 + 1 : Int) = 3 := rfl
    have e2 : (0 + 1 + 1 : Int) = 2 := rfl
    have e1 : (0 + 1 : Int) = 1 := rfl
    rw [e5, e4, e3, e2, e1]
    by_cases hc : segB (bt s 0 * 256 + bt s 1) (bt s 2 * 256 + bt s 3) (bt s 4) (s.extract 5 s.size) = true
    · rw [if_pos hc, if_pos ⟨h5, hc⟩]
    · rw [if_neg hc, if_neg (fun h => hc h.2)]
  · rw [if_neg (fun h => h5 h.1)]
    by_cases h2 : (s.size : Int) ≤ 0 + 1
    · obtain ⟨v, i, e⟩ := word_bad s 0 (by omega) h2 false hs
      rw [e]
      simp only [Option.bind_some]
      obtain ⟨v2, i2, e2⟩ := word_true s i
      rw [e2]
      simp [one_bad, rest_bad, done_bad]
    · rw [word_end s 0 (by omega) (by omega) hs]
      simp only [Option.bind_some]
      by_cases h4 : (s.size : Int) ≤ 0 + 1 + 1 + 1
      · obtain ⟨v, i, e⟩ := word_bad s (0 + 1 + 1) (by omega) h4 false hs
        rw [e]
        simp [one_bad, rest_bad, done_bad]
      · rw [word_end s (0 + 1 + 1) (by omega) (by omega) hs]
        simp only [Option.bind_some]
        rw [one_end s (0 + 1 + 1 + 1 + 1) (by omega)]
        simp [rest_bad, done_bad]
theorem spec_ReadSeg_eq (s : ByteArray) (hs : s.size ≤ 9000000000000000000) : ∀ k, 0 < k → spec_ReadSeg.f k s = some (readSegB s) := by
  intro k hk
  unfold spec_ReadSeg.f readSegB noSeg
  by_cases h5 : 5 ≤ s.size
  · have b0 := bt_range s 0
    have b1 := bt_range s 1
    have b2 := bt_range s 2
    have b3 := bt_range s 3
    have b4 := bt_range s 4
    rw [if_neg (by omega), if_pos (by omega), if_pos (by omega), if_pos (by omega), if_pos (by omega), if_pos (by omega), if_pos (by omega)]
    simp only [w64 (x := bt s 0) (by omega) (by omega), w64 (x := bt s 1) (by omega) (by omega), w64 (x := bt s 2) (by omega) (by omega), w64 (x := bt s 3) (by omega) (by omega), w64 (x := bt s 4) (by omega) (by omega), w64 (x := bt s 0 * 256) (by omega) (by omega), w64 (x := bt s 2 * 256) (by omega) (by omega), w64 (x := bt s 0 * 256 + bt s 1) (by omega) (by omega), w64 (x := bt s 2 * 256 + bt s 3) (by omega) (by omega), Int.mul_comm 256]
    rw [spec_segOk_eq _ _ _ _ k hk]
    simp only [Option.bind_some]
    by_cases hc : segB (bt s 0 * 256 + bt s 1) (bt s 2 * 256 + bt s 3) (bt s 4) (s.extract 5 s.size) = true
    · rw [if_pos hc, if_pos ⟨h5, hc⟩]
    · rw [if_neg hc, if_neg (fun h => hc h.2)]
  · rw [if_pos (by omega), if_neg (fun h => h5 h.1)]

/-! ### FnExactReadSeg -/
theorem FnExactReadSeg : StFnExactReadSeg.Pure := by
  intro s hs
  by_cases hb : (s.size : Int) > 1048576
  · exact ⟨0, by unfold laws_FnExactReadSeg.f; rw [if_pos hb]⟩
  · refine ⟨1, ?_⟩
    unfold laws_FnExactReadSeg.f
    rw [if_neg hb, spec_ReadSeg_eq s (by omega) 1 (by omega), impl_ReadSeg_eq s (by omega)]
    simp [laws_eqSeg.f]

end Go.Proofs.Ytakapoionaaimaa.Pure
