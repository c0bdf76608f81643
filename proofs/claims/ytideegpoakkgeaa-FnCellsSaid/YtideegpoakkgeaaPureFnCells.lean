/- The pure statement of the law 'FnCells', proved: over numbers, lists and texts alone. No condition. -/
import Derived.Test.YtideegpoakkgeaaStFnCells
import Derived.Laws.BitsLemmas
import Derived.Laws.BitsAllLaws
namespace Go.Proofs.Ytideegpoakkgeaa.Pure
open Go.RowKit Go.Proofs.Ytideegpoakkgeaa.QFnCells Go.Proofs.YtideegpoakkgeaaW.PrintWords Go.Proofs.YtideegpoakkgeaaW.PrintLast Go.Proofs.YtideegpoakkgeaaW.PrintMore Go.Proofs.Ytideegpoakkgeaa.StFnCells Go.Proofs.Ytideegpoakkgeaa.Opens
set_option linter.unusedVariables false
set_option linter.unusedSimpArgs false

/-! ### base -/
theorem w64 {x : Int} (h0 : -9223372036854775808 ≤ x) (h1 : x ≤ 9223372036854775807) : wrap64 x = x := by unfold wrap64; omega
theorem w64_range (x : Int) : -9223372036854775808 ≤ wrap64 x ∧ wrap64 x ≤ 9223372036854775807 := by unfold wrap64; omega
theorem ip {α : Type} {c : Prop} [Decidable c] {a b : α} (h : c) : (if c then a else b) = a := if_pos h
theorem ineg {α : Type} {c : Prop} [Decidable c] {a b : α} (h : ¬ c) : (if c then a else b) = b := if_neg h
theorem wf_range {n : Int} (h : (Lit.int .i64 n).wf = true) : -9223372036854775808 ≤ n ∧ n ≤ 9223372036854775807 := by
  simp only [Lit.wf, IntKind.min, IntKind.max, IntKind.signed, IntKind.bits, Bool.and_eq_true, decide_eq_true_eq, if_true] at h
  omega
theorem wf_u8 {n : Int} (h : (Lit.int .u8 n).wf = true) : 0 ≤ n ∧ n ≤ 255 := by
  simp [Lit.wf, IntKind.min, IntKind.max, IntKind.signed, IntKind.bits] at h
  omega
theorem and_low (x : Int) (i : Nat) (hi : i ≤ 62) : Go.bits .and .i64 x (2 ^ i - 1) = x % 2 ^ i := by
  have hpos : 0 < 2 ^ i := Nat.two_pow_pos i
  have hc : ((2 : Int) ^ i - 1) = ((2 ^ i - 1 : Nat) : Int) := by rw [Int.natCast_sub hpos]; simp
  have h62 : 2 ^ i ≤ 2 ^ 62 := Nat.pow_le_pow_right (by decide) hi
  have hlt : 2 ^ i - 1 < 2 ^ 64 := by omega
  have hd : (2 ^ i : Nat) ∣ 2 ^ 64 := Nat.pow_dvd_pow 2 (by omega)
  rw [hc]
  simp only [Go.bits, BitVec.ofInt_natCast, BitVec.toNat_and, BitVec.toNat_ofNat, BitVec.toNat_ofInt]
  simp only [show IntKind.i64.bits = 64 from rfl]
  rw [Nat.mod_eq_of_lt hlt, Nat.and_two_pow_sub_one_eq_mod]
  have h1 : (((x % ((2 ^ 64 : Nat) : Int)).toNat % 2 ^ i : Nat) : Int) = x % 2 ^ i := by
    rw [Int.natCast_emod, Int.toNat_of_nonneg (Int.emod_nonneg _ (by decide))]
    rw [Int.natCast_pow]
    exact Int.emod_emod_of_dvd _ (by
      have : (((2 ^ i : Nat) : Int)) ∣ ((2 ^ 64 : Nat) : Int) := Int.natCast_dvd_natCast.2 hd
      simpa using this)
  rw [h1]
  have h2 : 0 ≤ x % 2 ^ i := Int.emod_nonneg _ (by
    have : (0 : Int) < 2 ^ i := by exact_mod_cast hpos
    omega)
  have h3 : x % 2 ^ i < 2 ^ i := Int.emod_lt_of_pos _ (by exact_mod_cast hpos)
  have h4 : (2 : Int) ^ i ≤ 2 ^ 62 := by exact_mod_cast h62
  rw [IntKind.wrap_i64]
  omega
theorem and255 (x : Int) : Go.bits .and .i64 x 255 = x % 256 := and_low x 8 (by omega)
theorem and65535 (x : Int) : Go.bits .and .i64 x 65535 = x % 65536 := and_low x 16 (by omega)
theorem and30 (x : Int) : Go.bits .and .i64 x 1073741823 = x % 1073741824 := and_low x 30 (by omega)
theorem and1 (x : Int) : Go.bits .and .i64 x 1 = x % 2 := and_low x 1 (by omega)
/-- A law's last step: both are one. -/
theorem same_end {v : Bool} : (if (v != v) = true then some false else some true : Option Bool) = some true := by simp
theorem Ev.ex {α : Type} {g : Nat → Option α} {r : α} (h : Ev g r) : ∃ k, g k = some r := h.rounds
theorem Ev.from_ {α : Type} {g : Nat → Option α} {r : α} (K : Nat) (h : ∀ k, K ≤ k → g k = some r) : Ev g r := ⟨K, h⟩
theorem Ev.both {α β : Type} {g : Nat → Option α} {f : Nat → Option β} {r : α} {q : β} (h : Ev g r) (h' : Ev f q) : ∃ K, ∀ k, K ≤ k → g k = some r ∧ f k = some q := by
  obtain ⟨K, h⟩ := h
  obtain ⟨K', h'⟩ := h'
  exact ⟨K + K', fun k hk => ⟨h k (by omega), h' k (by omega)⟩⟩

/-! ### in -/
def rng (a b c : Int) : Bool := decide (b ≤ a) && decide (a ≤ c)
theorem rng_iff {a b c : Int} : rng a b c = true ↔ b ≤ a ∧ a ≤ c := by simp [rng]
theorem rng_false {a b c : Int} : rng a b c = false ↔ ¬ (b ≤ a ∧ a ≤ c) := by rw [← rng_iff]; simp
theorem in_eq (a b c : Int) : spec_l01In.f a b c = some (rng a b c) := by
  unfold spec_l01In.f rng
  by_cases h : b ≤ a
  · rw [if_pos h]; simp [h]
  · rw [if_neg h]; simp [h]
theorem within_eq (a b c : Int) : impl_within.f a b c = some (rng a b c) := by
  unfold impl_within.f rng
  by_cases h : b ≤ a
  · rw [if_pos h]; simp [h]
  · rw [if_neg h]; simp [h]

/-! ### bl -/
theorem bl_inj {s t : ByteArray} (h : bytesOf s = bytesOf t) : s = t := by
  unfold bytesOf at h
  have h2 : s.data.toList = t.data.toList := by
    apply List.ext_getElem?
    intro i
    have h3 := congrArg (fun l => l[i]?) h
    simp only [List.getElem?_map] at h3
    cases h4 : s.data.toList[i]? <;> cases h5 : t.data.toList[i]? <;> rw [h4, h5] at h3 <;> simp at h3 ⊢
    exact UInt8.toNat_inj.1 (by omega)
  exact ByteArray.ext (by rw [← Array.toArray_toList (xs := s.data), h2])
theorem bl_app (s t : ByteArray) : bytesOf (s ++ t) = bytesOf s ++ bytesOf t := by
  unfold bytesOf
  rw [ByteArray.toList_data_append, List.map_append]
theorem bl_ext (s : ByteArray) (a b : Nat) : bytesOf (s.extract a b) = ((bytesOf s).drop a).take (b - a) := by
  unfold bytesOf
  rw [ByteArray.data_extract, Array.toList_extract, ← List.map_drop, ← List.map_take] <;> simp [List.extract_eq_drop_take]
theorem bl_range {s : ByteArray} : ∀ x ∈ bytesOf s, 0 ≤ x ∧ x ≤ 255 := by
  intro x hx
  obtain ⟨b, _, rfl⟩ := List.mem_map.1 hx
  have := b.toNat_lt
  omega
theorem bl_str {l : List Int} (h : ∀ x ∈ l, 0 ≤ x ∧ x ≤ 255) : bytesOf (strOfNums l) = l := by
  unfold bytesOf
  rw [strOfNums_data, List.map_map]
  have : ∀ x ∈ l, ((fun b : UInt8 => (b.toNat : Int)) ∘ fun n : Int => UInt8.ofNat n.toNat) x = x := by
    intro x hx
    have := h x hx
    simp only [Function.comp, UInt8.toNat_ofNat']
    omega
  rw [List.map_congr_left this, List.map_id']
theorem str_bl (s : ByteArray) : strOfNums (bytesOf s) = s := bl_inj (bl_str bl_range)
theorem bl_empty : bytesOf (⟨#[]⟩ : ByteArray) = [] := rfl
theorem bt_bl (s : ByteArray) (i : Int) : bt s i = rd (bytesOf s) i := (rd_bytesOf s i).symm
theorem toList_iff {s t : ByteArray} : s.toList = t.toList ↔ s = t := by
  rw [ByteArray.toList_eq, ByteArray.toList_eq]
  constructor
  · intro h; exact ByteArray.ext (by rw [← Array.toArray_toList (xs := s.data), h])
  · intro h; rw [h]
theorem toList_nil {s : ByteArray} : s.toList = ([] : List UInt8) ↔ bytesOf s = [] := by
  rw [ByteArray.toList_eq]
  unfold bytesOf
  simp

/-! ### sum -/
def bitM (x : Int) : Int := if Int.tmod x 2 = 1 then Go.bits .xor .u32 ((Int.tdiv x 2) % 4294967296) 3558460437 else (Int.tdiv x 2) % 4294967296
def bit8 (x : Int) : Int := bitM (bitM (bitM (bitM (bitM (bitM (bitM (bitM x)))))))
def sumB (s : Int) (l : List Int) : Int := l.foldl (fun s b => bit8 (Go.bits .xor .u32 s (b % 4294967296))) s
theorem xor_u32 (a b : Int) : 0 ≤ Go.bits .xor .u32 a b ∧ Go.bits .xor .u32 a b < 4294967296 := by
  simp only [Go.bits]
  rw [IntKind.wrap_u32]
  omega
theorem bitM_range (x : Int) : 0 ≤ bitM x ∧ bitM x < 4294967296 := by
  unfold bitM
  split
  · exact xor_u32 _ _
  · omega
theorem sumB_range (s : Int) (h : 0 ≤ s ∧ s < 4294967296) (l : List Int) : 0 ≤ sumB s l ∧ sumB s l < 4294967296 := by
  unfold sumB
  induction l generalizing s with
  | nil => exact h
  | cons b l ih => exact ih _ (bitM_range _)
theorem spec_bits (s : ByteArray) (i : Int) {r : Int} (x : Int) (h : Ev (fun k => spec_SumMore.l0 k (bit8 x) s (wrap64 (i + 1))) r) : Ev (fun k => spec_SumMore.l1 k x s i 0) r := by
  have step : ∀ (j : Int) (x : Int), 0 ≤ j → j < 8 → Ev (fun k => spec_SumMore.l1 k (bitM x) s i (j + 1)) r → Ev (fun k => spec_SumMore.l1 k x s i j) r := by
    intro j x h0 h1 h
    refine Ev.step (fun k => ?_) h
    simp only [spec_SumMore.l1]
    rw [if_pos h1, w64 (x := j + 1) (by omega) (by omega)]
    unfold bitM
    split <;> rfl
  refine step 0 _ (by omega) (by omega) (step 1 _ (by omega) (by omega) (step 2 _ (by omega) (by omega) (step 3 _ (by omega) (by omega) (step 4 _ (by omega) (by omega) (step 5 _ (by omega) (by omega) (step 6 _ (by omega) (by omega) (step 7 _ (by omega) (by omega) ?_)))))))
  refine Ev.step (fun k => ?_) h
  simp only [spec_SumMore.l1]
  rw [if_neg (by omega)]
  rfl
theorem spec_sum_loop (s : ByteArray) (hs : s.size ≤ 9000000000000000000) : ∀ (d j : Nat) (x : Int), s.size - j = d → j ≤ s.size → Ev (fun k => spec_SumMore.l0 k x s (j : Int)) (sumB x ((bytesOf s).drop j)) := by
  have hl := bytesOf_length s
  intro d
  induction d with
  | zero =>
    intro j x hd hj
    rw [List.drop_of_length_le (by omega)]
    refine Ev.step (f := fun _ => some x) (fun k => ?_) (Ev.now _)
    simp only [spec_SumMore.l0]
    rw [if_neg (by omega)]
  | succ d ih =>
    intro j x hd hj
    have hjl : j < (bytesOf s).length := by omega
    rw [List.drop_eq_getElem_cons hjl]
    have hb : bt s (j : Int) = (bytesOf s)[j] := by rw [bt_bl]; unfold rd; rw [List.getD_eq_getElem?_getD, Int.toNat_natCast, List.getElem?_eq_getElem hjl]; rfl
    refine Ev.step (f := fun k => spec_SumMore.l1 k (Go.bits .xor .u32 x ((bytesOf s)[j] % 4294967296)) s (j : Int) 0) (fun k => ?_) ?_
    · simp only [spec_SumMore.l0]
      rw [if_pos (by omega), if_pos (by omega), hb]
    · refine spec_bits s _ _ ?_
      rw [w64 (x := (j : Int) + 1) (by omega) (by omega)]
      exact ih (j + 1) _ (by omega) (by omega)
theorem spec_SumMore_ok (x : Int) (s : ByteArray) (hs : s.size ≤ 9000000000000000000) : Ev (fun k => spec_SumMore.f k x s) (sumB x (bytesOf s)) := spec_sum_loop s hs s.size 0 x (by omega) (by omega)
theorem spec_SumOf_ok (s : ByteArray) (hs : s.size ≤ 9000000000000000000) : Ev (fun k => spec_SumOf.f k s) (sumB 4294967295 (bytesOf s)) := Ev.bind (spec_SumMore_ok _ s hs) (Ev.now _)
theorem impl_bits (s : ByteArray) (i : Int) {r : Int} (x : Int) (h : Ev (fun k => impl_SumMore.l0 k (bit8 x) s (wrap64 (i + 1))) r) : Ev (fun k => impl_SumMore.l1 k x s i 0) r := by
  have step : ∀ (j : Int) (x : Int), 0 ≤ j → j < 8 → Ev (fun k => impl_SumMore.l1 k (bitM x) s i (j + 1)) r → Ev (fun k => impl_SumMore.l1 k x s i j) r := by
    intro j x h0 h1 h
    refine Ev.step (fun k => ?_) h
    simp only [impl_SumMore.l1]
    rw [if_pos h1, w64 (x := j + 1) (by omega) (by omega)]
    unfold bitM
    split <;> rfl
  refine step 0 _ (by omega) (by omega) (step 1 _ (by omega) (by omega) (step 2 _ (by omega) (by omega) (step 3 _ (by omega) (by omega) (step 4 _ (by omega) (by omega) (step 5 _ (by omega) (by omega) (step 6 _ (by omega) (by omega) (step 7 _ (by omega) (by omega) ?_)))))))
  refine Ev.step (fun k => ?_) h
  simp only [impl_SumMore.l1]
  rw [if_neg (by omega)]
  rfl
theorem impl_sum_loop (s : ByteArray) (hs : s.size ≤ 9000000000000000000) : ∀ (d j : Nat) (x : Int), s.size - j = d → j ≤ s.size → Ev (fun k => impl_SumMore.l0 k x s (j : Int)) (sumB x ((bytesOf s).drop j)) := by
  have hl := bytesOf_length s
  intro d
  induction d with
  | zero =>
    intro j x hd hj
    rw [List.drop_of_length_le (by omega)]
    refine Ev.step (f := fun _ => some x) (fun k => ?_) (Ev.now _)
    simp only [impl_SumMore.l0]
    rw [if_neg (by omega)]
  | succ d ih =>
    intro j x hd hj
    have hjl : j < (bytesOf s).length := by omega
    rw [List.drop_eq_getElem_cons hjl]
    have hb : bt s (j : Int) = (bytesOf s)[j] := by rw [bt_bl]; unfold rd; rw [List.getD_eq_getElem?_getD, Int.toNat_natCast, List.getElem?_eq_getElem hjl]; rfl
    refine Ev.step (f := fun k => impl_SumMore.l1 k (Go.bits .xor .u32 x ((bytesOf s)[j] % 4294967296)) s (j : Int) 0) (fun k => ?_) ?_
    · simp only [impl_SumMore.l0]
      rw [if_pos (by omega), if_pos (by omega), hb]
    · refine impl_bits s _ _ ?_
      rw [w64 (x := (j : Int) + 1) (by omega) (by omega)]
      exact ih (j + 1) _ (by omega) (by omega)
theorem impl_SumMore_ok (x : Int) (s : ByteArray) (hs : s.size ≤ 9000000000000000000) : Ev (fun k => impl_SumMore.f k x s) (sumB x (bytesOf s)) := impl_sum_loop s hs s.size 0 x (by omega) (by omega)
theorem impl_SumOf_ok (s : ByteArray) (hs : s.size ≤ 9000000000000000000) : Ev (fun k => impl_SumOf.f k s) (sumB 4294967295 (bytesOf s)) := Ev.bind (impl_SumMore_ok _ s hs) (Ev.now _)

/-! ### sealed -/
def four (x : Int) : ByteArray := strOfNums [x / 16777216 % 256, x / 65536 % 256, x / 256 % 256, x % 256]
def sumT (s : ByteArray) : ByteArray := four (sumB 4294967295 (bytesOf s))
theorem four_size (x : Int) : (four x).size = 4 := by unfold four; rw [strOfNums_size]; rfl
theorem sumT_size (s : ByteArray) : (sumT s).size = 4 := four_size _
theorem highFirst_ok (x : Int) : ∀ k, 5 < k → impl_highFirst.f k x 4 = some (four x) := by
  intro k hk
  obtain ⟨k, rfl⟩ : ∃ m, k = m + 5 := ⟨k - 5, by omega⟩
  unfold impl_highFirst.f
  rw [if_pos (by omega), if_pos (by decide), w64 (by omega) (by omega)]
  have h3 : List.replicate (4 : Int).toNat (0 : Int) = [0, 0, 0, 0] := rfl
  rw [h3]
  simp only [impl_highFirst.l0, and255]
  rw [if_pos (by omega), if_pos (by omega), if_pos (by simp), w64 (x := (4 - 1 : Int) - 1) (by omega) (by omega)]
  rw [if_pos (by omega), if_pos (by omega), if_pos (by simp), w64 (x := (4 - 1 : Int) - 1 - 1) (by omega) (by omega)]
  rw [if_pos (by omega), if_pos (by omega), if_pos (by simp), w64 (x := (4 - 1 : Int) - 1 - 1 - 1) (by omega) (by omega)]
  rw [if_pos (by omega), if_pos (by omega), if_pos (by simp), w64 (x := (4 - 1 : Int) - 1 - 1 - 1 - 1) (by omega) (by omega)]
  rw [if_neg (by omega)]
  have e : ((([(0 : Int), 0, 0, 0].set ((4 - 1 : Int)).toNat (x % 256 % 256)).set ((4 - 1 : Int) - 1).toNat (x / 256 % 256 % 256)).set ((4 - 1 : Int) - 1 - 1).toNat (x / 256 / 256 % 256 % 256)).set ((4 - 1 : Int) - 1 - 1 - 1).toNat (x / 256 / 256 / 256 % 256 % 256) = [x / 256 / 256 / 256 % 256 % 256, x / 256 / 256 % 256 % 256, x / 256 % 256 % 256, x % 256 % 256] := rfl
  rw [e]
  unfold four
  congr 2
  have h1 : x / 256 / 256 / 256 % 256 % 256 = x / 16777216 % 256 := by omega
  have h2 : x / 256 / 256 % 256 % 256 = x / 65536 % 256 := by omega
  have h4 : x / 256 % 256 % 256 = x / 256 % 256 := by omega
  have h5 : x % 256 % 256 = x % 256 := by omega
  rw [h1, h2, h4, h5]
theorem l02Four_eq (x : Int) : spec_l02Four.f x = some (four x) := rfl
theorem impl_Sealed_ok (s : ByteArray) : ∃ K, ∀ k, K ≤ k → impl_Sealed.f k s = some (if s.size ≤ 20000 then (s ++ sumT s, true) else ((⟨#[]⟩ : ByteArray), false)) := by
  by_cases h : s.size ≤ 20000
  · obtain ⟨K, hK⟩ := impl_SumOf_ok s (by omega)
    refine ⟨K + 6, fun k hk => ?_⟩
    have hr := sumB_range 4294967295 (by omega) (bytesOf s)
    have hK' : impl_SumOf.f k s = some (sumB 4294967295 (bytesOf s)) := hK k (by omega)
    unfold impl_Sealed.f
    rw [if_neg (by omega), hK']
    simp only [Option.bind_some]
    rw [w64 (by omega) (by omega), highFirst_ok _ k (by omega)]
    simp only [Option.bind_some]
    rw [if_pos (by rw [four_size]; omega), if_pos h]
    rfl
  · refine ⟨0, fun k _ => ?_⟩
    unfold impl_Sealed.f
    rw [if_pos (by omega), if_neg h]
theorem spec_Sealed_ok (s : ByteArray) : ∃ K, ∀ k, K ≤ k → spec_Sealed.f k s = some (if s.size ≤ 20000 then (s ++ sumT s, true) else ((⟨#[]⟩ : ByteArray), false)) := by
  by_cases h : s.size ≤ 20000
  · obtain ⟨K, hK⟩ := spec_SumOf_ok s (by omega)
    refine ⟨K, fun k hk => ?_⟩
    have hK' : spec_SumOf.f k s = some (sumB 4294967295 (bytesOf s)) := hK k (by omega)
    unfold spec_Sealed.f
    rw [if_neg (by omega), hK']
    simp only [Option.bind_some, l02Four_eq]
    rw [if_pos (by rw [four_size]; omega), if_pos h]
    rfl
  · refine ⟨0, fun k _ => ?_⟩
    unfold spec_Sealed.f
    rw [if_pos (by omega), if_neg h]
/-- What is Unsealed. -/
def unB (s : ByteArray) : ByteArray × Bool :=
  if 4 ≤ s.size ∧ s.size ≤ 20004 ∧ s.extract (s.size - 4) s.size = sumT (s.extract 0 (s.size - 4)) then (s.extract 0 (s.size - 4), true) else ((⟨#[]⟩ : ByteArray), false)
theorem split_at (s : ByteArray) (n : Nat) (h : n ≤ s.size) : s.extract 0 n ++ s.extract n s.size = s := by
  rw [ByteArray.extract_append_extract]
  rw [Nat.min_eq_left (Nat.zero_le _), Nat.max_eq_right h, ByteArray.extract_zero_size]
theorem spec_Unsealed_ok (s : ByteArray) (hs : s.size ≤ 9000000000000000000) : ∃ K, ∀ k, K ≤ k → spec_Unsealed.f k s = some (unB s) := by
  by_cases h4 : 4 ≤ s.size
  · have e : wrap64 ((s.size : Int) - 4) = ((s.size - 4 : Nat) : Int) := by rw [w64 (by omega) (by omega)]; omega
    by_cases h5 : s.size ≤ 20004
    · have hx : (s.extract 0 (s.size - 4)).size = s.size - 4 := by rw [ByteArray.size_extract]; omega
      obtain ⟨K, hK⟩ := spec_SumOf_ok (s.extract 0 (s.size - 4)) (by omega)
      refine ⟨K, fun k hk => ?_⟩
      have hK' : spec_SumOf.f k (s.extract 0 (s.size - 4)) = some (sumB 4294967295 (bytesOf (s.extract 0 (s.size - 4)))) := hK k (by omega)
      unfold spec_Unsealed.f
      rw [e, Int.toNat_natCast, if_neg (by omega), if_neg (by omega), if_pos (by omega), if_pos (by omega), hK']
      simp only [Option.bind_some, l02Four_eq]
      rw [show four (sumB 4294967295 (bytesOf (s.extract 0 (s.size - 4)))) = sumT (s.extract 0 (s.size - 4)) from rfl]
      unfold unB
      by_cases hc : s.extract (s.size - 4) s.size = sumT (s.extract 0 (s.size - 4))
      · rw [if_pos (toList_iff.2 hc), if_pos ⟨h4, h5, hc⟩]
      · rw [if_neg (fun h => hc (toList_iff.1 h)), if_neg (fun h => hc h.2.2)]
    · refine ⟨0, fun k _ => ?_⟩
      unfold spec_Unsealed.f unB
      rw [e, if_neg (by omega), if_pos (by omega), if_neg (fun h => h5 h.2.1)]
  · refine ⟨0, fun k _ => ?_⟩
    unfold spec_Unsealed.f unB
    rw [w64 (by omega) (by omega), if_pos (by omega), if_neg (fun h => h4 h.1)]
theorem impl_Unsealed_ok (s : ByteArray) (hs : s.size ≤ 9000000000000000000) : ∃ K, ∀ k, K ≤ k → impl_Unsealed.f k s = some (unB s) := by
  by_cases h4 : 4 ≤ s.size
  · have e : wrap64 ((s.size : Int) - 4) = ((s.size - 4 : Nat) : Int) := by rw [w64 (by omega) (by omega)]; omega
    have hx : (s.extract 0 (s.size - 4)).size = s.size - 4 := by rw [ByteArray.size_extract]; omega
    obtain ⟨K, hK⟩ := impl_Sealed_ok (s.extract 0 (s.size - 4))
    refine ⟨K, fun k hk => ?_⟩
    unfold impl_Unsealed.f
    rw [e, Int.toNat_natCast, if_neg (by omega), if_pos (by omega), if_pos (by omega), hK k (by omega)]
    simp only [Option.bind_some]
    by_cases h5 : s.size ≤ 20004
    · rw [if_pos (show (s.extract 0 (s.size - 4)).size ≤ 20000 by omega)]
      have hsp := split_at s (s.size - 4) (by omega)
      have hiff : (s.extract 0 (s.size - 4) ++ sumT (s.extract 0 (s.size - 4)) = s) ↔ s.extract (s.size - 4) s.size = sumT (s.extract 0 (s.size - 4)) := by
        constructor
        · intro h; exact ((ByteArray.append_right_inj _).1 (h.trans hsp.symm)).symm
        · intro h; rw [← h]; exact hsp
      by_cases hc : s.extract (s.size - 4) s.size = sumT (s.extract 0 (s.size - 4))
      · have hu : unB s = (s.extract 0 (s.size - 4), true) := by unfold unB; exact if_pos ⟨h4, h5, hc⟩
        rw [hu]
        simp [toList_iff, hiff.2 hc]
      · have hu : unB s = ((⟨#[]⟩ : ByteArray), false) := by unfold unB; exact if_neg (fun h => hc h.2.2)
        rw [hu]
        have hn : ¬ (s.extract 0 (s.size - 4) ++ sumT (s.extract 0 (s.size - 4)) = s) := fun h => hc (hiff.1 h)
        simp [toList_iff, hn]
    · have hu : unB s = ((⟨#[]⟩ : ByteArray), false) := by unfold unB; exact if_neg (fun h => h5 h.2.1)
      rw [if_neg (show ¬ (s.extract 0 (s.size - 4)).size ≤ 20000 by omega), hu]
      simp
  · refine ⟨0, fun k _ => ?_⟩
    unfold impl_Unsealed.f unB
    rw [w64 (by omega) (by omega), if_pos (by omega), if_neg (fun h => h4 h.1)]

/-! ### scan -/
theorem one_bad (s : ByteArray) (a : Int) : impl_scan_one.f s a true = some (0, s, a, true) := by unfold impl_scan_one.f; rw [if_pos rfl]
theorem one_end (s : ByteArray) (a : Int) (h : a ≥ (s.size : Int)) (b : Bool) : impl_scan_one.f s a b = some (0, s, a, true) := by
  unfold impl_scan_one.f
  by_cases hb : b = true
  · rw [if_pos hb]
  · rw [if_neg hb, if_pos h]
theorem one_ok (s : ByteArray) (a : Int) (h0 : 0 ≤ a) (h : a < (s.size : Int)) (hs : s.size ≤ 9000000000000000000) : impl_scan_one.f s a false = some (bt s a, s, a + 1, false) := by
  unfold impl_scan_one.f
  have hb := bt_range s a
  rw [if_neg (by simp), if_neg (by omega), w64 (x := a + 1) (by omega) (by omega), show a + 1 - 1 = a by omega, w64 (x := a) (by omega) (by omega), if_pos h0, if_pos h, w64 (by omega) (by omega)]
theorem rest_bad (s : ByteArray) (a : Int) : impl_scan_rest.f s a true = some ((⟨#[]⟩ : ByteArray), s, a, true) := by unfold impl_scan_rest.f; rw [if_pos rfl]
theorem rest_ok (s : ByteArray) (a : Int) (h0 : 0 ≤ a) (h : a ≤ (s.size : Int)) : impl_scan_rest.f s a false = some (s.extract a.toNat s.size, s, (s.size : Int), false) := by
  unfold impl_scan_rest.f
  rw [if_neg (by simp), if_pos h0, if_pos h]
theorem done_bad (s : ByteArray) (a : Int) : impl_scan_done.f s a true = some (false, s, a, true) := by unfold impl_scan_done.f; rw [if_pos rfl]
theorem done_ok (s : ByteArray) (a : Int) : impl_scan_done.f s a false = some ((a == (s.size : Int)), s, a, false) := by unfold impl_scan_done.f; rw [if_neg (by simp)]

/-! ### cell -/
def cellB (a b c : Int) (s : ByteArray) : Bool := rng a 0 99 && rng b 1 99 && rng c 1 3 && decide (s.size ≤ 60)
theorem spec_CellOk_eq (a b c : Int) (s : ByteArray) : spec_CellOk.f a b c s = some (cellB a b c s) := by
  unfold spec_CellOk.f cellB
  simp only [in_eq, Option.bind_some]
  have h : ((s.size : Int) ≤ 60) ↔ s.size ≤ 60 := by omega
  cases rng a 0 99 <;> cases rng b 1 99 <;> cases rng c 1 3 <;> simp [h]
theorem impl_CellOk_eq (a b c : Int) (s : ByteArray) : impl_CellOk.f a b c s = some (cellB a b c s) := by
  unfold impl_CellOk.f impl_isAddr.f cellB
  simp only [within_eq, Option.bind_some]
  have h : ((s.size : Int) ≤ 60) ↔ s.size ≤ 60 := by omega
  cases rng a 0 99 <;> cases rng b 1 99 <;> cases rng c 1 3 <;> simp [h]
def noCell : Int × Int × Int × ByteArray × Bool := (0, 0, 0, (⟨#[]⟩ : ByteArray), false)
/-- The frame that bytes are, when they are one. -/
def readCellB (s : ByteArray) : Int × Int × Int × ByteArray × Bool :=
  if (unB s).2 = true ∧ 3 ≤ (unB s).1.size ∧ cellB (bt (unB s).1 0) (bt (unB s).1 1) (bt (unB s).1 2) ((unB s).1.extract 3 (unB s).1.size) = true then
    (bt (unB s).1 0, bt (unB s).1 1, bt (unB s).1 2, (unB s).1.extract 3 (unB s).1.size, true) else noCell
theorem unB_size (s : ByteArray) : (unB s).1.size ≤ 20000 := by
  unfold unB
  split
  · rename_i h; simp only [ByteArray.size_extract]; omega
  · simp; decide
theorem spec_ReadCell_ok (s : ByteArray) (hs : s.size ≤ 9000000000000000000) : ∃ K, ∀ k, K ≤ k → spec_ReadCell.f k s = some (readCellB s) := by
  obtain ⟨K, hK⟩ := spec_Unsealed_ok s hs
  refine ⟨K + 1, fun k hk => ?_⟩
  obtain ⟨m, rfl⟩ : ∃ m, k = m + 1 := ⟨k - 1, by omega⟩
  have hsz := unB_size s
  unfold spec_ReadCell.f readCellB noCell
  rw [hK _ (by omega)]
  simp only [Option.bind_some, spec_ReadCell.j0]
  generalize unB s = u at *
  obtain ⟨t, b⟩ := u
  simp only at hsz ⊢
  cases b
  · simp
  · simp only [if_true, true_and]
    by_cases h3 : 3 ≤ t.size
    · have b0 := bt_range t 0
      have b1 := bt_range t 1
      have b2 := bt_range t 2
      rw [if_neg (by simp; omega), if_pos (by omega), if_pos (by omega), if_pos (by omega), if_pos (by omega), w64 (x := bt t 0) (by omega) (by omega), w64 (x := bt t 1) (by omega) (by omega), w64 (x := bt t 2) (by omega) (by omega), spec_CellOk_eq]
      simp only [Option.bind_some]
      by_cases hc : cellB (bt t 0) (bt t 1) (bt t 2) (t.extract 3 t.size) = true
      · rw [if_pos hc, if_pos ⟨h3, hc⟩]
      · rw [if_neg hc, if_neg (fun h => hc h.2)]
    · rw [if_pos (by simp; omega), if_neg (fun h => h3 h.1)]
theorem impl_ReadCell_ok (s : ByteArray) (hs : s.size ≤ 9000000000000000000) : ∃ K, ∀ k, K ≤ k → impl_ReadCell.f k s = some (readCellB s) := by
  obtain ⟨K, hK⟩ := impl_Unsealed_ok s hs
  refine ⟨K, fun k hk => ?_⟩
  have hsz := unB_size s
  unfold impl_ReadCell.f readCellB noCell
  rw [hK _ (by omega)]
  simp only [Option.bind_some]
  generalize unB s = u at *
  obtain ⟨t, b⟩ := u
  simp only at hsz ⊢
  cases b
  · simp [one_bad, rest_bad, done_bad]
  · simp only [Bool.not_true, true_and]
    by_cases h3 : 3 ≤ t.size
    · rw [one_ok t 0 (by omega) (by omega) (by omega)]
      simp only [Option.bind_some]
      rw [one_ok t (0 + 1) (by omega) (by omega) (by omega)]
      simp only [Option.bind_some]
      rw [one_ok t (0 + 1 + 1) (by omega) (by omega) (by omega)]
      simp only [Option.bind_some]
      rw [rest_ok t (0 + 1 + 1 + 1) (by omega) (by omega)]
      simp only [Option.bind_some, done_ok, beq_self_eq_true, if_true, impl_CellOk_eq]
      have e3 : (0 + 1 + 1 + 1 : Int).toNat = 3 := rfl
      have e1 : (0 + 1 : Int) = 1 := rfl
      have e2 : (0 + 1 + 1 : Int) = 2 := rfl
      rw [e3, e2, e1]
      by_cases hc : cellB (bt t 0) (bt t 1) (bt t 2) (t.extract 3 t.size) = true
      · rw [if_pos hc, if_pos ⟨h3, hc⟩]
      · rw [if_neg hc, if_neg (fun h => hc h.2)]
    · rw [if_neg (fun h => h3 h.1)]
      by_cases h1 : t.size = 0
      · rw [one_end t 0 (by omega)]
        simp [one_bad, rest_bad, done_bad]
      · rw [one_ok t 0 (by omega) (by omega) (by omega)]
        simp only [Option.bind_some]
        by_cases h2 : t.size = 1
        · rw [one_end t (0 + 1) (by omega)]
          simp [one_bad, rest_bad, done_bad]
        · rw [one_ok t (0 + 1) (by omega) (by omega) (by omega)]
          simp only [Option.bind_some]
          rw [one_end t (0 + 1 + 1) (by omega)]
          simp [rest_bad, done_bad]

/-! ### bytes -/
theorem bytes_loop (l : List Int) (hl : l.length ≤ 2000000) : ∀ (d j : Nat) (acc : List Int), l.length - j = d → j ≤ l.length → acc.length = j → ∀ k, d < k → impl_byteTexts.l0 k acc l (l.length : Int) (j : Int) = some (strOfNums (acc ++ (l.drop j).map (· % 256))) := by
  intro d
  induction d with
  | zero =>
    intro j acc hd hj ha k hk
    obtain ⟨k, rfl⟩ : ∃ m, k = m + 1 := ⟨k - 1, by omega⟩
    simp only [impl_byteTexts.l0]
    rw [if_neg (by omega), List.drop_of_length_le (by omega)]
    simp
  | succ d ih =>
    intro j acc hd hj ha k hk
    obtain ⟨k, rfl⟩ : ∃ m, k = m + 1 := ⟨k - 1, by omega⟩
    have hjl : j < l.length := by omega
    have hget : rd l (j : Int) = l[j] := by unfold rd; simp [List.getD_eq_getElem?_getD, List.getElem?_eq_getElem hjl]
    have hdrop : l.drop j = l[j] :: l.drop (j + 1) := List.drop_eq_getElem_cons hjl
    simp only [impl_byteTexts.l0]
    rw [if_pos (by omega), if_pos (by omega), if_pos (by omega), if_pos (by omega), hget, w64 (x := (j : Int) + 1) (by omega) (by omega), hdrop]
    have := ih (j + 1) (acc ++ [l[j] % 256]) (by omega) (by omega) (by rw [List.length_append, List.length_singleton]; omega) k (by omega)
    rw [List.append_assoc] at this
    exact this
theorem bytes_ok (l : List Int) (hl : l.length ≤ 2000000) : ∀ k, l.length < k → impl_byteTexts.f k l = some (strOfNums (l.map (· % 256))) := fun k hk =>
  bytes_loop l hl l.length 0 [] (by omega) (by omega) rfl k hk

/-! ### celltext -/
theorem spec_CellText_ok (a b c : Int) (s : ByteArray) : ∃ K, ∀ k, K ≤ k → spec_CellText.f k a b c s = some (if cellB a b c s = true then (strOfNums [a % 256, b % 256, c % 256] ++ s ++ sumT (strOfNums [a % 256, b % 256, c % 256] ++ s), true) else ((⟨#[]⟩ : ByteArray), false)) := by
  by_cases h : cellB a b c s = true
  · have hs : s.size ≤ 60 := by
      unfold cellB at h
      simp only [Bool.and_eq_true, decide_eq_true_eq] at h
      exact h.2
    have hz : (strOfNums [a % 256, b % 256, c % 256]).size = 3 := by rw [strOfNums_size]; rfl
    obtain ⟨K, hK⟩ := spec_Sealed_ok (strOfNums [a % 256, b % 256, c % 256] ++ s)
    refine ⟨K, fun k hk => ?_⟩
    unfold spec_CellText.f
    rw [spec_CellOk_eq]
    simp only [Option.bind_some]
    rw [if_pos h, if_pos (by omega), hK k hk, if_pos (by rw [ByteArray.size_append]; omega), if_pos h]
    rfl
  · refine ⟨0, fun k _ => ?_⟩
    unfold spec_CellText.f
    rw [spec_CellOk_eq]
    simp only [Option.bind_some]
    rw [if_neg h, if_neg h]
theorem impl_CellText_ok (a b c : Int) (s : ByteArray) : ∃ K, ∀ k, K ≤ k → impl_CellText.f k a b c s = some (if cellB a b c s = true then (strOfNums [a % 256, b % 256, c % 256] ++ s ++ sumT (strOfNums [a % 256, b % 256, c % 256] ++ s), true) else ((⟨#[]⟩ : ByteArray), false)) := by
  by_cases h : cellB a b c s = true
  · have hs : s.size ≤ 60 := by
      unfold cellB at h
      simp only [Bool.and_eq_true, decide_eq_true_eq] at h
      exact h.2
    have hz : (strOfNums [a % 256, b % 256, c % 256]).size = 3 := by rw [strOfNums_size]; rfl
    obtain ⟨K, hK⟩ := impl_Sealed_ok (strOfNums [a % 256, b % 256, c % 256] ++ s)
    refine ⟨K + 4, fun k hk => ?_⟩
    unfold impl_CellText.f
    rw [impl_CellOk_eq]
    simp only [Option.bind_some]
    rw [if_pos h, bytes_ok _ (by simp) k (by simp only [List.length_cons, List.length_nil]; omega)]
    simp only [Option.bind_some, List.map_cons, List.map_nil]
    rw [if_pos (by omega), hK k (by omega), if_pos (by rw [ByteArray.size_append]; omega), if_pos h]
    rfl
  · refine ⟨0, fun k _ => ?_⟩
    unfold impl_CellText.f
    rw [impl_CellOk_eq]
    simp only [Option.bind_some]
    rw [if_neg h, if_neg h]

/-! ### sumbent -/
theorem nat_xor_cancel {a b c : Nat} (h : a ^^^ c = b ^^^ c) : a = b := by
  have h2 := congrArg (· ^^^ c) h
  simpa [Nat.xor_assoc, Nat.xor_self, Nat.xor_zero] using h2
theorem nat_xor_self {a b : Nat} (h : a ^^^ b = a) : b = 0 := by
  have h2 := congrArg (a ^^^ ·) h
  simpa [← Nat.xor_assoc, Nat.xor_self, Nat.zero_xor] using h2
theorem bitM_inj {x y : Int} (hx : 0 ≤ x ∧ x < 4294967296) (hy : 0 ≤ y ∧ y < 4294967296) (h : bitM x = bitM y) : x = y := by
  unfold bitM at h
  rw [Int.tmod_eq_emod_of_nonneg hx.1, Int.tmod_eq_emod_of_nonneg hy.1, Int.tdiv_eq_ediv_of_nonneg hx.1, Int.tdiv_eq_ediv_of_nonneg hy.1, show x / 2 % 4294967296 = x / 2 by omega, show y / 2 % 4294967296 = y / 2 by omega] at h
  have big : ∀ n m : Nat, n < 2147483648 → m < 2147483648 → n ^^^ 3558460437 ≠ m := by
    intro n m hn hm he
    have h1 : n ^^^ (n ^^^ 3558460437) = 3558460437 := by rw [← Nat.xor_assoc, Nat.xor_self, Nat.zero_xor]
    have h2 : n ^^^ m < 2 ^ 31 := Nat.xor_lt_two_pow (by omega) (by omega)
    rw [← he, h1] at h2
    omega
  by_cases h1 : x % 2 = 1
  · rw [if_pos h1, Go.u32_xor _ _ (by omega) (by omega) (by omega) (by omega)] at h
    by_cases h2 : y % 2 = 1
    · rw [if_pos h2, Go.u32_xor _ _ (by omega) (by omega) (by omega) (by omega)] at h
      have := nat_xor_cancel (Int.ofNat.inj h)
      omega
    · rw [if_neg h2] at h
      exact absurd (show (x / 2).toNat ^^^ (3558460437 : Int).toNat = (y / 2).toNat by omega) (big _ _ (by omega) (by omega))
  · rw [if_neg h1] at h
    by_cases h2 : y % 2 = 1
    · rw [if_pos h2, Go.u32_xor _ _ (by omega) (by omega) (by omega) (by omega)] at h
      exact absurd (show (y / 2).toNat ^^^ (3558460437 : Int).toNat = (x / 2).toNat by omega) (big _ _ (by omega) (by omega))
    · rw [if_neg h2] at h
      omega
theorem bit8_inj {x y : Int} (hx : 0 ≤ x ∧ x < 4294967296) (hy : 0 ≤ y ∧ y < 4294967296) (h : bit8 x = bit8 y) : x = y := by
  unfold bit8 at h
  have g := fun a b => bitM_inj (bitM_range a) (bitM_range b)
  exact bitM_inj hx hy (g _ _ (g _ _ (g _ _ (g _ _ (g _ _ (g _ _ (g _ _ h)))))))
def stepB (s b : Int) : Int := bit8 (Go.bits .xor .u32 s (b % 4294967296))
theorem stepB_range (s b : Int) : 0 ≤ stepB s b ∧ stepB s b < 4294967296 := bitM_range _
theorem stepB_state {s t b : Int} (hs : 0 ≤ s ∧ s < 4294967296) (ht : 0 ≤ t ∧ t < 4294967296) (h : stepB s b = stepB t b) : s = t := by
  have := bit8_inj (xor_u32 _ _) (xor_u32 _ _) h
  rw [Go.u32_xor _ _ hs.1 hs.2 (by omega) (by omega), Go.u32_xor _ _ ht.1 ht.2 (by omega) (by omega)] at this
  have := nat_xor_cancel (Int.ofNat.inj this)
  omega
theorem stepB_byte {s b c : Int} (hs : 0 ≤ s ∧ s < 4294967296) (hb : 0 ≤ b ∧ b ≤ 255) (hc : 0 ≤ c ∧ c ≤ 255) (h : stepB s b = stepB s c) : b = c := by
  have := bit8_inj (xor_u32 _ _) (xor_u32 _ _) h
  rw [Go.u32_xor _ _ hs.1 hs.2 (by omega) (by omega), Go.u32_xor _ _ hs.1 hs.2 (by omega) (by omega)] at this
  have h2 := Int.ofNat.inj this
  rw [Nat.xor_comm, Nat.xor_comm s.toNat] at h2
  have := nat_xor_cancel h2
  omega
theorem sumB_cons (s b : Int) (l : List Int) : sumB s (b :: l) = sumB (stepB s b) l := by simp only [sumB, List.foldl_cons, stepB]
theorem sumB_state : ∀ (l : List Int) (s t : Int), 0 ≤ s ∧ s < 4294967296 → 0 ≤ t ∧ t < 4294967296 → sumB s l = sumB t l → s = t := by
  intro l
  induction l with
  | nil => intro s t _ _ h; exact h
  | cons b l ih =>
    intro s t hs ht h
    rw [sumB_cons, sumB_cons] at h
    exact stepB_state hs ht (ih _ _ (stepB_range _ _) (stepB_range _ _) h)
/-- Another byte: another sum. -/
theorem sumB_set : ∀ (l : List Int) (i : Nat) (v s : Int), 0 ≤ s ∧ s < 4294967296 → (∀ x ∈ l, 0 ≤ x ∧ x ≤ 255) → 0 ≤ v ∧ v ≤ 255 → (hi : i < l.length) → v ≠ l[i] → sumB s (l.set i v) ≠ sumB s l := by
  intro l
  induction l with
  | nil => intro i v s _ _ _ hi; simp at hi
  | cons b l ih =>
    intro i v s hs hl hv hi hne h
    cases i with
    | zero =>
      rw [List.set_cons_zero, sumB_cons, sumB_cons] at h
      exact hne (stepB_byte hs hv (hl b List.mem_cons_self) (sumB_state l _ _ (stepB_range _ _) (stepB_range _ _) h))
    | succ i =>
      rw [List.set_cons_succ, sumB_cons, sumB_cons] at h
      exact ih i v _ (stepB_range _ _) (fun x hx => hl x (List.mem_cons_of_mem _ hx)) hv (by simpa using hi) hne h
def fourL (x : Int) : List Int := [x / 16777216 % 256, x / 65536 % 256, x / 256 % 256, x % 256]
theorem fourL_inj {x y : Int} (hx : 0 ≤ x ∧ x < 4294967296) (hy : 0 ≤ y ∧ y < 4294967296) (h : fourL x = fourL y) : x = y := by
  unfold fourL at h
  simp only [List.cons.injEq, and_true] at h
  omega
theorem bl_sumT (s : ByteArray) : bytesOf (sumT s) = fourL (sumB 4294967295 (bytesOf s)) := by
  unfold sumT four
  rw [bl_str]
  · rfl
  · intro x hx
    simp only [List.mem_cons, List.not_mem_nil, or_false] at hx
    omega
theorem unB_sealed (d : ByteArray) (h : d.size ≤ 20000) : unB (d ++ sumT d) = (d, true) := by
  have hz : (d ++ sumT d).size = d.size + 4 := by rw [ByteArray.size_append, sumT_size]
  have e1 : (d ++ sumT d).extract 0 ((d ++ sumT d).size - 4) = d := by
    apply bl_inj
    rw [bl_ext, bl_app, List.drop_zero, hz, show d.size + 4 - 4 - 0 = (bytesOf d).length by rw [bytesOf_length]; omega, List.take_left]
  have e2 : (d ++ sumT d).extract ((d ++ sumT d).size - 4) (d ++ sumT d).size = sumT d := by
    apply bl_inj
    rw [bl_ext, bl_app, hz, show d.size + 4 - 4 = (bytesOf d).length by rw [bytesOf_length]; omega, List.drop_left, List.take_of_length_le]
    rw [bytesOf_length, bytesOf_length, sumT_size]
    omega
  unfold unB
  rw [e1, e2]
  exact if_pos ⟨by omega, by omega, rfl⟩
/-- A sealed text with one byte turned is none. -/
theorem unB_bent (d : ByteArray) (i : Nat) (v : Int) (hv : 0 ≤ v ∧ v ≤ 255) (hi : i < (bytesOf (d ++ sumT d)).length) (hne : v ≠ (bytesOf (d ++ sumT d))[i]) : (unB (strOfNums ((bytesOf (d ++ sumT d)).set i v))).2 = false := by
  have hrange : ∀ x ∈ (bytesOf (d ++ sumT d)).set i v, 0 ≤ x ∧ x ≤ 255 := by
    intro x hx
    rcases List.mem_or_eq_of_mem_set hx with h | h
    · exact bl_range _ h
    · rw [h]; exact hv
  have hb := bl_str hrange
  have hz : (strOfNums ((bytesOf (d ++ sumT d)).set i v)).size = d.size + 4 := by
    rw [strOfNums_size, List.length_set, bytesOf_length, ByteArray.size_append, sumT_size]
  generalize hs : strOfNums ((bytesOf (d ++ sumT d)).set i v) = s at hb hz ⊢
  unfold unB
  split
  · rename_i h
    exfalso
    obtain ⟨_, _, h⟩ := h
    have h2 := congrArg bytesOf h
    rw [bl_sumT, bl_ext, bl_ext, hb, hz, List.drop_zero, show d.size + 4 - (d.size + 4 - 4) = 4 by omega, show d.size + 4 - 4 - 0 = d.size by omega, show d.size + 4 - 4 = d.size by omega] at h2
    rw [bl_app, bl_sumT] at h2 hi
    have hn : ∀ (h : i < (bytesOf d ++ fourL (sumB 4294967295 (bytesOf d))).length), v ≠ (bytesOf d ++ fourL (sumB 4294967295 (bytesOf d)))[i] := by
      intro h he
      apply hne
      rw [he]
      congr 1
      rw [bl_app, bl_sumT]
    have hdl := bytesOf_length d
    have hsr := sumB_range 4294967295 (by omega) (bytesOf d)
    by_cases hid : i < d.size
    · rw [List.set_append_left _ _ (by omega)] at h2
      rw [show d.size = ((bytesOf d).set i v).length by rw [List.length_set, hdl], List.drop_left, List.take_left, List.take_of_length_le (by simp [fourL])] at h2
      have h3 := fourL_inj hsr (sumB_range 4294967295 (by omega) _) h2
      refine sumB_set (bytesOf d) i v 4294967295 (by omega) bl_range hv (by omega) ?_ h3.symm
      have := hn hi
      rw [List.getElem_append_left (by omega)] at this
      exact this
    · rw [List.set_append_right _ _ (by omega)] at h2
      rw [show d.size = (bytesOf d).length from hdl.symm, List.drop_left, List.take_left, List.take_of_length_le (by simp [fourL])] at h2
      have := hn hi
      rw [List.getElem_append_right (by omega)] at this
      apply this
      have hj : i - (bytesOf d).length < (fourL (sumB 4294967295 (bytesOf d))).length := by rw [List.length_append] at hi; omega
      have h4 : ((fourL (sumB 4294967295 (bytesOf d))).set (i - (bytesOf d).length) v)[i - (bytesOf d).length]'(by rw [List.length_set]; exact hj) = v := by rw [List.getElem_set_self]
      rw [← h4]
      simp only [h2]
  · rfl

/-! ### cellback -/
def cellD (a b c : Int) (s : ByteArray) : ByteArray := strOfNums [a % 256, b % 256, c % 256] ++ s
theorem cellB_iff {a b c : Int} {s : ByteArray} (h : cellB a b c s = true) : (0 ≤ a ∧ a ≤ 99) ∧ (1 ≤ b ∧ b ≤ 99) ∧ (1 ≤ c ∧ c ≤ 3) ∧ s.size ≤ 60 := by
  unfold cellB at h
  simp only [Bool.and_eq_true, rng_iff, decide_eq_true_eq] at h
  exact ⟨h.1.1.1, h.1.1.2, h.1.2, h.2⟩
theorem cellD_size (a b c : Int) (s : ByteArray) : (cellD a b c s).size = 3 + s.size := by
  unfold cellD
  rw [ByteArray.size_append, strOfNums_size]
  rfl
theorem cellD_bytes (a b c : Int) (s : ByteArray) : bytesOf (cellD a b c s) = a % 256 :: b % 256 :: c % 256 :: bytesOf s := by
  unfold cellD
  rw [bl_app, bl_str]
  · rfl
  · intro x hx
    simp only [List.mem_cons, List.not_mem_nil, or_false] at hx
    omega
theorem bt_of {s : ByteArray} {l : List Int} (h : bytesOf s = l) (i : Nat) (hi : i < l.length) : bt s (i : Int) = l[i] := by
  rw [bt_bl, h]
  unfold rd
  simp [List.getD_eq_getElem?_getD, List.getElem?_eq_getElem hi]
/-- A right frame comes back. -/
theorem cell_back {a b c : Int} {s : ByteArray} (h : cellB a b c s = true) : readCellB (cellD a b c s ++ sumT (cellD a b c s)) = (a, b, c, s, true) := by
  obtain ⟨ha, hb, hc, hs⟩ := cellB_iff h
  have hz := cellD_size a b c s
  have hu := unB_sealed (cellD a b c s) (by omega)
  have hby := cellD_bytes a b c s
  have e0 : bt (cellD a b c s) 0 = a := by have := bt_of hby 0 (by simp); rw [show bt (cellD a b c s) 0 = bt (cellD a b c s) ((0 : Nat) : Int) from rfl, this]; show a % 256 = a; omega
  have e1 : bt (cellD a b c s) 1 = b := by have := bt_of hby 1 (by simp); rw [show bt (cellD a b c s) 1 = bt (cellD a b c s) ((1 : Nat) : Int) from rfl, this]; show b % 256 = b; omega
  have e2 : bt (cellD a b c s) 2 = c := by have := bt_of hby 2 (by simp); rw [show bt (cellD a b c s) 2 = bt (cellD a b c s) ((2 : Nat) : Int) from rfl, this]; show c % 256 = c; omega
  have e3 : (cellD a b c s).extract 3 (cellD a b c s).size = s := by
    apply bl_inj
    rw [bl_ext, hby, hz]
    show (bytesOf s).take (3 + s.size - 3) = bytesOf s
    exact List.take_of_length_le (by rw [bytesOf_length]; omega)
  unfold readCellB
  rw [hu]
  simp only [e0, e1, e2, e3]
  rw [if_pos ⟨trivial, by omega, h⟩]
/-- Bytes that are a frame are its bytes. -/
theorem cell_forth {t : ByteArray} (h : (readCellB t).2.2.2.2 = true) : cellB (readCellB t).1 (readCellB t).2.1 (readCellB t).2.2.1 (readCellB t).2.2.2.1 = true ∧ cellD (readCellB t).1 (readCellB t).2.1 (readCellB t).2.2.1 (readCellB t).2.2.2.1 ++ sumT (cellD (readCellB t).1 (readCellB t).2.1 (readCellB t).2.2.1 (readCellB t).2.2.2.1) = t := by
  unfold readCellB at h ⊢
  by_cases hc : (unB t).2 = true ∧ 3 ≤ (unB t).1.size ∧ cellB (bt (unB t).1 0) (bt (unB t).1 1) (bt (unB t).1 2) ((unB t).1.extract 3 (unB t).1.size) = true
  · simp only [if_pos hc]
    refine ⟨hc.2.2, ?_⟩
    have hd : cellD (bt (unB t).1 0) (bt (unB t).1 1) (bt (unB t).1 2) ((unB t).1.extract 3 (unB t).1.size) = (unB t).1 := by
      apply bl_inj
      rw [cellD_bytes, bl_ext]
      have hl := bytesOf_length (unB t).1
      have r0 := bt_range (unB t).1 0
      have r1 := bt_range (unB t).1 1
      have r2 := bt_range (unB t).1 2
      have g0 := bt_of (s := (unB t).1) rfl 0 (by omega)
      have g1 := bt_of (s := (unB t).1) rfl 1 (by omega)
      have g2 := bt_of (s := (unB t).1) rfl 2 (by omega)
      rw [show bt (unB t).1 0 % 256 = bt (unB t).1 0 by omega, show bt (unB t).1 1 % 256 = bt (unB t).1 1 by omega, show bt (unB t).1 2 % 256 = bt (unB t).1 2 by omega]
      rw [show bt (unB t).1 0 = bt (unB t).1 ((0 : Nat) : Int) from rfl, show bt (unB t).1 1 = bt (unB t).1 ((1 : Nat) : Int) from rfl, show bt (unB t).1 2 = bt (unB t).1 ((2 : Nat) : Int) from rfl, g0, g1, g2]
      rw [List.take_of_length_le (by rw [List.length_drop]; omega)]
      rw [← List.drop_eq_getElem_cons (l := bytesOf (unB t).1) (i := 2) (by omega), ← List.drop_eq_getElem_cons (l := bytesOf (unB t).1) (i := 1) (by omega), ← List.drop_eq_getElem_cons (l := bytesOf (unB t).1) (i := 0) (by omega), List.drop_zero]
    rw [hd]
    have hu := hc.1
    unfold unB at hu ⊢
    by_cases hq : 4 ≤ t.size ∧ t.size ≤ 20004 ∧ t.extract (t.size - 4) t.size = sumT (t.extract 0 (t.size - 4))
    · simp only [if_pos hq]
      rw [← hq.2.2]
      exact split_at t (t.size - 4) (by omega)
    · rw [if_neg hq] at hu
      cases hu
  · rw [if_neg hc] at h
    cases h
theorem readCell_none {s : ByteArray} (h : (unB s).2 = false) : (readCellB s).2.2.2.2 = false := by
  unfold readCellB
  rw [if_neg (by rw [h]; simp)]
  rfl

/-! ### draw -/
def Cur (b : List Int) (i : Int) : Prop := 0 ≤ i ∧ i ≤ (b.length : Int)
theorem new_loop (b : List Int) : ∀ (d : Nat) (i x : Int), 0 ≤ i → i ≤ 4000 → 4000 - i ≤ d → ∃ h, ∀ k, d < k → spec_l01New.l0 k b x i = some (b, 0, h) := by
  intro d
  induction d with
  | zero =>
    intro i x h0 h1 hd
    refine ⟨x, fun k hk => ?_⟩
    obtain ⟨k, rfl⟩ : ∃ m, k = m + 1 := ⟨k - 1, by omega⟩
    simp only [spec_l01New.l0]
    by_cases hl : i < (b.length : Int)
    · rw [if_pos hl, if_neg (by omega)]
    · rw [if_neg hl]
  | succ d ih =>
    intro i x h0 h1 hd
    by_cases hl : i < (b.length : Int) ∧ i < 4000
    · obtain ⟨h, ih⟩ := ih (i + 1) (Go.bits .and .i64 (wrap64 ((wrap64 ((wrap64 (x * 131)) + (wrap64 (rd b i)))) + 7)) 1073741823) (by omega) (by omega) (by omega)
      refine ⟨h, fun k hk => ?_⟩
      obtain ⟨k, rfl⟩ : ∃ m, k = m + 1 := ⟨k - 1, by omega⟩
      simp only [spec_l01New.l0]
      rw [if_pos hl.1, if_pos hl.2, if_pos h0, w64 (x := i + 1) (by omega) (by omega)]
      exact ih k (by omega)
    · refine ⟨x, fun k hk => ?_⟩
      obtain ⟨k, rfl⟩ : ∃ m, k = m + 1 := ⟨k - 1, by omega⟩
      simp only [spec_l01New.l0]
      by_cases hl2 : i < (b.length : Int)
      · rw [if_pos hl2, if_neg (by omega)]
      · rw [if_neg hl2]
theorem new_ok (b : List Int) : ∃ h, Ev (fun k => spec_l01New.f k b) (b, 0, h) := by
  obtain ⟨h, hk⟩ := new_loop b 4000 0 (wrap64 (37401 + (b.length : Int))) (by omega) (by omega) (by omega)
  exact ⟨h, 4001, fun k h1 => hk k (by omega)⟩
theorem cur_zero (b : List Int) : Cur b 0 := ⟨by omega, by omega⟩
theorem byte_ok {b : List Int} {i : Int} (h : Int) (hb : b.length ≤ 1048576) (hi : Cur b i) : ∃ v i' h', spec_l01Byte.f b i h = some (v, i', h') ∧ (0 ≤ v ∧ v ≤ 255) ∧ Cur b i' := by
  obtain ⟨h0, h1⟩ := hi
  unfold spec_l01Byte.f
  by_cases hl : i < (b.length : Int)
  · rw [if_pos hl, if_pos h0]
    refine ⟨_, _, _, rfl, ?_, ?_⟩
    · rw [and255]; omega
    · rw [w64 (by omega) (by omega)]; exact ⟨by omega, by omega⟩
  · rw [if_neg hl]
    refine ⟨_, _, _, rfl, ?_, h0, h1⟩
    rw [and255]; omega
theorem tmod_below {x n : Int} (hx : 0 ≤ x) (hn : 0 < n) : 0 ≤ Int.tmod x n ∧ Int.tmod x n < n := by
  rw [Int.tmod_eq_emod_of_nonneg hx]
  exact ⟨Int.emod_nonneg _ (by omega), Int.emod_lt_of_pos _ hn⟩
theorem below_ok {b : List Int} {i : Int} (h n : Int) (hb : b.length ≤ 1048576) (hi : Cur b i) : ∃ v i' h', spec_l01Below.f b i h n = some (v, i', h') ∧ (0 ≤ v ∧ (0 < n → v < n) ∧ (n ≤ 0 → v = 0)) ∧ Cur b i' := by
  unfold spec_l01Below.f
  by_cases hn : n ≤ 0
  · rw [if_pos hn]
    exact ⟨0, i, h, rfl, ⟨by omega, fun h => by omega, fun _ => rfl⟩, hi⟩
  · rw [if_neg hn]
    by_cases hs : n ≤ 256
    · rw [if_pos hs]
      obtain ⟨v, i', h', e, hv, hi'⟩ := byte_ok h hb hi
      rw [e]
      simp only [Option.bind_some]
      rw [if_neg (by omega)]
      have := tmod_below hv.1 (show 0 < n by omega)
      exact ⟨_, _, _, rfl, ⟨this.1, fun _ => this.2, fun h => absurd h hn⟩, hi'⟩
    · rw [if_neg hs]
      obtain ⟨v1, i1, h1, e1, hv1, hi1⟩ := byte_ok h hb hi
      rw [e1]
      simp only [Option.bind_some]
      obtain ⟨v2, i2, h2, e2, hv2, hi2⟩ := byte_ok h1 hb hi1
      rw [e2]
      simp only [Option.bind_some]
      obtain ⟨v3, i3, h3, e3, hv3, hi3⟩ := byte_ok h2 hb hi2
      rw [e3]
      simp only [Option.bind_some]
      obtain ⟨v4, i4, h4, e4, hv4, hi4⟩ := byte_ok h3 hb hi3
      rw [e4]
      simp only [Option.bind_some]
      rw [if_neg (by omega)]
      rw [w64 (x := v1 * 16777216) (by omega) (by omega), w64 (x := v2 * 65536) (by omega) (by omega), w64 (x := v3 * 256) (by omega) (by omega), w64 (x := v1 * 16777216 + v2 * 65536) (by omega) (by omega),
        w64 (x := v1 * 16777216 + v2 * 65536 + v3 * 256) (by omega) (by omega), w64 (x := v1 * 16777216 + v2 * 65536 + v3 * 256 + v4) (by omega) (by omega)]
      have := tmod_below (show 0 ≤ v1 * 16777216 + v2 * 65536 + v3 * 256 + v4 by omega) (show 0 < n by omega)
      exact ⟨_, _, _, rfl, ⟨this.1, fun _ => this.2, fun h => absurd h hn⟩, hi4⟩
theorem big_eq (b : List Int) : laws_big.f b = some (decide ((b.length : Int) > 1048576)) := rfl

/-! ### tot -/
/-- A row of calls that comes to an answer of a kind. -/
def Tot {α : Type} (g : Nat → Option α) (P : α → Prop) : Prop := ∃ r, Ev g r ∧ P r
theorem Tot.bind {α β : Type} {g : Nat → Option α} {f : Nat → α → Option β} {P : α → Prop} {Q : β → Prop} (h : Tot g P) (h2 : ∀ r, P r → Tot (fun k => f k r) Q) : Tot (fun k => (g k).bind (f k)) Q := by
  obtain ⟨r, e, hr⟩ := h
  obtain ⟨q, e2, hq⟩ := h2 r hr
  exact ⟨q, Ev.bind e e2, hq⟩
theorem Tot.ret {α : Type} {P : α → Prop} (r : α) (h : P r) : Tot (fun _ => some r) P := ⟨r, Ev.now _, h⟩
theorem Tot.step {α : Type} {F f : Nat → Option α} {P : α → Prop} (hs : ∀ k, F (k + 1) = f k) (h : Tot f P) : Tot F P := by
  obtain ⟨r, e, hr⟩ := h
  exact ⟨r, Ev.step hs e, hr⟩
theorem Tot.mono {α : Type} {g : Nat → Option α} {P Q : α → Prop} (h : Tot g P) (hpq : ∀ r, P r → Q r) : Tot g Q := by
  obtain ⟨r, e, hr⟩ := h
  exact ⟨r, e, hpq r hr⟩
theorem Tot.of_some {α : Type} {o : Option α} {P : α → Prop} (r : α) (e : o = some r) (h : P r) : Tot (fun _ => o) P := ⟨r, ⟨0, fun _ _ => e⟩, h⟩
theorem tByte {b : List Int} {i : Int} (h : Int) (hb : b.length ≤ 1048576) (hi : Cur b i) : Tot (fun _ => spec_l01Byte.f b i h) (fun r => (0 ≤ r.1 ∧ r.1 ≤ 255) ∧ Cur b r.2.1) := by
  obtain ⟨v, i', h', e, hv, hi'⟩ := byte_ok h hb hi
  exact Tot.of_some _ e ⟨hv, hi'⟩
theorem tBelow {b : List Int} {i : Int} (h n : Int) (hb : b.length ≤ 1048576) (hi : Cur b i) : Tot (fun _ => spec_l01Below.f b i h n) (fun r => (0 ≤ r.1 ∧ (0 < n → r.1 < n) ∧ (n ≤ 0 → r.1 = 0)) ∧ Cur b r.2.1) := by
  obtain ⟨v, i', h', e, hv, hi'⟩ := below_ok h n hb hi
  exact Tot.of_some _ e ⟨hv, hi'⟩
theorem rd_mem {l : List Int} {i : Int} (h0 : 0 ≤ i) (h1 : i < (l.length : Int)) : rd l i ∈ l := by
  unfold rd
  rw [List.getD_eq_getElem?_getD, List.getElem?_eq_getElem (by omega), Option.getD_some]
  exact List.getElem_mem _
theorem tPick {b : List Int} {i : Int} (h : Int) (l : List Int) (hb : b.length ≤ 1048576) (hi : Cur b i) (hl : 0 < l.length) : Tot (fun _ => spec_l01PickInt.f b i h l) (fun r => r.1 ∈ l ∧ Cur b r.2.1) := by
  obtain ⟨v, i', h', e, hv, hi'⟩ := below_ok h (l.length : Int) hb hi
  have h1 := hv.2.1 (by omega)
  refine Tot.of_some (rd l v, i', h') ?_ ⟨rd_mem hv.1 h1, hi'⟩
  unfold spec_l01PickInt.f
  rw [e]
  simp only [Option.bind_some]
  rw [if_pos hv.1, if_pos h1]
theorem tOnce {b : List Int} {i : Int} (h n : Int) (hb : b.length ≤ 1048576) (hi : Cur b i) : Tot (fun _ => spec_l01Once.f b i h n) (fun r => Cur b r.2.1) := by
  obtain ⟨v, i', h', e, _, hi'⟩ := below_ok h n hb hi
  refine Tot.of_some (v == 0, i', h') ?_ hi'
  unfold spec_l01Once.f
  rw [e]
  rfl

/-! ### text -/
theorem text_loop {b : List Int} (hb : b.length ≤ 1048576) (n : Int) (hn : n ≤ 5000) : ∀ (d : Nat) (acc : List Int) (j : Int) (i h : Int), Cur b i → (acc.length : Int) = j → n - j ≤ d → (j ≤ n ∨ j = 0) →
    Tot (fun k => spec_l01Text.l0 k n acc j b i h) (fun r => (r.1.size : Int) = mx 0 n ∧ Cur b r.2.1) := by
  intro d
  induction d with
  | zero =>
    intro acc j i h hi hl hd hj
    refine Tot.step (f := fun _ => some (strOfNums acc, i, h)) (fun k => by simp only [spec_l01Text.l0]; rw [if_neg (by omega)]) (Tot.ret _ ⟨?_, hi⟩)
    rw [strOfNums_size]
    unfold mx
    split <;> omega
  | succ d ih =>
    intro acc j i h hi hl hd hj
    by_cases hjn : j < n
    · refine Tot.step (fun k => rfl) ?_
      simp only [spec_l01Text.l0, if_pos hjn]
      refine Tot.bind (tByte h hb hi) fun r hr => ?_
      have hlen : acc.length < 140737488355328 := by omega
      simp only [if_pos hlen]
      rw [w64 (by omega) (by omega)]
      exact ih (acc ++ [r.1 % 256]) (j + 1) r.2.1 r.2.2 hr.2 (by rw [List.length_append, List.length_singleton]; omega) (by omega) (by omega)
    · refine Tot.step (f := fun _ => some (strOfNums acc, i, h)) (fun k => by simp only [spec_l01Text.l0]; rw [if_neg hjn]) (Tot.ret _ ⟨?_, hi⟩)
      rw [strOfNums_size]
      unfold mx
      split <;> omega
theorem tText {b : List Int} {i : Int} (h n : Int) (hb : b.length ≤ 1048576) (hi : Cur b i) : Tot (fun k => spec_l01Text.f k b i h n) (fun r => r.1.size ≤ 5000 ∧ (0 ≤ n → n ≤ 5000 → (r.1.size : Int) = n) ∧ Cur b r.2.1) := by
  unfold spec_l01Text.f
  by_cases hn : n > 5000
  · simp only [if_pos hn]
    refine Tot.step (f := fun k => spec_l01Text.l0 k 5000 [] 0 b i h) (fun k => rfl) ((text_loop hb 5000 (by omega) 5000 [] 0 i h hi rfl (by omega) (by omega)).mono fun r hr => ⟨?_, fun h0 h1 => absurd h1 (by omega), hr.2⟩)
    have := hr.1
    unfold mx at this
    rw [if_pos (by omega)] at this
    omega
  · simp only [if_neg hn]
    refine Tot.step (f := fun k => spec_l01Text.l0 k n [] 0 b i h) (fun k => rfl) ((text_loop hb n (by omega) 5000 [] 0 i h hi rfl (by omega) (by omega)).mono fun r hr => ?_)
    have h2 := hr.1
    unfold mx at h2
    refine ⟨?_, fun h0 h1 => ?_, hr.2⟩
    · split at h2 <;> omega
    · split at h2 <;> omega
theorem long_loop (n c : Int) (hn : n ≤ 1000000) : ∀ (d : Nat) (j : Int) (l : List Int), (l.length : Int) = n → 0 ≤ j → n - j ≤ d → j ≤ n → Tot (fun k => spec_l01Long.l0 k n c l j) (fun r => (r.size : Int) = n) := by
  intro d
  induction d with
  | zero =>
    intro j l hl h0 hd hj
    refine Tot.step (f := fun _ => some (strOfNums l)) (fun k => by simp only [spec_l01Long.l0]; rw [if_neg (by omega)]) (Tot.ret _ (by rw [strOfNums_size]; exact hl))
  | succ d ih =>
    intro j l hl h0 hd hj
    by_cases hjn : j < n
    · refine Tot.step (fun k => by simp only [spec_l01Long.l0]; rw [if_pos hjn, if_pos h0, if_pos (by omega), w64 (by omega) (by omega)]) ?_
      exact ih (j + 1) (l.set j.toNat c) (by rw [List.length_set]; exact hl) (by omega) (by omega) (by omega)
    · refine Tot.step (f := fun _ => some (strOfNums l)) (fun k => by simp only [spec_l01Long.l0]; rw [if_neg hjn]) (Tot.ret _ (by rw [strOfNums_size]; exact hl))
theorem tLong (n c : Int) (h0 : 0 ≤ n) (hn : n ≤ 1000000) : Tot (fun k => spec_l01Long.f k n c) (fun r => (r.size : Int) = n) := by
  unfold spec_l01Long.f
  simp only [if_pos h0, if_pos (show n.toNat ≤ 281474976710656 by omega)]
  exact long_loop n c hn n.toNat 0 _ (by rw [List.length_replicate]; omega) (by omega) (by omega) (by omega)

/-! ### spoilt -/
theorem tSpoilt_j0 {b : List Int} {i : Int} (h : Int) (s : ByteArray) (c : Bool) (hb : b.length ≤ 1048576) (hi : Cur b i) (hs : s.size ≤ 1000000) : Tot (fun k => spec_l02Spoilt.j0 k s c b i h) (fun r => r.1.size ≤ s.size + 5000 ∧ Cur b r.2.1) := by
  refine Tot.step (fun k => rfl) ?_
  simp only [spec_l02Spoilt.j0]
  cases c
  · simp only [Bool.false_eq_true, if_false]
    exact Tot.ret _ ⟨by show s.size ≤ s.size + 5000; omega, hi⟩
  · simp only [if_true]
    by_cases h0 : (s.size : Int) > 0
    · simp only [if_pos h0]
      refine Tot.bind (tBelow h (s.size : Int) hb hi) fun r hr => ?_
      have hv := hr.1.2.1 (by omega)
      have hv0 := hr.1.1
      have hw : wrap64 (r.1 + 1) = r.1 + 1 := w64 (by omega) (by omega)
      simp only [if_pos hr.1.1, if_pos (show r.1 ≤ (s.size : Int) by omega), hw, if_pos (show (0 : Int) ≤ r.1 + 1 by omega), if_pos (show r.1 + 1 ≤ (s.size : Int) by omega)]
      refine Tot.bind (tText r.2.2 1 hb hr.2) fun q hq => ?_
      have h1 : (s.extract 0 r.1.toNat).size ≤ s.size := by rw [ByteArray.size_extract]; omega
      have h2 : (s.extract (r.1 + 1).toNat s.size).size ≤ s.size := by rw [ByteArray.size_extract]; omega
      have h4 : (s.extract 0 r.1.toNat).size + (s.extract (r.1 + 1).toNat s.size).size ≤ s.size := by rw [ByteArray.size_extract, ByteArray.size_extract]; omega
      have hq1 := hq.1
      have h3 : (s.extract 0 r.1.toNat ++ q.1).size ≤ s.size + 5000 := by rw [ByteArray.size_append]; omega
      simp only [if_pos (show (s.extract 0 r.1.toNat).size + q.1.size ≤ 9223372036854775807 by omega), if_pos (show (s.extract 0 r.1.toNat ++ q.1).size + (s.extract (r.1 + 1).toNat s.size).size ≤ 9223372036854775807 by omega)]
      exact Tot.ret _ ⟨by rw [ByteArray.size_append, ByteArray.size_append]; omega, hq.2.2⟩
    · simp only [if_neg h0]
      exact Tot.ret _ ⟨by show s.size ≤ s.size + 5000; omega, hi⟩
theorem tSpoilt {b : List Int} {i : Int} (h : Int) (s : ByteArray) (hb : b.length ≤ 1048576) (hi : Cur b i) (hs : s.size ≤ 1000000) : Tot (fun k => spec_l02Spoilt.f k b i h s) (fun r => r.1.size ≤ s.size + 5000 ∧ Cur b r.2.1) := by
  unfold spec_l02Spoilt.f
  refine Tot.bind (tBelow h 12 hb hi) fun r hr => ?_
  by_cases h0 : r.1 = 0
  · simp only [if_pos h0]
    refine Tot.bind (tText r.2.2 1 hb hr.2) fun q hq => ?_
    have hq1 := hq.1
    simp only [if_pos (show s.size + q.1.size ≤ 9223372036854775807 by omega)]
    exact Tot.ret _ ⟨by rw [ByteArray.size_append]; omega, hq.2.2⟩
  · simp only [if_neg h0]
    by_cases h1 : r.1 = 1
    · simp only [if_pos h1, w64 (x := (s.size : Int) + 1) (by omega) (by omega)]
      refine Tot.bind (tBelow r.2.2 ((s.size : Int) + 1) hb hr.2) fun q hq => ?_
      have hv := hq.1.2.1 (by omega)
      simp only [if_pos hq.1.1, if_pos (show q.1 ≤ (s.size : Int) by omega)]
      exact Tot.ret _ ⟨by rw [ByteArray.size_extract]; omega, hq.2⟩
    · simp only [if_neg h1]
      by_cases h2 : r.1 = 2
      · simp only [if_pos h2]
        exact tSpoilt_j0 _ s _ hb hr.2 hs
      · simp only [if_neg h2]
        exact tSpoilt_j0 _ s _ hb hr.2 hs

/-! ### places -/
theorem places_loop {b : List Int} (hb : b.length ≤ 1048576) : ∀ (d : Nat) (acc : List Int) (j : Int) (i h : Int), Cur b i → (acc.length : Int) = j → 12 - j = d → (∀ x ∈ acc, 0 ≤ x ∧ x < 10000) →
    ∃ p, p.length = 12 ∧ (∀ x ∈ p, 0 ≤ x ∧ x < 10000) ∧ ∀ k, d < k → spec_DrawPlaces.l0 k acc j b i h = some p := by
  intro d
  induction d with
  | zero =>
    intro acc j i h hi hl hd ha
    refine ⟨acc, by omega, ha, fun k hk => ?_⟩
    obtain ⟨k, rfl⟩ : ∃ m, k = m + 1 := ⟨k - 1, by omega⟩
    simp only [spec_DrawPlaces.l0]
    rw [if_neg (by omega)]
  | succ d ih =>
    intro acc j i h hi hl hd ha
    obtain ⟨v, i', h', e, hv, hi'⟩ := below_ok h 10000 hb hi
    obtain ⟨p, hp, hp2, hk2⟩ := ih (acc ++ [v]) (j + 1) i' h' hi' (by rw [List.length_append, List.length_singleton]; omega) (by omega) (by
      intro x hx
      rcases List.mem_append.1 hx with hx | hx
      · exact ha x hx
      · rw [List.mem_singleton.1 hx]; exact ⟨hv.1, hv.2.1 (by omega)⟩)
    refine ⟨p, hp, hp2, fun k hk => ?_⟩
    obtain ⟨k, rfl⟩ : ∃ m, k = m + 1 := ⟨k - 1, by omega⟩
    simp only [spec_DrawPlaces.l0]
    rw [if_pos (by omega), e]
    simp only [Option.bind_some]
    rw [if_pos (by omega), w64 (x := j + 1) (by omega) (by omega)]
    exact hk2 k (by omega)
theorem places_ok {b : List Int} (hb : b.length ≤ 1048576) : ∃ p, p.length = 12 ∧ (∀ x ∈ p, 0 ≤ x ∧ x < 10000) ∧ Ev (fun k => spec_DrawPlaces.f k b) p := by
  obtain ⟨h, hn⟩ := new_ok b
  obtain ⟨v, i', h', e, _, hi'⟩ := byte_ok h hb (cur_zero b)
  obtain ⟨p, hp, hp2, hk⟩ := places_loop hb 12 [] 0 i' h' hi' rfl rfl (fun x hx => by cases hx)
  refine ⟨p, hp, hp2, Ev.bind hn ?_⟩
  refine ⟨13, fun k h1 => ?_⟩
  show (spec_l01Byte.f b 0 h).bind _ = _
  rw [e]
  exact hk k (by omega)
theorem rd_range {p : List Int} {a c : Int} (hp : ∀ x ∈ p, a ≤ x ∧ x < c) {j : Int} (h0 : 0 ≤ j) (h1 : j < (p.length : Int)) : a ≤ rd p j ∧ rd p j < c := by
  refine hp _ ?_
  unfold rd
  rw [List.getD_eq_getElem?_getD, List.getElem?_eq_getElem (by omega), Option.getD_some]
  exact List.getElem_mem _

/-! ### FnCells -/
theorem tCell {b : List Int} {i : Int} (h : Int) (hb : b.length ≤ 1048576) (hi : Cur b i) : Tot (fun k => spec_l10Cell.f k b i h) (fun r => Cur b r.2.2.2.2.1) := by
  unfold spec_l10Cell.f
  refine Tot.bind (tBelow h 4 hb hi) fun r1 h1 => ?_
  refine Tot.bind (tBelow _ 3 hb h1.2) fun r2 h2 => ?_
  refine Tot.bind (tBelow _ 3 hb h2.2) fun r3 h3 => ?_
  refine Tot.bind (tBelow _ 9 hb h3.2) fun r4 h4 => ?_
  refine Tot.bind (tText _ _ hb h4.2) fun r5 h5 => ?_
  refine Tot.bind (tBelow _ 16 hb h5.2.2) fun r6 h6 => ?_
  by_cases c0 : r6.1 = 0
  · simp only [if_pos c0]
    refine Tot.bind (tPick _ _ hb h6.2 (by simp)) fun u hu => ?_
    exact Tot.ret _ hu.2
  · by_cases c1 : r6.1 = 1
    · simp only [if_neg c0, if_pos c1]
      refine Tot.bind (tPick _ _ hb h6.2 (by simp)) fun u hu => ?_
      exact Tot.ret _ hu.2
    · by_cases c2 : r6.1 = 2
      · simp only [if_neg c0, if_neg c1, if_pos c2]
        refine Tot.bind (tBelow _ 5 hb h6.2) fun u hu => ?_
        exact Tot.ret _ hu.2
      · by_cases c3 : r6.1 = 3
        · simp only [if_neg c0, if_neg c1, if_neg c2, if_pos c3]
          refine Tot.bind (tBelow _ 2 hb h6.2) fun u hu => ?_
          have hu1 := hu.1.2.1 (by omega)
          have hu0 := hu.1.1
          rw [w64 (x := 60 + u.1) (by omega) (by omega)]
          refine Tot.bind (tLong (60 + u.1) 65 (by omega) (by omega)) fun w hw => ?_
          exact Tot.ret _ hu.2
        · simp only [if_neg c0, if_neg c1, if_neg c2, if_neg c3]
          exact Tot.ret _ h6.2
def cellO (a b c : Int) (s : ByteArray) : ByteArray × Bool := if cellB a b c s = true then (cellD a b c s ++ sumT (cellD a b c s), true) else ((⟨#[]⟩ : ByteArray), false)
theorem cellO_size (a b c : Int) (s : ByteArray) : (cellO a b c s).1.size ≤ 67 := by
  unfold cellO
  by_cases h : cellB a b c s = true
  · rw [if_pos h]
    have h1 := cellD_size a b c s
    have h2 := sumT_size (cellD a b c s)
    have h3 := (cellB_iff h).2.2.2
    show (cellD a b c s ++ sumT (cellD a b c s)).size ≤ 67
    rw [ByteArray.size_append]
    omega
  · rw [if_neg h]
    show 0 ≤ 67
    omega
theorem spec_ct (a b c : Int) (s : ByteArray) : Ev (fun k => spec_CellText.f k a b c s) (cellO a b c s) := by
  obtain ⟨K, hK⟩ := spec_CellText_ok a b c s
  exact ⟨K, hK⟩
theorem impl_ct (a b c : Int) (s : ByteArray) : Ev (fun k => impl_CellText.f k a b c s) (cellO a b c s) := by
  obtain ⟨K, hK⟩ := impl_CellText_ok a b c s
  exact ⟨K, hK⟩
theorem spec_rc (s : ByteArray) (hs : s.size ≤ 9000000000000000000) : Ev (fun k => spec_ReadCell.f k s) (readCellB s) := by
  obtain ⟨K, hK⟩ := spec_ReadCell_ok s hs
  exact ⟨K, hK⟩
theorem impl_rc (s : ByteArray) (hs : s.size ≤ 9000000000000000000) : Ev (fun k => impl_ReadCell.f k s) (readCellB s) := by
  obtain ⟨K, hK⟩ := impl_ReadCell_ok s hs
  exact ⟨K, hK⟩
/-- What is turned. -/
theorem bent_ok (s : ByteArray) (p : List Int) (hs : s.size ≤ 1000000) (hp : p.length = 12) (hr : ∀ x ∈ p, 0 ≤ x ∧ x < 10000) : ∃ r, laws_bent.f s p = some r ∧ r.size ≤ 1000001 ∧ ∀ d, s = d ++ sumT d → (unB r).2 = false := by
  have r0 := rd_range hr (j := 0) (by omega) (by omega)
  have r1 := rd_range hr (j := 1) (by omega) (by omega)
  unfold laws_bent.f
  rw [if_pos (by omega)]
  by_cases hz : (s.size : Int) = 0
  · rw [if_pos hz]
    refine ⟨_, rfl, by show 1 ≤ 1000001; omega, fun d hd => ?_⟩
    rw [hd, ByteArray.size_append, sumT_size] at hz
    omega
  · rw [if_neg hz, if_pos (by omega), if_pos r0.1, Int.tmod_eq_emod_of_nonneg r0.1, Int.tmod_eq_emod_of_nonneg r1.1, w64 (by omega) (by omega)]
    have h0 := Int.emod_nonneg (rd p 0) hz
    have h1 := Int.emod_lt_of_pos (rd p 0) (show (0 : Int) < (s.size : Int) by omega)
    generalize rd p 0 % (s.size : Int) = i at h0 h1 ⊢
    generalize hm : (1 + rd p 1 % 255) % 256 = m
    have hm1 : 1 ≤ m ∧ m ≤ 255 := by omega
    have hl := bytesOf_length s
    have hil : i.toNat < (bytesOf s).length := by omega
    have hb : bt s i = (bytesOf s)[i.toNat] := by
      rw [bt_bl]
      unfold rd
      simp [List.getD_eq_getElem?_getD, List.getElem?_eq_getElem hil]
    have hbr := bt_range s i
    have hx := Go.u8_xor (bt s i) m hbr.1 (by omega) (by omega) (by omega)
    have hx2 : (bt s i).toNat ^^^ m.toNat < 2 ^ 8 := Nat.xor_lt_two_pow (by omega) (by omega)
    refine ⟨_, rfl, ?_, fun d hd => ?_⟩
    · rw [strOfNums_size, List.length_set, hl]; omega
    · subst hd
      refine unB_bent d i.toNat _ ?_ hil ?_
      · rw [hx]; omega
      · rw [hx, ← hb]
        intro he
        have := nat_xor_self (show (bt (d ++ sumT d) i).toNat ^^^ m.toNat = (bt (d ++ sumT d) i).toNat by omega)
        omega
theorem FnCells : StFnCells.Pure := by
  intro b
  intros
  by_cases hbig : (b.length : Int) > 1048576
  · exact ⟨0, by unfold laws_FnCells.f; rw [big_eq]; simp [hbig]⟩
  · have hbl : b.length ≤ 1048576 := by omega
    obtain ⟨h, hn⟩ := new_ok b
    obtain ⟨⟨a1, a2, a3, a4⟩, e1, _⟩ : Tot (fun k => spec_DrawCellText.f k b) (fun _ => True) := by
      unfold spec_DrawCellText.f
      refine Tot.bind (P := fun r => r = (b, 0, h)) ⟨_, hn, rfl⟩ fun r hr => ?_
      subst hr
      refine Tot.bind (tCell h hbl (cur_zero b)) fun r hr => ?_
      exact Tot.ret _ trivial
    obtain ⟨t, e2, ht⟩ : Tot (fun k => spec_DrawReadCell.f k b) (fun t => t.size ≤ 1000000) := by
      unfold spec_DrawReadCell.f
      refine Tot.bind (P := fun r => r = (b, 0, h)) ⟨_, hn, rfl⟩ fun r hr => ?_
      subst hr
      refine Tot.bind (tCell h hbl (cur_zero b)) fun r hr => ?_
      refine Tot.bind (P := fun t => t.1.size ≤ 67) ⟨_, spec_ct _ _ _ _, cellO_size _ _ _ _⟩ fun t ht => ?_
      refine Tot.bind (tOnce _ 3 hbl hr) fun u hu => ?_
      by_cases hu1 : u.1 = true
      · simp only [if_pos hu1]
        obtain ⟨K, hK⟩ := spec_Unsealed_ok t.1 (by omega)
        refine Tot.bind (P := fun v => v.1.size ≤ 20000) ⟨_, ⟨K, hK⟩, unB_size t.1⟩ fun v hv => ?_
        by_cases hv1 : v.2 = true
        · simp only [if_pos hv1]
          refine Tot.bind (tSpoilt u.2.2 v.1 hbl hu (by omega)) fun w hw => ?_
          obtain ⟨K, hK⟩ := spec_Sealed_ok w.1
          refine Tot.bind (P := fun v => v.1.size ≤ 20004) ⟨_, ⟨K, hK⟩, ?_⟩ fun x hx => ?_
          · split
            · show (w.1 ++ sumT w.1).size ≤ 20004
              rw [ByteArray.size_append, sumT_size]
              omega
            · show 0 ≤ 20004
              omega
          · exact Tot.ret _ (by omega)
        · simp only [if_neg hv1]
          exact Tot.ret _ (by omega)
      · simp only [if_neg hu1]
        refine Tot.bind (tSpoilt u.2.2 t.1 hbl hu (by omega)) fun w hw => ?_
        exact Tot.ret _ (by have := hw.1; omega)
    obtain ⟨p, hp1, hp2, e3⟩ := places_ok hbl
    have hsz := cellO_size a1 a2 a3 a4
    obtain ⟨r, er, hrs, hru⟩ := bent_ok (cellO a1 a2 a3 a4).1 p (by omega) hp1 hp2
    -- the second half
    have half : Ev (fun k => laws_FnCells.j0 k b (cellO a1 a2 a3 a4).1 (cellO a1 a2 a3 a4).2 false) true := by
      refine Ev.step (fun k => by simp only [laws_FnCells.j0, Bool.false_eq_true, if_false]; rfl) ?_
      refine Ev.bind e2 ?_
      refine Ev.bind (impl_rc t (by omega)) ?_
      refine Ev.bind (spec_rc t (by omega)) ?_
      refine Ev.bind (impl_ct _ _ _ _) ?_
      refine Ev.bind e3 ?_
      simp only [er, Option.bind_some]
      refine Ev.bind (impl_rc r (by omega)) ?_
      simp only [beq_self_eq_true, if_true]
      have fin : Ev (fun _ => if (cellO a1 a2 a3 a4).2 = true then (some (!(readCellB r).2.2.2.2)) else (some true)) true := by
        by_cases hc : cellB a1 a2 a3 a4 = true
        · have ho : cellO a1 a2 a3 a4 = (cellD a1 a2 a3 a4 ++ sumT (cellD a1 a2 a3 a4), true) := by unfold cellO; rw [if_pos hc]
          rw [readCell_none (hru (cellD a1 a2 a3 a4) (by rw [ho])), ho]
          exact Ev.now _
        · have ho : cellO a1 a2 a3 a4 = ((⟨#[]⟩ : ByteArray), false) := by unfold cellO; rw [if_neg hc]
          rw [ho]
          exact Ev.now _
      by_cases hr : (readCellB t).2.2.2.2 = true
      · obtain ⟨h1, h2⟩ := cell_forth hr
        have ho : cellO (readCellB t).1 (readCellB t).2.1 (readCellB t).2.2.1 (readCellB t).2.2.2.1 = (t, true) := by unfold cellO; rw [if_pos h1, h2]
        simp only [if_pos hr, ho, if_true]
        exact fin
      · simp only [if_neg hr]
        exact fin
    refine Ev.ex ?_ (r := true)
    unfold laws_FnCells.f
    rw [big_eq]
    simp only [Option.bind_some, decide_eq_true_eq, if_neg hbig]
    refine Ev.bind e1 ?_
    refine Ev.bind (impl_ct a1 a2 a3 a4) ?_
    refine Ev.bind (impl_rc (cellO a1 a2 a3 a4).1 (by omega)) ?_
    simp only [spec_CellOk_eq, impl_CellOk_eq, Option.bind_some]
    by_cases hc : cellB a1 a2 a3 a4 = true
    · have ho : cellO a1 a2 a3 a4 = (cellD a1 a2 a3 a4 ++ sumT (cellD a1 a2 a3 a4), true) := by unfold cellO; rw [if_pos hc]
      rw [ho] at half ⊢
      simp only [hc, cell_back hc, bne_self_eq_false, Bool.false_eq_true, if_false, if_true, beq_self_eq_true, Bool.not_true, Bool.or_false]
      exact half
    · have hc' : cellB a1 a2 a3 a4 = false := by simpa using hc
      have ho : cellO a1 a2 a3 a4 = ((⟨#[]⟩ : ByteArray), false) := by unfold cellO; rw [if_neg hc]
      rw [ho] at half ⊢
      simp only [hc', bne_self_eq_false, Bool.false_eq_true, if_false]
      exact half

end Go.Proofs.Ytideegpoakkgeaa.Pure
