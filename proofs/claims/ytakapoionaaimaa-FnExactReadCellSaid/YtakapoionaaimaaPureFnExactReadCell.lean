/- The pure statement of the law 'FnExactReadCell', proved: over numbers, lists and texts alone. No condition. -/
import Derived.Test.YtakapoionaaimaaStFnExactReadCell
import Derived.Laws.BitsLemmas
namespace Go.Proofs.Ytakapoionaaimaa.Pure
open Go.RowKit Go.Proofs.Ytakapoionaaimaa.QFnExactReadCell Go.Proofs.YtakapoionaaimaaW.PrintWords Go.Proofs.YtakapoionaaimaaW.PrintLast Go.Proofs.YtakapoionaaimaaW.PrintMore Go.Proofs.Ytakapoionaaimaa.StFnExactReadCell Go.Proofs.Ytakapoionaaimaa.Opens
set_option linter.unusedVariables false
set_option linter.unusedSimpArgs false

/-! ### base -/
theorem w64 {x : Int} (h0 : -9223372036854775808 ≤ x) (h1 : x ≤ 9223372036854775807) : wrap64 x = x := by unfold wrap64; omega
theorem w64_range (x : Int) : -9223372036854775808 ≤ wrap64 x ∧ wrap64 x ≤ 9223372036854775807 := by unfold wrap64; omega
theorem ip {α : Type} {c : Prop} [Decidable c] {a b : α} (h : c) : (if c then a else b) = a := if_pos h
theorem ineg {α : Type} {c : Prop} [Decidable c] {a b : α} (h : ¬ c) : (if c then a else b) = b := if_neg h
theorem wf_range {n : Int} (h : (Lit.int .i64 n).wf = true) : -9223372036854775808 ≤ n ∧ n ≤ 9223372036854775807 := by
  simp only [Lit.wf, IntKind.min, IntKind.max, IntKind.signed, IntKind.bits, Bool.and_eq_true, decide_eq_true_eq, if_true] at h
  omega
theorem wf_u8 {n : Int} (h : (Lit.int .u8 n).wf = true) : 0 ≤ n ∧ n ≤ 255 := by
  simp [Lit.wf, IntKind.min, IntKind.max, IntKind.signed, IntKind.bits] at h
  omega
theorem and_low (x : Int) (i : Nat) (hi : i ≤ 62) : Go.bits .and .i64 x (2 ^ i - 1) = x % 2 ^ i := by
  have hpos : 0 < 2 ^ i := Nat.two_pow_pos i
  have hc : ((2 : Int) ^ i - 1) = ((2 ^ i - 1 : Nat) : Int) := by rw [Int.natCast_sub hpos]; simp
  have h62 : 2 ^ i ≤ 2 ^ 62 := Nat.pow_le_pow_right (by decide) hi
  have hlt : 2 ^ i - 1 < 2 ^ 64 := by omega
  have hd : (2 ^ i : Nat) ∣ 2 ^ 64 := Nat.pow_dvd_pow 2 (by omega)
  rw [hc]
  simp only [Go.bits, BitVec.ofInt_natCast, BitVec.toNat_and, BitVec.toNat_ofNat, BitVec.toNat_ofInt]
  simp only [show IntKind.i64.bits = 64 from rfl]
  rw [Nat.mod_eq_of_lt hlt, Nat.and_two_pow_sub_one_eq_mod]
  have h1 : (((x % ((2 ^ 64 : Nat) : Int)).toNat % 2 ^ i : Nat) : Int) = x % 2 ^ i := by
    rw [Int.natCast_emod, Int.toNat_of_nonneg (Int.emod_nonneg _ (by decide))]
    rw [Int.natCast_pow]
    exact Int.emod_emod_of_dvd _ (by
      have : (((2 ^ i : Nat) : Int)) ∣ ((2 ^ 64 : Nat) : Int) := Int.natCast_dvd_natCast.2 hd
      simpa using this)
  rw [h1]
  have h2 : 0 ≤ x % 2 ^ i := Int.emod_nonneg _ (by
    have : (0 : Int) < 2 ^ i := by exact_mod_cast hpos
    omega)
  have h3 : x % 2 ^ i < 2 ^ i := Int.emod_lt_of_pos _ (by exact_mod_cast hpos)
  have h4 : (2 : Int) ^ i ≤ 2 ^ 62 := by exact_mod_cast h62
  rw [IntKind.wrap_i64]
  omega
theorem and255 (x : Int) : Go.bits .and .i64 x 255 = x % 256 := and_low x 8 (by omega)
theorem and65535 (x : Int) : Go.bits .and .i64 x 65535 = x % 65536 := and_low x 16 (by omega)
theorem and30 (x : Int) : Go.bits .and .i64 x 1073741823 = x % 1073741824 := and_low x 30 (by omega)
theorem and1 (x : Int) : Go.bits .and .i64 x 1 = x % 2 := and_low x 1 (by omega)
/-- A law's last step: both are one. -/
theorem same_end {v : Bool} : (if (v != v) = true then some false else some true : Option Bool) = some true := by simp
theorem Ev.ex {α : Type} {g : Nat → Option α} {r : α} (h : Ev g r) : ∃ k, g k = some r := h.rounds
theorem Ev.from_ {α : Type} {g : Nat → Option α} {r : α} (K : Nat) (h : ∀ k, K ≤ k → g k = some r) : Ev g r := ⟨K, h⟩
theorem Ev.both {α β : Type} {g : Nat → Option α} {f : Nat → Option β} {r : α} {q : β} (h : Ev g r) (h' : Ev f q) : ∃ K, ∀ k, K ≤ k → g k = some r ∧ f k = some q := by
  obtain ⟨K, h⟩ := h
  obtain ⟨K', h'⟩ := h'
  exact ⟨K + K', fun k hk => ⟨h k (by omega), h' k (by omega)⟩⟩

/-! ### in -/
def rng (a b c : Int) : Bool := decide (b ≤ a) && decide (a ≤ c)
theorem rng_iff {a b c : Int} : rng a b c = true ↔ b ≤ a ∧ a ≤ c := by simp [rng]
theorem rng_false {a b c : Int} : rng a b c = false ↔ ¬ (b ≤ a ∧ a ≤ c) := by rw [← rng_iff]; simp
theorem in_eq (a b c : Int) : spec_l01In.f a b c = some (rng a b c) := by
  unfold spec_l01In.f rng
  by_cases h : b ≤ a
  · rw [if_pos h]; simp [h]
  · rw [if_neg h]; simp [h]
theorem within_eq (a b c : Int) : impl_within.f a b c = some (rng a b c) := by
  unfold impl_within.f rng
  by_cases h : b ≤ a
  · rw [if_pos h]; simp [h]
  · rw [if_neg h]; simp [h]

/-! ### bl -/
theorem bl_inj {s t : ByteArray} (h : bytesOf s = bytesOf t) : s = t := by
  unfold bytesOf at h
  have h2 : s.data.toList = t.data.toList := by
    apply List.ext_getElem?
    intro i
    have h3 := congrArg (fun l => l[i]?) h
    simp only [List.getElem?_map] at h3
    cases h4 : s.data.toList[i]? <;> cases h5 : t.data.toList[i]? <;> rw [h4, h5] at h3 <;> simp at h3 ⊢
    exact UInt8.toNat_inj.1 (by omega)
  exact ByteArray.ext (by rw [← Array.toArray_toList (xs := s.data), h2])
theorem bl_app (s t : ByteArray) : bytesOf (s ++ t) = bytesOf s ++ bytesOf t := by
  unfold bytesOf
  rw [ByteArray.toList_data_append, List.map_append]
theorem bl_ext (s : ByteArray) (a b : Nat) : bytesOf (s.extract a b) = ((bytesOf s).drop a).take (b - a) := by
  unfold bytesOf
  rw [ByteArray.data_extract, Array.toList_extract, ← List.map_drop, ← List.map_take] <;> simp [List.extract_eq_drop_take]
theorem bl_range {s : ByteArray} : ∀ x ∈ bytesOf s, 0 ≤ x ∧ x ≤ 255 := by
  intro x hx
  obtain ⟨b, _, rfl⟩ := List.mem_map.1 hx
  have := b.toNat_lt
  omega
theorem bl_str {l : List Int} (h : ∀ x ∈ l, 0 ≤ x ∧ x ≤ 255) : bytesOf (strOfNums l) = l := by
  unfold bytesOf
  rw [strOfNums_data, List.map_map]
  have : ∀ x ∈ l, ((fun b : UInt8 => (b.toNat : Int)) ∘ fun n : Int => UInt8.ofNat n.toNat) x = x := by
    intro x hx
    have := h x hx
    simp only [Function.comp, UInt8.toNat_ofNat']
    omega
  rw [List.map_congr_left this, List.map_id']
theorem str_bl (s : ByteArray) : strOfNums (bytesOf s) = s := bl_inj (bl_str bl_range)
theorem bl_empty : bytesOf (⟨#[]⟩ : ByteArray) = [] := rfl
theorem bt_bl (s : ByteArray) (i : Int) : bt s i = rd (bytesOf s) i := (rd_bytesOf s i).symm
theorem toList_iff {s t : ByteArray} : s.toList = t.toList ↔ s = t := by
  rw [ByteArray.toList_eq, ByteArray.toList_eq]
  constructor
  · intro h; exact ByteArray.ext (by rw [← Array.toArray_toList (xs := s.data), h])
  · intro h; rw [h]
theorem toList_nil {s : ByteArray} : s.toList = ([] : List UInt8) ↔ bytesOf s = [] := by
  rw [ByteArray.toList_eq]
  unfold bytesOf
  simp

/-! ### sum -/
def bitM (x : Int) : Int := if Int.tmod x 2 = 1 then Go.bits .xor .u32 ((Int.tdiv x 2) % 4294967296) 3558460437 else (Int.tdiv x 2) % 4294967296
def bit8 (x : Int) : Int := bitM (bitM (bitM (bitM (bitM (bitM (bitM (bitM x)))))))
def sumB (s : Int) (l : List Int) : Int := l.foldl (fun s b => bit8 (Go.bits .xor .u32 s (b % 4294967296))) s
theorem xor_u32 (a b : Int) : 0 ≤ Go.bits .xor .u32 a b ∧ Go.bits .xor .u32 a b < 4294967296 := by
  simp only [Go.bits]
  rw [IntKind.wrap_u32]
  omega
theorem bitM_range (x : Int) : 0 ≤ bitM x ∧ bitM x < 4294967296 := by
  unfold bitM
  split
  · exact xor_u32 _ _
  · omega
theorem sumB_range (s : Int) (h : 0 ≤ s ∧ s < 4294967296) (l : List Int) : 0 ≤ sumB s l ∧ sumB s l < 4294967296 := by
  unfold sumB
  induction l generalizing s with
  | nil => exact h
  | cons b l ih => exact ih _ (bitM_range _)
theorem spec_bits (s : ByteArray) (i : Int) {r : Int} (x : Int) (h : Ev (fun k => spec_SumMore.l0 k (bit8 x) s (wrap64 (i + 1))) r) : Ev (fun k => spec_SumMore.l1 k x s i 0) r := by
  have step : ∀ (j : Int) (x : Int), 0 ≤ j → j < 8 → Ev (fun k => spec_SumMore.l1 k (bitM x) s i (j + 1)) r → Ev (fun k => spec_SumMore.l1 k x s i j) r := by
    intro j x h0 h1 h
    refine Ev.step (fun k => ?_) h
    simp only [spec_SumMore.l1]
    rw [if_pos h1, w64 (x := j + 1) (by omega) (by omega)]
    unfold bitM
    split <;> rfl
  refine step 0 _ (by omega) (by omega) (step 1 _ (by omega) (by omega) (step 2 _ (by omega) (by omega) (step 3 _ (by omega) (by omega) (step 4 _ (by omega) (by omega) (step 5 _ (by omega) (by omega) (step 6 _ (by omega) (by omega) (step 7 _ (by omega) (by omega) ?_)))))))
  refine Ev.step (fun k => ?_) h
  simp only [spec_SumMore.l1]
  rw [if_neg (by omega)]
  rfl
theorem spec_sum_loop (s : ByteArray) (hs : s.size ≤ 9000000000000000000) : ∀ (d j : Nat) (x : Int), s.size - j = d → j ≤ s.size → Ev (fun k => spec_SumMore.l0 k x s (j : Int)) (sumB x ((bytesOf s).drop j)) := by
  have hl := bytesOf_length s
  intro d
  induction d with
  | zero =>
    intro j x hd hj
    rw [List.drop_of_length_le (by omega)]
    refine Ev.step (f := fun _ => some x) (fun k => ?_) (Ev.now _)
    simp only [spec_SumMore.l0]
    rw [if_neg (by omega)]
  | succ d ih =>
    intro j x hd hj
    have hjl : j < (bytesOf s).length := by omega
    rw [List.drop_eq_getElem_cons hjl]
    have hb : bt s (j : Int) = (bytesOf s)[j] := by rw [bt_bl]; unfold rd; rw [List.getD_eq_getElem?_getD, Int.toNat_natCast, List.getElem?_eq_getElem hjl]; rfl
    refine Ev.step (f := fun k => spec_SumMore.l1 k (Go.bits .xor .u32 x ((bytesOf s)[j] % 4294967296)) s (j : Int) 0) (fun k => ?_) ?_
    · simp only [spec_SumMore.l0]
      rw [if_pos (by omega), if_pos (by omega), hb]
    · refine spec_bits s _ _ ?_
      rw [w64 (x := (j : Int) + 1) (by omega) (by omega)]
      exact ih (j + 1) _ (by omega) (by omega)
theorem spec_SumMore_ok (x : Int) (s : ByteArray) (hs : s.size ≤ 9000000000000000000) : Ev (fun k => spec_SumMore.f k x s) (sumB x (bytesOf s)) := spec_sum_loop s hs s.size 0 x (by omega) (by omega)
theorem spec_SumOf_ok (s : ByteArray) (hs : s.size ≤ 9000000000000000000) : Ev (fun k => spec_SumOf.f k s) (sumB 4294967295 (bytesOf s)) := Ev.bind (spec_SumMore_ok _ s hs) (Ev.now _)
theorem impl_bits (s : ByteArray) (i : Int) {r : Int} (x : Int) (h : Ev (fun k => impl_SumMore.l0 k (bit8 x) s (wrap64 (i + 1))) r) : Ev (fun k => impl_SumMore.l1 k x s i 0) r := by
  have step : ∀ (j : Int) (x : Int), 0 ≤ j → j < 8 → Ev (fun k => impl_SumMore.l1 k (bitM x) s i (j + 1)) r → Ev (fun k => impl_SumMore.l1 k x s i j) r := by
    intro j x h0 h1 h
    refine Ev.step (fun k => ?_) h
    simp only [impl_SumMore.l1]
    rw [if_pos h1, w64 (x := j + 1) (by omega) (by omega)]
    unfold bitM
    split <;> rfl
  refine step 0 _ (by omega) (by omega) (step 1 _ (by omega) (by omega) (step 2 _ (by omega) (by omega) (step 3 _ (by omega) (by omega) (step 4 _ (by omega) (by omega) (step 5 _ (by omega) (by omega) (step 6 _ (by omega) (by omega) (step 7 _ (by omega) (by omega) ?_)))))))
  refine Ev.step (fun k => ?_) h
  simp only [impl_SumMore.l1]
  rw [if_neg (by omega)]
  rfl
theorem impl_sum_loop (s : ByteArray) (hs : s.size ≤ 9000000000000000000) : ∀ (d j : Nat) (x : Int), s.size - j = d → j ≤ s.size → Ev (fun k => impl_SumMore.l0 k x s (j : Int)) (sumB x ((bytesOf s).drop j)) := by
  have hl := bytesOf_length s
  intro d
  induction d with
  | zero =>
    intro j x hd hj
    rw [List.drop_of_length_le (by omega)]
    refine Ev.step (f := fun _ => some x) (fun k => ?_) (Ev.now _)
    simp only [impl_SumMore.l0]
    rw [if_neg (by omega)]
  | succ d ih =>
    intro j x hd hj
    have hjl : j < (bytesOf s).length := by omega
    rw [List.drop_eq_getElem_cons hjl]
    have hb : bt s (j : Int) = (bytesOf s)[j] := by rw [bt_bl]; unfold rd; rw [List.getD_eq_getElem?_getD, Int.toNat_natCast, List.getElem?_eq_getElem hjl]; rfl
    refine Ev.step (f := fun k => impl_SumMore.l1 k (Go.bits .xor .u32 x ((bytesOf s)[j] % 4294967296)) s (j : Int) 0) (fun k => ?_) ?_
    · simp only [impl_SumMore.l0]
      rw [if_pos (by omega), if_pos (by omega), hb]
    · refine impl_bits s _ _ ?_
      rw [w64 (x := (j : Int) + 1) (by omega) (by omega)]
      exact ih (j + 1) _ (by omega) (by omega)
theorem impl_SumMore_ok (x : Int) (s : ByteArray) (hs : s.size ≤ 9000000000000000000) : Ev (fun k => impl_SumMore.f k x s) (sumB x (bytesOf s)) := impl_sum_loop s hs s.size 0 x (by omega) (by omega)
theorem impl_SumOf_ok (s : ByteArray) (hs : s.size ≤ 9000000000000000000) : Ev (fun k => impl_SumOf.f k s) (sumB 4294967295 (bytesOf s)) := Ev.bind (impl_SumMore_ok _ s hs) (Ev.now _)

/-! ### sealed -/
def four (x : Int) : ByteArray := strOfNums [x / 16777216 % 256, x / 65536 % 256, x / 256 % 256, x % 256]
def sumT (s : ByteArray) : ByteArray := four (sumB 4294967295 (bytesOf s))
theorem four_size (x : Int) : (four x).size = 4 := by unfold four; rw [strOfNums_size]; rfl
theorem sumT_size (s : ByteArray) : (sumT s).size = 4 := four_size _
theorem highFirst_ok (x : Int) : ∀ k, 5 < k → impl_highFirst.f k x 4 = some (four x) := by
  intro k hk
  obtain ⟨k, rfl⟩ : ∃ m, k = m + 5 := ⟨k - 5, by omega⟩
  unfold impl_highFirst.f
  rw [if_pos (by omega), if_pos (by decide), w64 (by omega) (by omega)]
  have h3 : List.replicate (4 : Int).toNat (0 : Int) = [0, 0, 0, 0] := rfl
  rw [h3]
  simp only [impl_highFirst.l0, and255]
  rw [if_pos (by omega), if_pos (by omega), if_pos (by simp), w64 (x := (4 - 1 : Int) - 1) (by omega) (by omega)]
  rw [if_pos (by omega), if_pos (by omega), if_pos (by simp), w64 (x := (4 - 1 : Int) - 1 - 1) (by omega) (by omega)]
  rw [if_pos (by omega), if_pos (by omega), if_pos (by simp), w64 (x := (4 - 1 : Int) - 1 - 1 - 1) (by omega) (by omega)]
  rw [if_pos (by omega), if_pos (by omega), if_pos (by simp), w64 (x := (4 - 1 : Int) - 1 - 1 - 1 - 1) (by omega) (by omega)]
  rw [if_neg (by omega)]
  have e : ((([(0 : Int), 0, 0, 0].set ((4 - 1 : Int)).toNat (x % 256 % 256)).set ((4 - 1 : Int) - 1).toNat (x / 256 % 256 % 256)).set ((4 - 1 : Int) - 1 - 1).toNat (x / 256 / 256 % 256 % 256)).set ((4 - 1 : Int) - 1 - 1 - 1).toNat (x / 256 / 256 / 256 % 256 % 256) = [x / 256 / 256 / 256 % 256 % 256, x / 256 / 256 % 256 % 256, x / 256 % 256 % 256, x % 256 % 256] := rfl
  rw [e]
  unfold four
  congr 2
  have h1 : x / 256 / 256 / 256 % 256 % 256 = x / 16777216 % 256 := by omega
  have h2 : x / 256 / 256 % 256 % 256 = x / 65536 % 256 := by omega
  have h4 : x / 256 % 256 % 256 = x / 256 % 256 := by omega
  have h5 : x % 256 % 256 = x % 256 := by omega
  rw [h1, h2, h4, h5]
theorem l02Four_eq (x : Int) : spec_l02Four.f x = some (four x) := rfl
theorem impl_Sealed_ok (s : ByteArray) : ∃ K, ∀ k, K ≤ k → impl_Sealed.f k s = some (if s.size ≤ 20000 then (s ++ sumT s, true) else ((⟨#[]⟩ : ByteArray), false)) := by
  by_cases h : s.size ≤ 20000
  · obtain ⟨K, hK⟩ := impl_SumOf_ok s (by omega)
    refine ⟨K + 6, fun k hk => ?_⟩
    have hr := sumB_range 4294967295 (by omega) (bytesOf s)
    have hK' : impl_SumOf.f k s = some (sumB 4294967295 (bytesOf s)) := hK k (by omega)
    unfold impl_Sealed.f
    rw [if_neg (by omega), hK']
    simp only [Option.bind_some]
    rw [w64 (by omega) (by omega), highFirst_ok _ k (by omega)]
    simp only [Option.bind_some]
    rw [if_pos (by rw [four_size]; omega), if_pos h]
    rfl
  · refine ⟨0, fun k _ => ?_⟩
    unfold impl_Sealed.f
    rw [if_pos (by omega), if_neg h]
/-- What is Unsealed. -/
def unB (s : ByteArray) : ByteArray × Bool :=
  if 4 ≤ s.size ∧ s.size ≤ 20004 ∧ s.extract (s.size - 4) s.size = sumT (s.extract 0 (s.size - 4)) then (s.extract 0 (s.size - 4), true) else ((⟨#[]⟩ : ByteArray), false)
theorem split_at (s : ByteArray) (n : Nat) (h : n ≤ s.size) : s.extract 0 n ++ s.extract n s.size = s := by
  rw [ByteArray.extract_append_extract]
  rw [Nat.min_eq_left (Nat.zero_le _), Nat.max_eq_right h, ByteArray.extract_zero_size]
theorem spec_Unsealed_ok (s : ByteArray) (hs : s.size ≤ 9000000000000000000) : ∃ K, ∀ k, K ≤ k → spec_Unsealed.f k s = some (unB s) := by
  by_cases h4 : 4 ≤ s.size
  · have e : wrap64 ((s.size : Int) - 4) = ((s.size - 4 : Nat) : Int) := by rw [w64 (by omega) (by omega)]; omega
    by_cases h5 : s.size ≤ 20004
    · have hx : (s.extract 0 (s.size - 4)).size = s.size - 4 := by rw [ByteArray.size_extract]; omega
      obtain ⟨K, hK⟩ := spec_SumOf_ok (s.extract 0 (s.size - 4)) (by omega)
      refine ⟨K, fun k hk => ?_⟩
      have hK' : spec_SumOf.f k (s.extract 0 (s.size - 4)) = some (sumB 4294967295 (bytesOf (s.extract 0 (s.size - 4)))) := hK k (by omega)
      unfold spec_Unsealed.f
      rw [e, Int.toNat_natCast, if_neg (by omega), if_neg (by omega), if_pos (by omega), if_pos (by omega), hK']
      simp only [Option.bind_some, l02Four_eq]
      rw [show four (sumB 4294967295 (bytesOf (s.extract 0 (s.size - 4)))) = sumT (s.extract 0 (s.size - 4)) from rfl]
      unfold unB
      by_cases hc : s.extract (s.size - 4) s.size = sumT (s.extract 0 (s.size - 4))
      · rw [if_pos (toList_iff.2 hc), if_pos ⟨h4, h5, hc⟩]
      · rw [if_neg (fun h => hc (toList_iff.1 h)), if_neg (fun h => hc h.2.2)]
    · refine ⟨0, fun k _ => ?_⟩
      unfold spec_Unsealed.f unB
      rw [e, if_neg (by omega), if_pos (by omega), if_neg (fun h => h5 h.2.1)]
  · refine ⟨0, fun k _ => ?_⟩
    unfold spec_Unsealed.f unB
    rw [w64 (by omega) (by omega), if_pos (by omega), if_neg (fun h => h4 h.1)]
theorem impl_Unsealed_ok (s : ByteArray) (hs : s.size ≤ 9000000000000000000) : ∃ K, ∀ k, K ≤ k → impl_Unsealed.f k s = some (unB s) := by
  by_cases h4 : 4 ≤ s.size
  · have e : wrap64 ((s.size : Int) - 4) = ((s.size - 4 : Nat) : Int) := by rw [w64 (by omega) (by omega)]; omega
    have hx : (s.extract 0 (s.size - 4)).size = s.size - 4 := by rw [ByteArray.size_extract]; omega
    obtain ⟨K, hK⟩ := impl_Sealed_ok (s.extract 0 (s.size - 4))
    refine ⟨K, fun k hk => ?_⟩
    unfold impl_Unsealed.f
    rw [e, Int.toNat_natCast, if_neg (by omega), if_pos (by omega), if_pos (by omega), hK k (by omega)]
    simp only [Option.bind_some]
    by_cases h5 : s.size ≤ 20004
    · rw [if_pos (show (s.extract 0 (s.size - 4)).size ≤ 20000 by omega)]
      have hsp := split_at s (s.size - 4) (by omega)
      have hiff : (s.extract 0 (s.size - 4) ++ sumT (s.extract 0 (s.size - 4)) = s) ↔ s.extract (s.size - 4) s.size = sumT (s.extract 0 (s.size - 4)) := by
        constructor
        · intro h; exact ((ByteArray.append_right_inj _).1 (h.trans hsp.symm)).symm
        · intro h; rw [← h]; exact hsp
      by_cases hc : s.extract (s.size - 4) s.size = sumT (s.extract 0 (s.size - 4))
      · have hu : unB s = (s.extract 0 (s.size - 4), true) := by unfold unB; exact if_pos ⟨h4, h5, hc⟩
        rw [hu]
        simp [toList_iff, hiff.2 hc]
      · have hu : unB s = ((⟨#[]⟩ : ByteArray), false) := by unfold unB; exact if_neg (fun h => hc h.2.2)
        rw [hu]
        have hn : ¬ (s.extract 0 (s.size - 4) ++ sumT (s.extract 0 (s.size - 4)) = s) := fun h => hc (hiff.1 h)
        simp [toList_iff, hn]
    · have hu : unB s = ((⟨#[]⟩ : ByteArray), false) := by unfold unB; exact if_neg (fun h => h5 h.2.1)
      rw [if_neg (show ¬ (s.extract 0 (s.size - 4)).size ≤ 20000 by omega), hu]
      simp
  · refine ⟨0, fun k _ => ?_⟩
    unfold impl_Unsealed.f unB
    rw [w64 (by omega) (by omega), if_pos (by omega), if_neg (fun h => h4 h.1)]

/-! ### scan -/
theorem one_bad (s : ByteArray) (a : Int) : impl_scan_one.f s a true = some (0, s, a, true) := by unfold impl_scan_one.f; rw [if_pos rfl]
theorem one_end (s : ByteArray) (a : Int) (h : a ≥ (s.size : Int)) (b : Bool) : impl_scan_one.f s a b = some (0, s, a, true) := by
  unfold impl_scan_one.f
  by_cases hb : b = true
  · rw [if_pos hb]
  · rw [if_neg hb, if_pos h]
theorem one_ok (s : ByteArray) (a : Int) (h0 : 0 ≤ a) (h : a < (s.size : Int)) (hs : s.size ≤ 9000000000000000000) : impl_scan_one.f s a false = some (bt s a, s, a + 1, false) := by
  unfold impl_scan_one.f
  have hb := bt_range s a
  rw [if_neg (by simp), if_neg (by omega), w64 (x := a + 1) (by omega) (by omega), show a + 1 - 1 = a by omega, w64 (x := a) (by omega) (by omega), if_pos h0, if_pos h, w64 (by omega) (by omega)]
theorem rest_bad (s : ByteArray) (a : Int) : impl_scan_rest.f s a true = some ((⟨#[]⟩ : ByteArray), s, a, true) := by unfold impl_scan_rest.f; rw [if_pos rfl]
theorem rest_ok (s : ByteArray) (a : Int) (h0 : 0 ≤ a) (h : a ≤ (s.size : Int)) : impl_scan_rest.f s a false = some (s.extract a.toNat s.size, s, (s.size : Int), false) := by
  unfold impl_scan_rest.f
  rw [if_neg (by simp), if_pos h0, if_pos h]
theorem done_bad (s : ByteArray) (a : Int) : impl_scan_done.f s a true = some (false, s, a, true) := by unfold impl_scan_done.f; rw [if_pos rfl]
theorem done_ok (s : ByteArray) (a : Int) : impl_scan_done.f s a false = some ((a == (s.size : Int)), s, a, false) := by unfold impl_scan_done.f; rw [if_neg (by simp)]

/-! ### cell -/
def cellB (a b c : Int) (s : ByteArray) : Bool := rng a 0 99 && rng b 1 99 && rng c 1 3 && decide (s.size ≤ 60)
theorem spec_CellOk_eq (a b c : Int) (s : ByteArray) : spec_CellOk.f a b c s = some (cellB a b c s) := by
  unfold spec_CellOk.f cellB
  simp only [in_eq, Option.bind_some]
  have h : ((s.size : Int) ≤ 60) ↔ s.size ≤ 60 := by omega
  cases rng a 0 99 <;> cases rng b 1 99 <;> cases rng c 1 3 <;> simp [h]
theorem impl_CellOk_eq (a b c : Int) (s : ByteArray) : impl_CellOk.f a b c s = some (cellB a b c s) := by
  unfold impl_CellOk.f impl_isAddr.f cellB
  simp only [within_eq, Option.bind_some]
  have h : ((s.size : Int) ≤ 60) ↔ s.size ≤ 60 := by omega
  cases rng a 0 99 <;> cases rng b 1 99 <;> cases rng c 1 3 <;> simp [h]
def noCell : Int × Int × Int × ByteArray × Bool := (0, 0, 0, (⟨#[]⟩ : ByteArray), false)
/-- The frame that bytes are, when they are one. -/
def readCellB (s : ByteArray) : Int × Int × Int × ByteArray × Bool :=
  if (unB s).2 = true ∧ 3 ≤ (unB s).1.size ∧ cellB (bt (unB s).1 0) (bt (unB s).1 1) (bt (unB s).1 2) ((unB s).1.extract 3 (unB s).1.size) = true then
    (bt (unB s).1 0, bt (unB s).1 1, bt (unB s).1 2, (unB s).1.extract 3 (unB s).1.size, true) else noCell
theorem unB_size (s : ByteArray) : (unB s).1.size ≤ 20000 := by
  unfold unB
  split
  · rename_i h; simp only [ByteArray.size_extract]; omega
  · simp; decide
theorem spec_ReadCell_ok (s : ByteArray) (hs : s.size ≤ 9000000000000000000) : ∃ K, ∀ k, K ≤ k → spec_ReadCell.f k s = some (readCellB s) := by
  obtain ⟨K, hK⟩ := spec_Unsealed_ok s hs
  refine ⟨K + 1, fun k hk => ?_⟩
  obtain ⟨m, rfl⟩ : ∃ m, k = m + 1 := ⟨k - 1, by omega⟩
  have hsz := unB_size s
  unfold spec_ReadCell.f readCellB noCell
  rw [hK _ (by omega)]
  simp only [Option.bind_some, spec_ReadCell.j0]
  generalize unB s = u at *
  obtain ⟨t, b⟩ := u
  simp only at hsz ⊢
  cases b
  · simp
  · simp only [if_true, true_and]
    by_cases h3 : 3 ≤ t.size
    · have b0 := bt_range t 0
      have b1 := bt_range t 1
      have b2 := bt_range t 2
      rw [if_neg (by simp; omega), if_pos (by omega), if_pos (by omega), if_pos (by omega), if_pos (by omega), w64 (x := bt t 0) (by omega) (by omega), w64 (x := bt t 1) (by omega) (by omega), w64 (x := bt t 2) (by omega) (by omega), spec_CellOk_eq]
      simp only [Option.bind_some]
      by_cases hc : cellB (bt t 0) (bt t 1) (bt t 2) (t.extract 3 t.size) = true
      · rw [if_pos hc, if_pos ⟨h3, hc⟩]
      · rw [if_neg hc, if_neg (fun h => hc h.2)]
    · rw [if_pos (by simp; omega), if_neg (fun h => h3 h.1)]
theorem impl_ReadCell_ok (s : ByteArray) (hs : s.size ≤ 9000000000000000000) : ∃ K, ∀ k, K ≤ k → impl_ReadCell.f k s = some (readCellB s) := by
  obtain ⟨K, hK⟩ := impl_Unsealed_ok s hs
  refine ⟨K, fun k hk => ?_⟩
  have hsz := unB_size s
  unfold impl_ReadCell.f readCellB noCell
  rw [hK _ (by omega)]
  simp only [Option.bind_some]
  generalize unB s = u at *
  obtain ⟨t, b⟩ := u
  simp only at hsz ⊢
  cases b
  · simp [one_bad, rest_bad, done_bad]
  · simp only [Bool.not_true, true_and]
    by_cases h3 : 3 ≤ t.size
    · rw [one_ok t 0 (by omega) (by omega) (by omega)]
      simp only [Option.bind_some]
      rw [one_ok t (0 + 1) (by omega) (by omega) (by omega)]
      simp only [Option.bind_some]
      rw [one_ok t (0 + 1 + 1) (by omega) (by omega) (by omega)]
      simp only [Option.bind_some]
      rw [rest_ok t (0 + 1 + 1 + 1) (by omega) (by omega)]
      simp only [Option.bind_some, done_ok, beq_self_eq_true, if_true, impl_CellOk_eq]
      have e3 : (0 + 1 + 1 + 1 : Int).toNat = 3 := rfl
      have e1 : (0 + 1 : Int) = 1 := rfl
      have e2 : (0 + 1 + 1 : Int) = 2 := rfl
      rw [e3, e2, e1]
      by_cases hc : cellB (bt t 0) (bt t 1) (bt t 2) (t.extract 3 t.size) = true
      · rw [if_pos hc, if_pos ⟨h3, hc⟩]
      · rw [if_neg hc, if_neg (fun h => hc h.2)]
    · rw [if_neg (fun h => h3 h.1)]
      by_cases h1 : t.size = 0
      · rw [one_end t 0 (by omega)]
        simp [one_bad, rest_bad, done_bad]
      · rw [one_ok t 0 (by omega) (by omega) (by omega)]
        simp only [Option.bind_some]
        by_cases h2 : t.size = 1
        · rw [one_end t (0 + 1) (by omega)]
          simp [one_bad, rest_bad, done_bad]
        · rw [one_ok t (0 + 1) (by omega) (by omega) (by omega)]
          simp only [Option.bind_some]
          rw [one_end t (0 + 1 + 1) (by omega)]
          simp [rest_bad, done_bad]

/-! ### FnExactReadCell -/
theorem FnExactReadCell : StFnExactReadCell.Pure := by
  intro s hs
  by_cases hb : (s.size : Int) > 1048576
  · exact ⟨0, by unfold laws_FnExactReadCell.f; rw [if_pos hb]⟩
  · obtain ⟨K1, h1⟩ := spec_ReadCell_ok s (by omega)
    obtain ⟨K2, h2⟩ := impl_ReadCell_ok s (by omega)
    refine ⟨K1 + K2, ?_⟩
    unfold laws_FnExactReadCell.f
    rw [if_neg hb, h1 _ (by omega), h2 _ (by omega)]
    simp [laws_eqCell.f]

end Go.Proofs.Ytakapoionaaimaa.Pure
