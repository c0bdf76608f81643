/- The pure statement of the law 'FnSnaps', proved: over numbers, lists and texts alone. No condition. -/
import Derived.Test.YtfikaimmclgajaaGreatDoorStFnSnaps
import Derived.Laws.BitsLemmas
namespace Go.Proofs.YtfikaimmclgajaaGreatDoor.Pure
open Go.RowKit Go.Proofs.YtfikaimmclgajaaGreatDoor.QFnSnaps Go.Proofs.YtfikaimmclgajaaGreatDoorW.PrintWords Go.Proofs.YtfikaimmclgajaaGreatDoorW.PrintLast Go.Proofs.YtfikaimmclgajaaGreatDoorW.PrintMore Go.Proofs.YtfikaimmclgajaaGreatDoor.StFnSnaps Go.Proofs.YtfikaimmclgajaaGreatDoor.Opens
set_option linter.unusedVariables false
set_option linter.unusedSimpArgs false

/-! ### base -/
theorem w64 {x : Int} (h0 : -9223372036854775808 ≤ x) (h1 : x ≤ 9223372036854775807) : wrap64 x = x := by unfold wrap64; omega
theorem and_low (x : Int) (i : Nat) (hi : i ≤ 62) : Go.bits .and .i64 x (2 ^ i - 1) = x % 2 ^ i := by
  have hpos : 0 < 2 ^ i := Nat.two_pow_pos i
  have hc : ((2 : Int) ^ i - 1) = ((2 ^ i - 1 : Nat) : Int) := by rw [Int.natCast_sub hpos]; simp
  have h62 : 2 ^ i ≤ 2 ^ 62 := Nat.pow_le_pow_right (by decide) hi
  have hlt : 2 ^ i - 1 < 2 ^ 64 := by omega
  have hd : (2 ^ i : Nat) ∣ 2 ^ 64 := Nat.pow_dvd_pow 2 (by omega)
  rw [hc]
  simp only [Go.bits, BitVec.ofInt_natCast, BitVec.toNat_and, BitVec.toNat_ofNat, BitVec.toNat_ofInt]
  simp only [show IntKind.i64.bits = 64 from rfl]
  rw [Nat.mod_eq_of_lt hlt, Nat.and_two_pow_sub_one_eq_mod]
  have h1 : (((x % ((2 ^ 64 : Nat) : Int)).toNat % 2 ^ i : Nat) : Int) = x % 2 ^ i := by
    rw [Int.natCast_emod, Int.toNat_of_nonneg (Int.emod_nonneg _ (by decide))]
    rw [Int.natCast_pow]
    exact Int.emod_emod_of_dvd _ (by
      have : (((2 ^ i : Nat) : Int)) ∣ ((2 ^ 64 : Nat) : Int) := Int.natCast_dvd_natCast.2 hd
      simpa using this)
  rw [h1]
  have h2 : 0 ≤ x % 2 ^ i := Int.emod_nonneg _ (by
    have : (0 : Int) < 2 ^ i := by exact_mod_cast hpos
    omega)
  have h3 : x % 2 ^ i < 2 ^ i := Int.emod_lt_of_pos _ (by exact_mod_cast hpos)
  have h4 : (2 : Int) ^ i ≤ 2 ^ 62 := by exact_mod_cast h62
  rw [IntKind.wrap_i64]
  omega
theorem and255 (x : Int) : Go.bits .and .i64 x 255 = x % 256 := and_low x 8 (by omega)
theorem Ev.ex {α : Type} {g : Nat → Option α} {r : α} (h : Ev g r) : ∃ k, g k = some r := h.rounds
theorem Ev.from_ {α : Type} {g : Nat → Option α} {r : α} (K : Nat) (h : ∀ k, K ≤ k → g k = some r) : Ev g r := ⟨K, h⟩
theorem bl_inj {s t : ByteArray} (h : bytesOf s = bytesOf t) : s = t := by
  unfold bytesOf at h
  have h2 : s.data.toList = t.data.toList := by
    apply List.ext_getElem?
    intro i
    have h3 := congrArg (fun l => l[i]?) h
    simp only [List.getElem?_map] at h3
    cases h4 : s.data.toList[i]? <;> cases h5 : t.data.toList[i]? <;> rw [h4, h5] at h3 <;> simp at h3 ⊢
    exact UInt8.toNat_inj.1 (by omega)
  exact ByteArray.ext (by rw [← Array.toArray_toList (xs := s.data), h2])
theorem bl_app (s t : ByteArray) : bytesOf (s ++ t) = bytesOf s ++ bytesOf t := by
  unfold bytesOf
  rw [ByteArray.toList_data_append, List.map_append]
theorem bl_ext (s : ByteArray) (a b : Nat) : bytesOf (s.extract a b) = ((bytesOf s).drop a).take (b - a) := by
  unfold bytesOf
  rw [ByteArray.data_extract, Array.toList_extract, ← List.map_drop, ← List.map_take] <;> simp [List.extract_eq_drop_take]
theorem bl_range {s : ByteArray} : ∀ x ∈ bytesOf s, 0 ≤ x ∧ x ≤ 255 := by
  intro x hx
  obtain ⟨b, _, rfl⟩ := List.mem_map.1 hx
  have := b.toNat_lt
  omega
theorem bl_str {l : List Int} (h : ∀ x ∈ l, 0 ≤ x ∧ x ≤ 255) : bytesOf (strOfNums l) = l := by
  unfold bytesOf
  rw [strOfNums_data, List.map_map]
  have : ∀ x ∈ l, ((fun b : UInt8 => (b.toNat : Int)) ∘ fun n : Int => UInt8.ofNat n.toNat) x = x := by
    intro x hx
    have := h x hx
    simp only [Function.comp, UInt8.toNat_ofNat']
    omega
  rw [List.map_congr_left this, List.map_id']
theorem bl_empty : bytesOf (⟨#[]⟩ : ByteArray) = [] := rfl
theorem bt_bl (s : ByteArray) (i : Int) : bt s i = rd (bytesOf s) i := (rd_bytesOf s i).symm
theorem toList_iff {s t : ByteArray} : s.toList = t.toList ↔ s = t := by
  rw [ByteArray.toList_eq, ByteArray.toList_eq]
  constructor
  · intro h; exact ByteArray.ext (by rw [← Array.toArray_toList (xs := s.data), h])
  · intro h; rw [h]
theorem toList_nil {s : ByteArray} : s.toList = ([] : List UInt8) ↔ bytesOf s = [] := by
  rw [ByteArray.toList_eq]
  unfold bytesOf
  simp

/-! ### sum -/
def bitM (x : Int) : Int := if Int.tmod x 2 = 1 then Go.bits .xor .u32 ((Int.tdiv x 2) % 4294967296) 3558460437 else (Int.tdiv x 2) % 4294967296
def bit8 (x : Int) : Int := bitM (bitM (bitM (bitM (bitM (bitM (bitM (bitM x)))))))
def sumB (s : Int) (l : List Int) : Int := l.foldl (fun s b => bit8 (Go.bits .xor .u32 s (b % 4294967296))) s
theorem xor_u32 (a b : Int) : 0 ≤ Go.bits .xor .u32 a b ∧ Go.bits .xor .u32 a b < 4294967296 := by
  simp only [Go.bits]
  rw [IntKind.wrap_u32]
  omega
theorem bitM_range (x : Int) : 0 ≤ bitM x ∧ bitM x < 4294967296 := by
  unfold bitM
  split
  · exact xor_u32 _ _
  · omega
theorem sumB_range (s : Int) (h : 0 ≤ s ∧ s < 4294967296) (l : List Int) : 0 ≤ sumB s l ∧ sumB s l < 4294967296 := by
  unfold sumB
  induction l generalizing s with
  | nil => exact h
  | cons b l ih => exact ih _ (bitM_range _)
theorem spec_bits (s : ByteArray) (i : Int) {r : Int} (x : Int) (h : Ev (fun k => spec_SumMore.l0 k (bit8 x) s (wrap64 (i + 1))) r) : Ev (fun k => spec_SumMore.l1 k x s i 0) r := by
  have step : ∀ (j : Int) (x : Int), 0 ≤ j → j < 8 → Ev (fun k => spec_SumMore.l1 k (bitM x) s i (j + 1)) r → Ev (fun k => spec_SumMore.l1 k x s i j) r := by
    intro j x h0 h1 h
    refine Ev.step (fun k => ?_) h
    simp only [spec_SumMore.l1]
    rw [if_pos h1, w64 (x := j + 1) (by omega) (by omega)]
    unfold bitM
    split <;> rfl
  refine step 0 _ (by omega) (by omega) (step 1 _ (by omega) (by omega) (step 2 _ (by omega) (by omega) (step 3 _ (by omega) (by omega) (step 4 _ (by omega) (by omega) (step 5 _ (by omega) (by omega) (step 6 _ (by omega) (by omega) (step 7 _ (by omega) (by omega) ?_)))))))
  refine Ev.step (fun k => ?_) h
  simp only [spec_SumMore.l1]
  rw [if_neg (by omega)]
  rfl
theorem spec_sum_loop (s : ByteArray) (hs : s.size ≤ 9000000000000000000) : ∀ (d j : Nat) (x : Int), s.size - j = d → j ≤ s.size → Ev (fun k => spec_SumMore.l0 k x s (j : Int)) (sumB x ((bytesOf s).drop j)) := by
  have hl := bytesOf_length s
  intro d
  induction d with
  | zero =>
    intro j x hd hj
    rw [List.drop_of_length_le (by omega)]
    refine Ev.step (f := fun _ => some x) (fun k => ?_) (Ev.now _)
    simp only [spec_SumMore.l0]
    rw [if_neg (by omega)]
  | succ d ih =>
    intro j x hd hj
    have hjl : j < (bytesOf s).length := by omega
    rw [List.drop_eq_getElem_cons hjl]
    have hb : bt s (j : Int) = (bytesOf s)[j] := by rw [bt_bl]; unfold rd; rw [List.getD_eq_getElem?_getD, Int.toNat_natCast, List.getElem?_eq_getElem hjl]; rfl
    refine Ev.step (f := fun k => spec_SumMore.l1 k (Go.bits .xor .u32 x ((bytesOf s)[j] % 4294967296)) s (j : Int) 0) (fun k => ?_) ?_
    · simp only [spec_SumMore.l0]
      rw [if_pos (by omega), if_pos (by omega), hb]
    · refine spec_bits s _ _ ?_
      rw [w64 (x := (j : Int) + 1) (by omega) (by omega)]
      exact ih (j + 1) _ (by omega) (by omega)
theorem spec_SumMore_ok (x : Int) (s : ByteArray) (hs : s.size ≤ 9000000000000000000) : Ev (fun k => spec_SumMore.f k x s) (sumB x (bytesOf s)) := spec_sum_loop s hs s.size 0 x (by omega) (by omega)
theorem spec_SumOf_ok (s : ByteArray) (hs : s.size ≤ 9000000000000000000) : Ev (fun k => spec_SumOf.f k s) (sumB 4294967295 (bytesOf s)) := Ev.bind (spec_SumMore_ok _ s hs) (Ev.now _)
theorem impl_bits (s : ByteArray) (i : Int) {r : Int} (x : Int) (h : Ev (fun k => impl_SumMore.l0 k (bit8 x) s (wrap64 (i + 1))) r) : Ev (fun k => impl_SumMore.l1 k x s i 0) r := by
  have step : ∀ (j : Int) (x : Int), 0 ≤ j → j < 8 → Ev (fun k => impl_SumMore.l1 k (bitM x) s i (j + 1)) r → Ev (fun k => impl_SumMore.l1 k x s i j) r := by
    intro j x h0 h1 h
    refine Ev.step (fun k => ?_) h
    simp only [impl_SumMore.l1]
    rw [if_pos h1, w64 (x := j + 1) (by omega) (by omega)]
    unfold bitM
    split <;> rfl
  refine step 0 _ (by omega) (by omega) (step 1 _ (by omega) (by omega) (step 2 _ (by omega) (by omega) (step 3 _ (by omega) (by omega) (step 4 _ (by omega) (by omega) (step 5 _ (by omega) (by omega) (step 6 _ (by omega) (by omega) (step 7 _ (by omega) (by omega) ?_)))))))
  refine Ev.step (fun k => ?_) h
  simp only [impl_SumMore.l1]
  rw [if_neg (by omega)]
  rfl
theorem impl_sum_loop (s : ByteArray) (hs : s.size ≤ 9000000000000000000) : ∀ (d j : Nat) (x : Int), s.size - j = d → j ≤ s.size → Ev (fun k => impl_SumMore.l0 k x s (j : Int)) (sumB x ((bytesOf s).drop j)) := by
  have hl := bytesOf_length s
  intro d
  induction d with
  | zero =>
    intro j x hd hj
    rw [List.drop_of_length_le (by omega)]
    refine Ev.step (f := fun _ => some x) (fun k => ?_) (Ev.now _)
    simp only [impl_SumMore.l0]
    rw [if_neg (by omega)]
  | succ d ih =>
    intro j x hd hj
    have hjl : j < (bytesOf s).length := by omega
    rw [List.drop_eq_getElem_cons hjl]
    have hb : bt s (j : Int) = (bytesOf s)[j] := by rw [bt_bl]; unfold rd; rw [List.getD_eq_getElem?_getD, Int.toNat_natCast, List.getElem?_eq_getElem hjl]; rfl
    refine Ev.step (f := fun k => impl_SumMore.l1 k (Go.bits .xor .u32 x ((bytesOf s)[j] % 4294967296)) s (j : Int) 0) (fun k => ?_) ?_
    · simp only [impl_SumMore.l0]
      rw [if_pos (by omega), if_pos (by omega), hb]
    · refine impl_bits s _ _ ?_
      rw [w64 (x := (j : Int) + 1) (by omega) (by omega)]
      exact ih (j + 1) _ (by omega) (by omega)
theorem impl_SumMore_ok (x : Int) (s : ByteArray) (hs : s.size ≤ 9000000000000000000) : Ev (fun k => impl_SumMore.f k x s) (sumB x (bytesOf s)) := impl_sum_loop s hs s.size 0 x (by omega) (by omega)
theorem impl_SumOf_ok (s : ByteArray) (hs : s.size ≤ 9000000000000000000) : Ev (fun k => impl_SumOf.f k s) (sumB 4294967295 (bytesOf s)) := Ev.bind (impl_SumMore_ok _ s hs) (Ev.now _)

/-! ### sealed -/
def four (x : Int) : ByteArray := strOfNums [x / 16777216 % 256, x / 65536 % 256, x / 256 % 256, x % 256]
def sumT (s : ByteArray) : ByteArray := four (sumB 4294967295 (bytesOf s))
theorem four_size (x : Int) : (four x).size = 4 := by unfold four; rw [strOfNums_size]; rfl
theorem sumT_size (s : ByteArray) : (sumT s).size = 4 := four_size _
theorem highFirst_ok (x : Int) : ∀ k, 5 < k → impl_highFirst.f k x 4 = some (four x) := by
  intro k hk
  obtain ⟨k, rfl⟩ : ∃ m, k = m + 5 := ⟨k - 5, by omega⟩
  unfold impl_highFirst.f
  rw [if_pos (by omega), if_pos (by decide), w64 (by omega) (by omega)]
  have h3 : List.replicate (4 : Int).toNat (0 : Int) = [0, 0, 0, 0] := rfl
  rw [h3]
  simp only [impl_highFirst.l0, and255]
  rw [if_pos (by omega), if_pos (by omega), if_pos (by simp), w64 (x := (4 - 1 : Int) - 1) (by omega) (by omega)]
  rw [if_pos (by omega), if_pos (by omega), if_pos (by simp), w64 (x := (4 - 1 : Int) - 1 - 1) (by omega) (by omega)]
  rw [if_pos (by omega), if_pos (by omega), if_pos (by simp), w64 (x := (4 - 1 : Int) - 1 - 1 - 1) (by omega) (by omega)]
  rw [if_pos (by omega), if_pos (by omega), if_pos (by simp), w64 (x := (4 - 1 : Int) - 1 - 1 - 1 - 1) (by omega) (by omega)]
  rw [if_neg (by omega)]
  have e : ((([(0 : Int), 0, 0, 0].set ((4 - 1 : Int)).toNat (x % 256 % 256)).set ((4 - 1 : Int) - 1).toNat (x / 256 % 256 % 256)).set ((4 - 1 : Int) - 1 - 1).toNat (x / 256 / 256 % 256 % 256)).set ((4 - 1 : Int) - 1 - 1 - 1).toNat (x / 256 / 256 / 256 % 256 % 256) = [x / 256 / 256 / 256 % 256 % 256, x / 256 / 256 % 256 % 256, x / 256 % 256 % 256, x % 256 % 256] := rfl
  rw [e]
  unfold four
  congr 2
  have h1 : x / 256 / 256 / 256 % 256 % 256 = x / 16777216 % 256 := by omega
  have h2 : x / 256 / 256 % 256 % 256 = x / 65536 % 256 := by omega
  have h4 : x / 256 % 256 % 256 = x / 256 % 256 := by omega
  have h5 : x % 256 % 256 = x % 256 := by omega
  rw [h1, h2, h4, h5]
theorem l02Four_eq (x : Int) : spec_l02Four.f x = some (four x) := rfl
theorem impl_Sealed_ok (s : ByteArray) : ∃ K, ∀ k, K ≤ k → impl_Sealed.f k s = some (if s.size ≤ 20000 then (s ++ sumT s, true) else ((⟨#[]⟩ : ByteArray), false)) := by
  by_cases h : s.size ≤ 20000
  · obtain ⟨K, hK⟩ := impl_SumOf_ok s (by omega)
    refine ⟨K + 6, fun k hk => ?_⟩
    have hr := sumB_range 4294967295 (by omega) (bytesOf s)
    have hK' : impl_SumOf.f k s = some (sumB 4294967295 (bytesOf s)) := hK k (by omega)
    unfold impl_Sealed.f
    rw [if_neg (by omega), hK']
    simp only [Option.bind_some]
    rw [w64 (by omega) (by omega), highFirst_ok _ k (by omega)]
    simp only [Option.bind_some]
    rw [if_pos (by rw [four_size]; omega), if_pos h]
    rfl
  · refine ⟨0, fun k _ => ?_⟩
    unfold impl_Sealed.f
    rw [if_pos (by omega), if_neg h]
theorem spec_Sealed_ok (s : ByteArray) : ∃ K, ∀ k, K ≤ k → spec_Sealed.f k s = some (if s.size ≤ 20000 then (s ++ sumT s, true) else ((⟨#[]⟩ : ByteArray), false)) := by
  by_cases h : s.size ≤ 20000
  · obtain ⟨K, hK⟩ := spec_SumOf_ok s (by omega)
    refine ⟨K, fun k hk => ?_⟩
    have hK' : spec_SumOf.f k s = some (sumB 4294967295 (bytesOf s)) := hK k (by omega)
    unfold spec_Sealed.f
    rw [if_neg (by omega), hK']
    simp only [Option.bind_some, l02Four_eq]
    rw [if_pos (by rw [four_size]; omega), if_pos h]
    rfl
  · refine ⟨0, fun k _ => ?_⟩
    unfold spec_Sealed.f
    rw [if_pos (by omega), if_neg h]
def unB (s : ByteArray) : ByteArray × Bool :=
  if 4 ≤ s.size ∧ s.size ≤ 20004 ∧ s.extract (s.size - 4) s.size = sumT (s.extract 0 (s.size - 4)) then (s.extract 0 (s.size - 4), true) else ((⟨#[]⟩ : ByteArray), false)
theorem split_at (s : ByteArray) (n : Nat) (h : n ≤ s.size) : s.extract 0 n ++ s.extract n s.size = s := by
  rw [ByteArray.extract_append_extract]
  rw [Nat.min_eq_left (Nat.zero_le _), Nat.max_eq_right h, ByteArray.extract_zero_size]
theorem impl_Unsealed_ok (s : ByteArray) (hs : s.size ≤ 9000000000000000000) : ∃ K, ∀ k, K ≤ k → impl_Unsealed.f k s = some (unB s) := by
  by_cases h4 : 4 ≤ s.size
  · have e : wrap64 ((s.size : Int) - 4) = ((s.size - 4 : Nat) : Int) := by rw [w64 (by omega) (by omega)]; omega
    have hx : (s.extract 0 (s.size - 4)).size = s.size - 4 := by rw [ByteArray.size_extract]; omega
    obtain ⟨K, hK⟩ := impl_Sealed_ok (s.extract 0 (s.size - 4))
    refine ⟨K, fun k hk => ?_⟩
    unfold impl_Unsealed.f
    rw [e, Int.toNat_natCast, if_neg (by omega), if_pos (by omega), if_pos (by omega), hK k (by omega)]
    simp only [Option.bind_some]
    by_cases h5 : s.size ≤ 20004
    · rw [if_pos (show (s.extract 0 (s.size - 4)).size ≤ 20000 by omega)]
      have hsp := split_at s (s.size - 4) (by omega)
      have hiff : (s.extract 0 (s.size - 4) ++ sumT (s.extract 0 (s.size - 4)) = s) ↔ s.extract (s.size - 4) s.size = sumT (s.extract 0 (s.size - 4)) := by
        constructor
        · intro h; exact ((ByteArray.append_right_inj _).1 (h.trans hsp.symm)).symm
        · intro h; rw [← h]; exact hsp
      by_cases hc : s.extract (s.size - 4) s.size = sumT (s.extract 0 (s.size - 4))
      · have hu : unB s = (s.extract 0 (s.size - 4), true) := by unfold unB; exact if_pos ⟨h4, h5, hc⟩
        rw [hu]
        simp [toList_iff, hiff.2 hc]
      · have hu : unB s = ((⟨#[]⟩ : ByteArray), false) := by unfold unB; exact if_neg (fun h => hc h.2.2)
        rw [hu]
        have hn : ¬ (s.extract 0 (s.size - 4) ++ sumT (s.extract 0 (s.size - 4)) = s) := fun h => hc (hiff.1 h)
        simp [toList_iff, hn]
    · have hu : unB s = ((⟨#[]⟩ : ByteArray), false) := by unfold unB; exact if_neg (fun h => h5 h.2.1)
      rw [if_neg (show ¬ (s.extract 0 (s.size - 4)).size ≤ 20000 by omega), hu]
      simp
  · refine ⟨0, fun k _ => ?_⟩
    unfold impl_Unsealed.f unB
    rw [w64 (by omega) (by omega), if_pos (by omega), if_neg (fun h => h4 h.1)]

/-! ### all -/
def allF (p : Nat → Bool) (j : Nat) : Nat → Bool
  | 0 => true
  | d + 1 => p j && allF p (j + 1) d
theorem all_ev {F : Nat → Nat → Option Bool} {n : Nat} {p : Nat → Bool} {R : Bool}
    (hs : ∀ j, j < n → (p j = true → ∀ r, Ev (fun k => F k (j + 1)) r → Ev (fun k => F k j) r) ∧ (p j = false → Ev (fun k => F k j) false))
    (he : Ev (fun k => F k n) R) : ∀ d j, n - j = d → j ≤ n → Ev (fun k => F k j) (allF p j d && R) := by
  intro d
  induction d with
  | zero =>
    intro j hd hj
    obtain rfl : j = n := by omega
    simpa [allF] using he
  | succ d ih =>
    intro j hd hj
    have h := hs j (by omega)
    cases hp : p j with
    | true =>
      have := ih (j + 1) (by omega) (by omega)
      simp only [allF, hp, Bool.true_and]
      exact h.1 hp _ this
    | false =>
      simp only [allF, hp, Bool.false_and]
      exact h.2 hp
theorem Ev.here {α : Type} {F f : Nat → Option α} {r : α} (hs : ∀ k, F (k + 1) = f k) (h : ∀ k, f k = some r) : Ev F r := Ev.step hs ⟨0, fun k _ => h k⟩
theorem allF_all {p : Nat → Bool} : ∀ d j, allF p j d = true → ∀ i, j ≤ i → i < j + d → p i = true := by
  intro d
  induction d with
  | zero => intro j _ i h1 h2; omega
  | succ d ih =>
    intro j h i h1 h2
    unfold allF at h
    rw [Bool.and_eq_true] at h
    by_cases hij : i = j
    · subst hij; exact h.1
    · exact ih (j + 1) h.2 i (by omega) (by omega)

/-! ### in -/
def rng (a b c : Int) : Bool := decide (b ≤ a) && decide (a ≤ c)
theorem rng_iff {a b c : Int} : rng a b c = true ↔ b ≤ a ∧ a ≤ c := by simp [rng]
theorem rng_false {a b c : Int} : rng a b c = false ↔ ¬ (b ≤ a ∧ a ≤ c) := by rw [← rng_iff]; simp
theorem in_eq (a b c : Int) : spec_l01In.f a b c = some (rng a b c) := by
  unfold spec_l01In.f rng
  by_cases h : b ≤ a
  · rw [if_pos h]; simp [h]
  · rw [if_neg h]; simp [h]
theorem within_eq (a b c : Int) : impl_within.f a b c = some (rng a b c) := by
  unfold impl_within.f rng
  by_cases h : b ≤ a
  · rw [if_pos h]; simp [h]
  · rw [if_neg h]; simp [h]

/-! ### loops -/
theorem getD_at {α : Type} {l : List α} {j : Nat} (z : α) (h : j < l.length) : l.getD (j : Int).toNat z = l[j] := by
  simp [List.getD_eq_getElem?_getD, List.getElem?_eq_getElem h]

/-! ### conf -/
def pC (l : List Int) (j : Nat) : Bool := rng (rd l (j : Int)) 1 4 && (!decide ((j : Int) > 0) || !decide (rd l ((j : Int) - 1) ≥ rd l (j : Int)))
def riseB (l : List Int) : Bool := allF (pC l) 0 l.length
def confB (l : List Int) : Bool := decide (0 < l.length) && riseB l
theorem rise_up {l : List Int} (h : riseB l = true) : ∀ i, i < l.length → (i : Int) + 1 ≤ rd l (i : Int) ∧ rd l (i : Int) ≤ 4 := by
  intro i
  induction i with
  | zero =>
    intro hi
    have := allF_all _ _ h 0 (by omega) (by omega)
    unfold pC at this
    simp only [Bool.and_eq_true, rng_iff] at this
    omega
  | succ i ih =>
    intro hi
    have h0 := ih (by omega)
    have := allF_all _ _ h (i + 1) (by omega) (by omega)
    unfold pC at this
    simp only [Bool.and_eq_true, Bool.or_eq_true, Bool.not_eq_true', decide_eq_false_iff_not, rng_iff] at this
    obtain ⟨h1, h2⟩ := this
    have e : ((i + 1 : Nat) : Int) - 1 = (i : Int) := by omega
    rw [e] at h2
    rcases h2 with h2 | h2
    · exact absurd (show ((i + 1 : Nat) : Int) > 0 by omega) h2
    · omega
theorem rise_len {l : List Int} (h : riseB l = true) : l.length ≤ 4 := by
  rcases Nat.lt_or_ge l.length 5 with h5 | h5
  · omega
  · have := rise_up h 4 (by omega)
    omega
theorem conf_len {l : List Int} (h : confB l = true) : 1 ≤ l.length ∧ l.length ≤ 4 := by
  unfold confB at h
  simp only [Bool.and_eq_true, decide_eq_true_eq] at h
  exact ⟨by omega, rise_len h.2⟩
theorem conf_rng {l : List Int} (h : confB l = true) : ∀ x ∈ l, 1 ≤ x ∧ x ≤ 4 := by
  intro x hx
  unfold confB at h
  simp only [Bool.and_eq_true, decide_eq_true_eq] at h
  obtain ⟨i, hi, rfl⟩ := List.mem_iff_getElem.1 hx
  have := rise_up h.2 i hi
  have e : rd l (i : Int) = l[i] := by unfold rd; simp [List.getD_eq_getElem?_getD, List.getElem?_eq_getElem hi]
  rw [e] at this
  omega
theorem spec_rise (l : List Int) (hl : l.length ≤ 2000000) : Ev (fun k => spec_l05Rise.f k l 1 4) (riseB l) := by
  have h := all_ev (F := fun k j => spec_l05Rise.l0 k l 1 4 (j : Int)) (p := pC l) (R := true) (n := l.length) (fun j hj => ?_) ?_ l.length 0 (by omega) (by omega)
  · rw [Bool.and_true] at h
    exact h
  · have es : ∀ k, spec_l05Rise.l0 (k + 1) l 1 4 (j : Int) = if pC l j = true then spec_l05Rise.l0 k l 1 4 ((j + 1 : Nat) : Int) else some false := fun k => by
      simp only [spec_l05Rise.l0]
      rw [if_pos (by omega), if_pos (by omega)]
      simp only [in_eq, Option.bind_some]
      try simp only [spec_l05Rise.j1]
      rw [w64 (x := (j : Int) + 1) (by omega) (by omega), w64 (x := (j : Int) - 1) (by omega) (by omega)]
      unfold pC
      have e1 : ((j : Int) + 1) = ((j + 1 : Nat) : Int) := by omega
      rw [e1]
      by_cases h0 : (j : Int) > 0
      · simp only [h0, show (0 : Int) ≤ (j : Int) - 1 by omega, show (j : Int) - 1 < (l.length : Int) by omega, if_true]
        cases h1 : rng (rd l (j : Int)) 1 4 <;> by_cases h3 : rd l ((j : Int) - 1) ≥ rd l (j : Int) <;> simp [h1, h3]
      · simp only [h0, if_false]
        cases h1 : rng (rd l (j : Int)) 1 4 <;> simp [h1]
    refine ⟨fun hp r hr => Ev.step (fun k => by rw [es, if_pos hp]) hr, fun hp => Ev.here (f := fun _ => some false) (fun k => by rw [es, if_neg (by simp [hp])]) (fun _ => rfl)⟩
  · exact Ev.here (f := fun _ => some true) (fun k => by simp only [spec_l05Rise.l0]; rw [if_neg (by omega)]) (fun _ => rfl)
theorem spec_conf (l : List Int) (hl : l.length ≤ 2000000) : Ev (fun k => spec_ConfOk.f k l) (confB l) := by
  unfold spec_ConfOk.f
  simp only [in_eq, Option.bind_some]
  cases hr : rng (l.length : Int) 1 4 with
  | false =>
    simp only [Bool.false_eq_true, if_false]
    have : confB l = false := by
      cases hc : confB l with
      | false => rfl
      | true =>
        have := conf_len hc
        have := rng_false.1 hr
        omega
    rw [this]
    exact Ev.now _
  | true =>
    have hh := rng_iff.1 hr
    have : confB l = riseB l := by unfold confB; simp; omega
    rw [this]
    simp only [if_true]
    refine Ev.bind (spec_rise l hl) ?_
    exact Ev.now _
theorem impl_rise (l : List Int) (hl : l.length ≤ 2000000) : Ev (fun k => impl_nodesOk.f k l) (riseB l) := by
  have h := all_ev (F := fun k j => impl_nodesOk.l0 k l l (l.length : Int) (j : Int)) (p := pC l) (R := true) (n := l.length) (fun j hj => ?_) ?_ l.length 0 (by omega) (by omega)
  · rw [Bool.and_true] at h
    exact h
  · have es : ∀ k, impl_nodesOk.l0 (k + 1) l l (l.length : Int) (j : Int) = if pC l j = true then impl_nodesOk.l0 k l l (l.length : Int) ((j + 1 : Nat) : Int) else some false := fun k => by
      simp only [impl_nodesOk.l0]
      rw [if_pos (by omega), if_pos (by omega), if_pos (by omega)]
      simp only [impl_isNode.f, within_eq, Option.bind_some]
      try simp only [impl_nodesOk.j1]
      rw [w64 (x := (j : Int) + 1) (by omega) (by omega), w64 (x := (j : Int) - 1) (by omega) (by omega)]
      unfold pC
      have e1 : ((j : Int) + 1) = ((j + 1 : Nat) : Int) := by omega
      rw [e1]
      by_cases h0 : (j : Int) > 0
      · simp only [h0, show (0 : Int) ≤ (j : Int) - 1 by omega, show (j : Int) - 1 < (l.length : Int) by omega, if_true]
        cases h1 : rng (rd l (j : Int)) 1 4 <;> by_cases h3 : rd l ((j : Int) - 1) ≥ rd l (j : Int) <;> simp [h1, h3]
      · simp only [h0, if_false]
        cases h1 : rng (rd l (j : Int)) 1 4 <;> simp [h1]
    refine ⟨fun hp r hr => Ev.step (fun k => by rw [es, if_pos hp]) hr, fun hp => Ev.here (f := fun _ => some false) (fun k => by rw [es, if_neg (by simp [hp])]) (fun _ => rfl)⟩
  · exact Ev.here (f := fun _ => some true) (fun k => by simp only [impl_nodesOk.l0]; rw [if_neg (by omega)]) (fun _ => rfl)
theorem impl_conf (l : List Int) (hl : l.length ≤ 2000000) : Ev (fun k => impl_ConfOk.f k l) (confB l) := by
  unfold impl_ConfOk.f
  by_cases h : (l.length : Int) > 0
  · have : confB l = riseB l := by unfold confB; simp; omega
    rw [this]
    simp only [if_pos h]
    refine Ev.bind (impl_rise l hl) ?_
    exact Ev.now _
  · have : confB l = false := by unfold confB; simp; omega
    rw [this]
    simp only [if_neg h]
    exact Ev.now _
def confR (s : ByteArray) : List Int × Bool := if confB (bytesOf s) = true then (bytesOf s, true) else ([], false)
theorem wbt (s : ByteArray) (j : Nat) (hj : j < s.size) : wrap64 (bt s (j : Int)) = (bytesOf s)[j]'(by rw [bytesOf_length]; exact hj) := by
  have hl : j < (bytesOf s).length := by rw [bytesOf_length]; exact hj
  have e : bt s (j : Int) = (bytesOf s)[j] := by rw [bt_bl]; unfold rd; simp [List.getD_eq_getElem?_getD, List.getElem?_eq_getElem hl]
  have := bl_range (s := s) _ (List.getElem_mem hl)
  rw [e, w64 (by omega) (by omega)]
theorem impl_rc_loop (s : ByteArray) (hs : s.size ≤ 2000000) : ∀ (d j : Nat), s.size - j = d → j ≤ s.size → Ev (fun k => impl_ReadConf.l0 k s ((bytesOf s).take j) (j : Int)) (confR s) := by
  intro d
  induction d with
  | zero =>
    intro j hd hj
    have hj' : (bytesOf s).take j = bytesOf s := List.take_of_length_le (by rw [bytesOf_length]; omega)
    rw [hj']
    refine Ev.step (fun k => by simp only [impl_ReadConf.l0]; rw [if_neg (by omega)]) ?_
    refine Ev.bind (impl_conf _ (by rw [bytesOf_length]; exact hs)) ?_
    unfold confR
    cases confB (bytesOf s) <;> exact Ev.now _
  | succ d ih =>
    intro j hd hj
    have hl : j < (bytesOf s).length := by rw [bytesOf_length]; omega
    refine Ev.step (fun k => by simp only [impl_ReadConf.l0]; rw [if_pos (by omega), if_pos (by omega), if_pos (by rw [List.length_take]; omega), w64 (x := (j : Int) + 1) (by omega) (by omega), wbt s j (by omega), List.take_append_getElem hl]) ?_
    exact ih (j + 1) (by omega) (by omega)
theorem impl_readconf (s : ByteArray) (hs : s.size ≤ 2000000) : Ev (fun k => impl_ReadConf.f k s) (confR s) := by
  have := impl_rc_loop s hs s.size 0 (by omega) (by omega)
  rw [List.take_zero] at this
  exact this

/-! ### bytes -/
theorem bytes_loop (l : List Int) (hl : l.length ≤ 2000000) : ∀ (d j : Nat) (acc : List Int), l.length - j = d → j ≤ l.length → acc.length = j → ∀ k, d < k → impl_byteTexts.l0 k acc l (l.length : Int) (j : Int) = some (strOfNums (acc ++ (l.drop j).map (· % 256))) := by
  intro d
  induction d with
  | zero =>
    intro j acc hd hj ha k hk
    obtain ⟨k, rfl⟩ : ∃ m, k = m + 1 := ⟨k - 1, by omega⟩
    simp only [impl_byteTexts.l0]
    rw [if_neg (by omega), List.drop_of_length_le (by omega)]
    simp
  | succ d ih =>
    intro j acc hd hj ha k hk
    obtain ⟨k, rfl⟩ : ∃ m, k = m + 1 := ⟨k - 1, by omega⟩
    have hjl : j < l.length := by omega
    have hget : rd l (j : Int) = l[j] := by unfold rd; simp [List.getD_eq_getElem?_getD, List.getElem?_eq_getElem hjl]
    have hdrop : l.drop j = l[j] :: l.drop (j + 1) := List.drop_eq_getElem_cons hjl
    simp only [impl_byteTexts.l0]
    rw [if_pos (by omega), if_pos (by omega), if_pos (by omega), if_pos (by omega), hget, w64 (x := (j : Int) + 1) (by omega) (by omega), hdrop]
    have := ih (j + 1) (acc ++ [l[j] % 256]) (by omega) (by omega) (by rw [List.length_append, List.length_singleton]; omega) k (by omega)
    rw [List.append_assoc] at this
    exact this
theorem bytes_ok (l : List Int) (hl : l.length ≤ 2000000) : ∀ k, l.length < k → impl_byteTexts.f k l = some (strOfNums (l.map (· % 256))) := fun k hk =>
  bytes_loop l hl l.length 0 [] (by omega) (by omega) rfl k hk

/-! ### conftext -/
def confT (l : List Int) : ByteArray := strOfNums (l.map (· % 256))
def confO (l : List Int) : ByteArray × Bool := if confB l = true then (confT l, true) else ((⟨#[]⟩ : ByteArray), false)
theorem confO_size (l : List Int) : (confO l).1.size ≤ 4 := by
  unfold confO
  by_cases h : confB l = true
  · rw [if_pos h]
    have := conf_len h
    show (confT l).size ≤ 4
    unfold confT
    rw [strOfNums_size, List.length_map]
    exact this.2
  · rw [if_neg h]
    show 0 ≤ 4
    omega
theorem conf_mod {l : List Int} (h : confB l = true) : l.map (· % 256) = l := by
  have := conf_rng h
  have e : l.map (· % 256) = l.map id := List.map_congr_left (fun x hx => by have := this x hx; show x % 256 = x; omega)
  rw [e, List.map_id]
theorem conf_back {l : List Int} (h : confB l = true) : bytesOf (confT l) = l := by
  unfold confT
  rw [conf_mod h, bl_str]
  intro x hx
  have := conf_rng h x hx
  omega
theorem spec_ct_loop (l : List Int) (hl : l.length ≤ 2000000) : ∀ (d j : Nat), l.length - j = d → j ≤ l.length → Ev (fun k => spec_ConfText.l0 k l ((l.map (· % 256)).take j) (j : Int)) (confT l, true) := by
  intro d
  induction d with
  | zero =>
    intro j hd hj
    rw [List.take_of_length_le (by rw [List.length_map]; omega)]
    exact Ev.step (f := fun _ => some (strOfNums (l.map (· % 256)), true)) (fun k => by simp only [spec_ConfText.l0]; rw [if_neg (by omega)]) (Ev.now _)
  | succ d ih =>
    intro j hd hj
    have hjl : j < l.length := by omega
    have hm : j < (l.map (· % 256)).length := by rw [List.length_map]; exact hjl
    have e : rd l (j : Int) % 256 = (l.map (· % 256))[j] := by
      rw [List.getElem_map]
      unfold rd
      simp [List.getD_eq_getElem?_getD, List.getElem?_eq_getElem hjl]
    refine Ev.step (fun k => by simp only [spec_ConfText.l0]; rw [if_pos (by omega), if_pos (by omega), if_pos (by rw [List.length_take, List.length_map]; omega), e, List.take_append_getElem hm, w64 (x := (j : Int) + 1) (by omega) (by omega)]) ?_
    exact ih (j + 1) (by omega) (by omega)
theorem spec_conftext (l : List Int) (hl : l.length ≤ 2000000) : Ev (fun k => spec_ConfText.f k l) (confO l) := by
  unfold spec_ConfText.f
  refine Ev.bind (spec_conf l hl) ?_
  unfold confO
  by_cases h : confB l = true
  · simp only [if_pos h]
    have := spec_ct_loop l hl l.length 0 (by omega) (by omega)
    rw [List.take_zero] at this
    exact this
  · simp only [if_neg h]
    exact Ev.now _
theorem impl_conftext (l : List Int) (hl : l.length ≤ 2000000) : Ev (fun k => impl_ConfText.f k l) (confO l) := by
  unfold impl_ConfText.f
  refine Ev.bind (impl_conf l hl) ?_
  unfold confO
  by_cases h : confB l = true
  · simp only [if_pos h]
    exact Ev.bind ⟨l.length + 1, fun k hk => bytes_ok l hl k (by omega)⟩ (Ev.now _)
  · simp only [if_neg h]
    exact Ev.now _

/-! ### var -/
def varL : Nat → Int → List Int
  | 0, x => [x % 256]
  | d + 1, x => if x > 127 then (x % 128 + 128) % 256 :: varL d (x / 128) else [x % 256]
theorem varL_length : ∀ d x, (varL d x).length ≤ d + 1 := by
  intro d
  induction d with
  | zero => intro x; simp [varL]
  | succ d ih =>
    intro x
    unfold varL
    split
    · have := ih (x / 128); simp only [List.length_cons]; omega
    · simp
def varT (x : Int) : ByteArray := strOfNums (varL 8 x)
theorem varT_size (x : Int) : (varT x).size ≤ 9 := by
  unfold varT
  rw [strOfNums_size]
  exact varL_length 8 x
theorem spec_var_loop : ∀ (d : Nat) (x : Int) (acc : List Int), 0 ≤ x → x < 128 ^ (d + 1) → x ≤ 9223372036854775807 → acc.length + d ≤ 1000 → ∀ k, d < k → spec_l01Var.l0 k x acc = some (strOfNums (acc ++ varL d x)) := by
  intro d
  induction d with
  | zero =>
    intro x acc h0 h1 h2 h3 k hk
    obtain ⟨k, rfl⟩ : ∃ m, k = m + 1 := ⟨k - 1, by omega⟩
    simp only [spec_l01Var.l0, varL]
    rw [if_neg (by omega), if_pos (by omega)]
  | succ d ih =>
    intro x acc h0 h1 h2 h3 k hk
    obtain ⟨k, rfl⟩ : ∃ m, k = m + 1 := ⟨k - 1, by omega⟩
    simp only [spec_l01Var.l0, varL]
    by_cases hx : x > 127
    · have hp : (128 : Int) ^ (d + 1 + 1) = 128 ^ (d + 1) * 128 := Int.pow_succ 128 (d + 1)
      rw [if_pos hx, if_pos (by omega), if_pos hx, Int.tdiv_eq_ediv_of_nonneg h0, Int.tmod_eq_emod_of_nonneg h0, w64 (x := x / 128) (by omega) (by omega), w64 (x := x % 128 + 128) (by omega) (by omega)]
      rw [ih (x / 128) (acc ++ [(x % 128 + 128) % 256]) (by omega) (by omega) (by omega) (by rw [List.length_append, List.length_singleton]; omega) k (by omega), List.append_assoc]
      rfl
    · rw [if_neg hx, if_pos (by omega), if_neg hx]
theorem spec_var (x : Int) (h0 : 0 ≤ x) (h1 : x ≤ 1000000000) : Ev (fun k => spec_l01Var.f k x) (varT x) := ⟨9, fun k hk => by
  exact spec_var_loop 8 x [] h0 (by omega) (by omega) (by simp) k (by omega)⟩
theorem impl_var_loop : ∀ (d : Nat) (x : Int) (acc : List Int), 0 ≤ x → x < 128 ^ (d + 1) → x ≤ 9223372036854775807 → acc.length + d ≤ 1000 → ∀ k, d < k → impl_VarText.l0 k x acc = some (strOfNums (acc ++ varL d x), true) := by
  intro d
  induction d with
  | zero =>
    intro x acc h0 h1 h2 h3 k hk
    obtain ⟨k, rfl⟩ : ∃ m, k = m + 1 := ⟨k - 1, by omega⟩
    simp only [impl_VarText.l0, varL]
    rw [if_neg (by omega), if_pos (by omega)]
  | succ d ih =>
    intro x acc h0 h1 h2 h3 k hk
    obtain ⟨k, rfl⟩ : ∃ m, k = m + 1 := ⟨k - 1, by omega⟩
    simp only [impl_VarText.l0, varL]
    by_cases hx : x > 127
    · have hp : (128 : Int) ^ (d + 1 + 1) = 128 ^ (d + 1) * 128 := Int.pow_succ 128 (d + 1)
      rw [if_pos hx, if_pos (by omega), if_pos hx, Int.tdiv_eq_ediv_of_nonneg h0, Int.tmod_eq_emod_of_nonneg h0, w64 (x := x / 128) (by omega) (by omega), w64 (x := x % 128 + 128) (by omega) (by omega)]
      rw [ih (x / 128) (acc ++ [(x % 128 + 128) % 256]) (by omega) (by omega) (by omega) (by rw [List.length_append, List.length_singleton]; omega) k (by omega), List.append_assoc]
      rfl
    · rw [if_neg hx, if_pos (by omega), if_neg hx]
theorem impl_var (x : Int) (h0 : 0 ≤ x) (h1 : x ≤ 1000000000) : Ev (fun k => impl_VarText.f k x) (varT x, true) := ⟨9, fun k hk => by
  unfold impl_VarText.f
  have hr : rng x 0 1000000000 = true := rng_iff.2 ⟨h0, h1⟩
  simp only [within_eq, hr, Option.bind_some, if_true]
  exact impl_var_loop 8 x [] h0 (by omega) (by omega) (by simp) k (by omega)⟩
def shortT (s : ByteArray) : ByteArray := varT (s.size : Int) ++ s
theorem shortT_size (s : ByteArray) : (shortT s).size ≤ s.size + 9 := by
  have := varT_size (s.size : Int)
  unfold shortT
  rw [ByteArray.size_append]
  omega
theorem spec_short (s : ByteArray) (hs : s.size ≤ 1000000000) : Ev (fun k => spec_l16Short.f k s) (shortT s) := by
  unfold spec_l16Short.f
  refine Ev.bind (spec_var (s.size : Int) (by omega) (by omega)) ?_
  have := varT_size (s.size : Int)
  simp only [if_pos (show (varT (s.size : Int)).size + s.size ≤ 9223372036854775807 by omega)]
  exact Ev.now _
theorem impl_short (s : ByteArray) (hs : s.size ≤ 20000) : Ev (fun k => impl_ShortText.f k s) (shortT s, true) := by
  unfold impl_ShortText.f
  simp only [if_neg (show ¬ (s.size : Int) > 20000 by omega)]
  refine Ev.bind (impl_var (s.size : Int) (by omega) (by omega)) ?_
  have := varT_size (s.size : Int)
  simp only [if_pos (show (varT (s.size : Int)).size + s.size ≤ 9223372036854775807 by omega)]
  exact Ev.now _
def catB {α : Type} (f : α → ByteArray) : List α → ByteArray
  | [] => (⟨#[]⟩ : ByteArray)
  | x :: l => f x ++ catB f l
theorem app_empty (s : ByteArray) : s ++ (⟨#[]⟩ : ByteArray) = s := bl_inj (by rw [bl_app, bl_empty, List.append_nil])
theorem empty_app (s : ByteArray) : (⟨#[]⟩ : ByteArray) ++ s = s := bl_inj (by rw [bl_app, bl_empty, List.nil_append])
theorem varTexts_loop (l : List Int) (hl : l.length ≤ 1000000) (hr : ∀ x ∈ l, 0 ≤ x ∧ x ≤ 1000000000) : ∀ (d j : Nat) (acc : ByteArray), l.length - j = d → j ≤ l.length → acc.size ≤ 100 * j → Ev (fun k => impl_varTexts.l0 k acc l (l.length : Int) (j : Int)) (acc ++ catB varT (l.drop j)) := by
  intro d
  induction d with
  | zero =>
    intro j acc hd hj ha
    rw [List.drop_of_length_le (by omega)]
    simp only [catB, app_empty]
    exact Ev.step (f := fun _ => some acc) (fun k => by simp only [impl_varTexts.l0]; rw [if_neg (by omega)]) (Ev.now _)
  | succ d ih =>
    intro j acc hd hj ha
    have hjl : j < l.length := by omega
    have hget : rd l (j : Int) = l[j] := by unfold rd; rw [List.getD_eq_getElem?_getD, Int.toNat_natCast, List.getElem?_eq_getElem hjl]; rfl
    have hx := hr l[j] (List.getElem_mem _)
    refine Ev.step (f := fun k => (impl_VarText.f k l[j]).bind fun bt => if acc.size + bt.1.size ≤ 9223372036854775807 then impl_varTexts.l0 k (acc ++ bt.1) l (l.length : Int) ((j + 1 : Nat) : Int) else none) (fun k => ?_) ?_
    · simp only [impl_varTexts.l0]
      rw [if_pos (by omega), if_pos (by omega), if_pos (by omega), hget, w64 (x := (j : Int) + 1) (by omega) (by omega)]
      rfl
    · refine Ev.bind (impl_var _ hx.1 hx.2) ?_
      have h9 := varT_size l[j]
      simp only [if_pos (show acc.size + (varT l[j]).size ≤ 9223372036854775807 by omega)]
      have := ih (j + 1) (acc ++ varT l[j]) (by omega) (by omega) (by rw [ByteArray.size_append]; omega)
      rw [List.drop_eq_getElem_cons hjl, catB, ← ByteArray.append_assoc]
      exact this
theorem varTexts_ok (l : List Int) (hl : l.length ≤ 1000000) (hr : ∀ x ∈ l, 0 ≤ x ∧ x ≤ 1000000000) : Ev (fun k => impl_varTexts.f k l) (catB varT l) := by
  have := varTexts_loop l hl hr l.length 0 (⟨#[]⟩ : ByteArray) (by omega) (by omega) (by show 0 ≤ _; omega)
  rw [empty_app] at this
  exact this
theorem shortTexts_loop (l : List ByteArray) (hl : l.length ≤ 1000000) (hr : ∀ x ∈ l, x.size ≤ 20000) : ∀ (d j : Nat) (acc : ByteArray), l.length - j = d → j ≤ l.length → acc.size ≤ 30000 * j → Ev (fun k => impl_shortTexts.l0 k acc l (l.length : Int) (j : Int)) (acc ++ catB shortT (l.drop j)) := by
  intro d
  induction d with
  | zero =>
    intro j acc hd hj ha
    rw [List.drop_of_length_le (by omega)]
    simp only [catB, app_empty]
    exact Ev.step (f := fun _ => some acc) (fun k => by simp only [impl_shortTexts.l0]; rw [if_neg (by omega)]) (Ev.now _)
  | succ d ih =>
    intro j acc hd hj ha
    have hjl : j < l.length := by omega
    have hget : rdOf ByteArray.empty l (j : Int) = l[j] := by unfold rdOf; rw [List.getD_eq_getElem?_getD, Int.toNat_natCast, List.getElem?_eq_getElem hjl]; rfl
    have hx := hr l[j] (List.getElem_mem _)
    refine Ev.step (f := fun k => (impl_ShortText.f k l[j]).bind fun bt => if acc.size + bt.1.size ≤ 9223372036854775807 then impl_shortTexts.l0 k (acc ++ bt.1) l (l.length : Int) ((j + 1 : Nat) : Int) else none) (fun k => ?_) ?_
    · simp only [impl_shortTexts.l0]
      rw [if_pos (by omega), if_pos (by omega), if_pos (by omega), hget, w64 (x := (j : Int) + 1) (by omega) (by omega)]
      rfl
    · refine Ev.bind (impl_short _ hx) ?_
      have h9 := shortT_size l[j]
      simp only [if_pos (show acc.size + (shortT l[j]).size ≤ 9223372036854775807 by omega)]
      have := ih (j + 1) (acc ++ shortT l[j]) (by omega) (by omega) (by rw [ByteArray.size_append]; omega)
      rw [List.drop_eq_getElem_cons hjl, catB, ← ByteArray.append_assoc]
      exact this
theorem shortTexts_ok (l : List ByteArray) (hl : l.length ≤ 1000000) (hr : ∀ x ∈ l, x.size ≤ 20000) : Ev (fun k => impl_shortTexts.f k l) (catB shortT l) := by
  have := shortTexts_loop l hl hr l.length 0 (⟨#[]⟩ : ByteArray) (by omega) (by omega) (by show 0 ≤ _; omega)
  rw [empty_app] at this
  exact this

/-! ### readvar -/
def valW : List Int → Int
  | [] => 0
  | x :: l => x % 128 + 128 * valW l
theorem valW_nn : ∀ l, 0 ≤ valW l := by
  intro l
  induction l with
  | nil => simp [valW]
  | cons x l ih => simp only [valW]; omega
theorem valW_app (l : List Int) (c : Int) : valW (l ++ [c]) = valW l + (c % 128) * 128 ^ l.length := by
  induction l with
  | nil => simp [valW]
  | cons x l ih =>
    simp only [List.cons_append, valW, ih, List.length_cons]
    have h1 : (128 : Int) ^ (l.length + 1) = 128 ^ l.length * 128 := Int.pow_succ 128 l.length
    have h2 : 128 * (c % 128 * 128 ^ l.length) = c % 128 * (128 ^ l.length * 128) := by rw [Int.mul_comm 128, Int.mul_assoc]
    rw [h1, Int.mul_add, h2]
    omega
theorem valW_pos (l : List Int) (c : Int) (h0 : 0 ≤ c) (h1 : c ≤ 127) (hc : c ≠ 0) : 1 ≤ valW (l ++ [c]) := by
  induction l with
  | nil => simp only [List.nil_append, valW]; omega
  | cons x l ih => simp only [List.cons_append, valW]; omega
theorem varL_range : ∀ d x, ∀ y ∈ varL d x, 0 ≤ y ∧ y ≤ 255 := by
  intro d
  induction d with
  | zero => intro x y hy; simp only [varL, List.mem_singleton] at hy; omega
  | succ d ih =>
    intro x y hy
    unfold varL at hy
    split at hy
    · rcases List.mem_cons.1 hy with h | h
      · omega
      · exact ih _ y h
    · simp only [List.mem_singleton] at hy; omega
theorem varL_of : ∀ (pre : List Int) (c : Int) (d : Nat), (∀ x ∈ pre, 128 ≤ x ∧ x ≤ 255) → 0 ≤ c → c ≤ 127 → pre.length ≤ d → (pre = [] ∨ c ≠ 0) → varL d (valW (pre ++ [c])) = pre ++ [c] := by
  intro pre
  induction pre with
  | nil =>
    intro c d _ h0 h1 _ _
    have e : valW ([] ++ [c]) = c := by simp only [List.nil_append, valW]; omega
    rw [e]
    cases d with
    | zero => simp only [varL, List.nil_append]; congr 1; omega
    | succ d => simp only [varL, List.nil_append]; rw [if_neg (by omega)]; congr 1; omega
  | cons x l ih =>
    intro c d hp h0 h1 hl hc
    have hc : c ≠ 0 := by
      rcases hc with h | h
      · cases h
      · exact h
    obtain ⟨d, rfl⟩ : ∃ m, d = m + 1 := ⟨d - 1, by simp at hl; omega⟩
    have hx := hp x List.mem_cons_self
    have hw := valW_pos l c h0 h1 hc
    simp only [List.cons_append, valW, varL]
    rw [if_pos (by omega), show (x % 128 + 128 * valW (l ++ [c])) / 128 = valW (l ++ [c]) by omega, ih c d (fun y hy => hp y (List.mem_cons_of_mem _ hy)) h0 h1 (by simp at hl; omega) (.inr hc)]
    congr 1
    omega
theorem varL_not : ∀ (pre : List Int) (d : Nat), (∀ x ∈ pre, 128 ≤ x ∧ x ≤ 255) → pre ≠ [] → varL d (valW (pre ++ [0])) ≠ pre ++ [0] := by
  intro pre
  induction pre with
  | nil => intro d _ h; exact absurd rfl h
  | cons x l ih =>
    intro d hp _ he
    have hx := hp x List.mem_cons_self
    have hlen := congrArg List.length he
    cases d with
    | zero => simp [varL] at hlen
    | succ d =>
      simp only [List.cons_append, valW, varL] at he hlen
      by_cases hv : x % 128 + 128 * valW (l ++ [0]) > 127
      · rw [if_pos hv, show (x % 128 + 128 * valW (l ++ [0])) / 128 = valW (l ++ [0]) by omega] at he
        have ht := (List.cons.inj he).2
        cases l with
        | nil => simp [valW] at hv; omega
        | cons y l => exact ih d (fun z hz => hp z (List.mem_cons_of_mem _ hz)) (by simp) ht
      · rw [if_neg hv] at hlen
        simp at hlen
def preB (s : ByteArray) (a : Int) (i : Nat) : List Int := ((bytesOf s).drop a.toNat).take i
theorem preB_len (s : ByteArray) (a : Int) (i : Nat) (h0 : 0 ≤ a) (h : a + (i : Int) ≤ (s.size : Int)) : (preB s a i).length = i := by
  unfold preB
  rw [List.length_take, List.length_drop, bytesOf_length]
  omega
theorem preB_succ (s : ByteArray) (a : Int) (i : Nat) (h0 : 0 ≤ a) (h : a + (i : Int) < (s.size : Int)) : preB s a (i + 1) = preB s a i ++ [bt s (a + (i : Int))] := by
  unfold preB
  have hl : i < ((bytesOf s).drop a.toNat).length := by rw [List.length_drop, bytesOf_length]; omega
  have e : bt s (a + (i : Int)) = ((bytesOf s).drop a.toNat)[i] := by
    have hb : a.toNat + i < (bytesOf s).length := by rw [bytesOf_length]; omega
    rw [List.getElem_drop, bt_bl]
    unfold rd
    rw [show (a + (i : Int)).toNat = a.toNat + i by omega]
    simp [List.getD_eq_getElem?_getD, List.getElem?_eq_getElem hb]
  rw [e, List.take_append_getElem hl]
theorem ext_preB (s : ByteArray) (a : Int) (i : Nat) (h0 : 0 ≤ a) : bytesOf (s.extract a.toNat (a + (i : Int)).toNat) = preB s a i := by
  rw [bl_ext]
  unfold preB
  rw [show (a + (i : Int)).toNat - a.toNat = i by omega]
def rv (s : ByteArray) (a : Int) : Nat → Nat → Int → Int × Int × Bool
  | 0, _, _ => (0, 0, false)
  | d + 1, i, n =>
    if a + (i : Int) < (s.size : Int) then
      (if bt s (a + (i : Int)) > 127 then rv s a d (i + 1) (n + bt s (a + (i : Int)) % 128 * 128 ^ i)
       else if (0 < i ∧ bt s (a + (i : Int)) = 0) ∨ n + bt s (a + (i : Int)) % 128 * 128 ^ i > 1000000000 then (0, 0, false)
       else (n + bt s (a + (i : Int)) % 128 * 128 ^ i, a + (i : Int) + 1, true))
    else (0, 0, false)
def readV (s : ByteArray) (a : Int) : Int × Int × Bool := if rng a 0 (s.size : Int) = true then rv s a 5 0 0 else (0, 0, false)
theorem pow_bounds (i : Nat) (h : i ≤ 4) : 1 ≤ (128 : Int) ^ i ∧ (128 : Int) ^ i ≤ 268435456 := by
  rcases (by omega : i = 0 ∨ i = 1 ∨ i = 2 ∨ i = 3 ∨ i = 4) with rfl | rfl | rfl | rfl | rfl <;> decide
theorem dig_bounds (c : Int) (i : Nat) (h : i ≤ 4) : 0 ≤ c % 128 * 128 ^ i ∧ c % 128 * 128 ^ i ≤ 127 * 128 ^ i := by
  have hp := pow_bounds i h
  exact ⟨Int.mul_nonneg (by omega) (by omega), Int.mul_le_mul_of_nonneg_right (by omega) (by omega)⟩
theorem shl7 (x : Int) (i : Nat) (hi : i ≤ 4) (h0 : 0 ≤ x) (h1 : x ≤ 127) : shl .i64 x (7 * (i : Int)) = x * 128 ^ i := by
  unfold shl
  rcases (by omega : i = 0 ∨ i = 1 ∨ i = 2 ∨ i = 3 ∨ i = 4) with rfl | rfl | rfl | rfl | rfl
  · rw [show x * 2 ^ min ((7 * ((0 : Nat) : Int)).toNat) IntKind.i64.bits = x * 1 from rfl, show (128 : Int) ^ 0 = 1 from rfl, IntKind.wrap_i64]; omega
  · rw [show x * 2 ^ min ((7 * ((1 : Nat) : Int)).toNat) IntKind.i64.bits = x * 128 from rfl, show (128 : Int) ^ 1 = 128 from rfl, IntKind.wrap_i64]; omega
  · rw [show x * 2 ^ min ((7 * ((2 : Nat) : Int)).toNat) IntKind.i64.bits = x * 16384 from rfl, show (128 : Int) ^ 2 = 16384 from rfl, IntKind.wrap_i64]; omega
  · rw [show x * 2 ^ min ((7 * ((3 : Nat) : Int)).toNat) IntKind.i64.bits = x * 2097152 from rfl, show (128 : Int) ^ 3 = 2097152 from rfl, IntKind.wrap_i64]; omega
  · rw [show x * 2 ^ min ((7 * ((4 : Nat) : Int)).toNat) IntKind.i64.bits = x * 268435456 from rfl, show (128 : Int) ^ 4 = 268435456 from rfl, IntKind.wrap_i64]; omega
theorem impl_rv (s : ByteArray) (a : Int) (h0 : 0 ≤ a) (h1 : a ≤ (s.size : Int)) (hs : s.size ≤ 9000000000000000000) : ∀ (d i : Nat) (n : Int), i + d = 5 → 0 ≤ n → n < 128 ^ i → Ev (fun k => impl_ReadVar.l0 k s a n (i : Int)) (rv s a d i n) := by
  intro d
  induction d with
  | zero =>
    intro i n hd hn0 hn1
    refine Ev.step (fun k => by simp only [impl_ReadVar.l0]; rw [if_neg (by omega)]) ?_
    exact Ev.here (f := fun _ => some (0, 0, false)) (fun k => by simp only [impl_ReadVar.j1, Bool.false_eq_true, if_false]) (fun _ => rfl)
  | succ d ih =>
    intro i n hd hn0 hn1
    have hb := bt_range s (a + (i : Int))
    have ea : wrap64 (a + (i : Int) + 1) = a + (i : Int) + 1 := w64 (by omega) (by omega)
    have ew : wrap64 (a + (i : Int)) = a + (i : Int) := w64 (by omega) (by omega)
    have ei : wrap64 ((i : Int) + 1) = ((i + 1 : Nat) : Int) := by rw [w64 (by omega) (by omega)]; omega
    have e7 : wrap64 (7 * (i : Int)) = 7 * (i : Int) := w64 (by omega) (by omega)
    have h07 : 0 ≤ 7 * (i : Int) := by omega
    have h0i : 0 ≤ a + (i : Int) := by omega
    have hi5 : (i : Int) < 5 := by omega
    have ec : wrap64 (bt s (a + (i : Int))) = bt s (a + (i : Int)) := w64 (by omega) (by omega)
    have em : Int.tmod (bt s (a + (i : Int))) 128 = bt s (a + (i : Int)) % 128 := Int.tmod_eq_emod_of_nonneg hb.1
    have es : shl .i64 (bt s (a + (i : Int)) % 128) (7 * (i : Int)) = bt s (a + (i : Int)) % 128 * 128 ^ i := shl7 _ i (by omega) (by omega) (by omega)
    obtain ⟨q, hq0, hqn⟩ : ∃ q, bt s (a + (i : Int)) % 128 * 128 ^ i = q ∧ (0 ≤ n + q ∧ n + q < 128 ^ (i + 1) ∧ n + q ≤ 9000000000000000000) := by
      have hp := pow_bounds i (by omega)
      have hps : (128 : Int) ^ (i + 1) = 128 ^ i * 128 := Int.pow_succ 128 i
      have hq := dig_bounds (bt s (a + (i : Int))) i (by omega)
      exact ⟨_, rfl, by omega, by omega, by omega⟩
    have en : wrap64 (n + q) = n + q := w64 (by omega) (by omega)
    have ih := ih (i + 1) (n + q) (by omega) hqn.1 hqn.2.1
    refine Ev.step (fun k => by simp only [impl_ReadVar.l0]; rw [if_pos hi5, ew]) ?_
    unfold rv
    rw [hq0] at es ⊢
    by_cases hin : a + (i : Int) < (s.size : Int)
    · rw [if_pos hin, show decide (a + (i : Int) < (s.size : Int)) = true from decide_eq_true hin]
      refine Ev.step (fun k => by simp only [impl_ReadVar.j1, if_true, ew]; rw [if_pos h0i, if_pos hin, e7, if_pos h07, ec, em, es, en, ei, ea]) ?_
      by_cases hc : bt s (a + (i : Int)) > 127
      · rw [if_pos hc]
        simp only [if_pos hc]
        exact ih
      · rw [if_neg hc]
        simp only [if_neg hc]
        by_cases hi : (i : Int) > 0
        · have hi' : 0 < i := Int.natCast_pos.1 hi
          by_cases hz : bt s (a + (i : Int)) = 0
          · have hz' : (0 < i ∧ bt s (a + (i : Int)) = 0) ∨ n + q > 1000000000 := .inl ⟨hi', hz⟩
            rw [if_pos hz']
            simp only [if_pos hi, if_pos hz]
            exact Ev.now _
          · by_cases hm : n + q > 1000000000
            · have hz' : (0 < i ∧ bt s (a + (i : Int)) = 0) ∨ n + q > 1000000000 := .inr hm
              rw [if_pos hz']
              simp only [if_pos hi, if_neg hz, if_pos hm]
              exact Ev.now _
            · have hz' : ¬ ((0 < i ∧ bt s (a + (i : Int)) = 0) ∨ n + q > 1000000000) := fun h => h.elim (fun h => hz h.2) hm
              rw [if_neg hz']
              simp only [if_pos hi, if_neg hz, if_neg hm]
              exact Ev.now _
        · have hi' : ¬ 0 < i := fun h => hi (Int.natCast_pos.2 h)
          by_cases hm : n + q > 1000000000
          · have hz' : (0 < i ∧ bt s (a + (i : Int)) = 0) ∨ n + q > 1000000000 := .inr hm
            rw [if_pos hz']
            simp only [if_neg hi, if_pos hm]
            exact Ev.now _
          · have hz' : ¬ ((0 < i ∧ bt s (a + (i : Int)) = 0) ∨ n + q > 1000000000) := fun h => h.elim (fun h => hi' h.1) hm
            rw [if_neg hz']
            simp only [if_neg hi, if_neg hm]
            exact Ev.now _
    · rw [if_neg hin, show decide (a + (i : Int) < (s.size : Int)) = false from decide_eq_false hin]
      exact Ev.here (f := fun _ => some (0, 0, false)) (fun k => by simp only [impl_ReadVar.j1, Bool.false_eq_true, if_false]) (fun _ => rfl)
theorem impl_readvar (s : ByteArray) (a : Int) (hs : s.size ≤ 9000000000000000000) : Ev (fun k => impl_ReadVar.f k s a) (readV s a) := by
  unfold impl_ReadVar.f readV
  simp only [within_eq, Option.bind_some]
  cases hr : rng a 0 (s.size : Int) with
  | false => simp only [Bool.false_eq_true, if_false]; exact Ev.now _
  | true =>
    have h := rng_iff.1 hr
    simp only [if_true]
    exact impl_rv s a h.1 h.2 hs 5 0 0 (by omega) (by omega) (by decide)
theorem var_is (s : ByteArray) (a : Int) (i : Nat) (h0 : 0 ≤ a) (hin : a + (i : Int) < (s.size : Int)) (hi : i ≤ 8) (hp : ∀ x ∈ preB s a i, 128 ≤ x ∧ x ≤ 255) (hc : bt s (a + (i : Int)) ≤ 127) :
    (varT (valW (preB s a (i + 1))) = s.extract a.toNat (a + (i : Int) + 1).toNat) ↔ ¬ (0 < i ∧ bt s (a + (i : Int)) = 0) := by
  have hb := bt_range s (a + (i : Int))
  have e1 : bytesOf (varT (valW (preB s a (i + 1)))) = varL 8 (valW (preB s a (i + 1))) := bl_str (varL_range 8 _)
  have e2 : bytesOf (s.extract a.toNat (a + (i : Int) + 1).toNat) = preB s a (i + 1) := by
    have := ext_preB s a (i + 1) h0
    rw [show a + ((i + 1 : Nat) : Int) = a + (i : Int) + 1 by omega] at this
    exact this
  have hs := preB_succ s a i h0 hin
  have hl := preB_len s a i h0 (by omega)
  constructor
  · intro h ⟨hi0, hz⟩
    have h2 := congrArg bytesOf h
    rw [e1, e2, hs, hz] at h2
    exact varL_not (preB s a i) 8 hp (by intro he; rw [he] at hl; simp at hl; omega) h2
  · intro h
    apply bl_inj
    rw [e1, e2, hs]
    refine varL_of (preB s a i) _ 8 hp hb.1 hc (by omega) ?_
    by_cases hi0 : 0 < i
    · exact .inr (fun hz => h ⟨hi0, hz⟩)
    · exact .inl (List.length_eq_zero_iff.1 (by omega))
theorem rv_ok (s : ByteArray) (a : Int) (h0 : 0 ≤ a) : ∀ (d i : Nat), i + d = 5 → a + (i : Int) ≤ (s.size : Int) → (∀ x ∈ preB s a i, 128 ≤ x ∧ x ≤ 255) → ∀ v nx, rv s a d i (valW (preB s a i)) = (v, nx, true) →
    (0 ≤ v ∧ v ≤ 1000000000) ∧ (a < nx ∧ nx ≤ (s.size : Int)) ∧ s.extract a.toNat nx.toNat = varT v := by
  intro d
  induction d with
  | zero => intro i _ _ _ v nx h; simp [rv] at h
  | succ d ih =>
    intro i hd hin hp v nx h
    unfold rv at h
    have hb := bt_range s (a + (i : Int))
    by_cases hlt : a + (i : Int) < (s.size : Int)
    · have hsucc := preB_succ s a i h0 hlt
      have hval : valW (preB s a (i + 1)) = valW (preB s a i) + bt s (a + (i : Int)) % 128 * 128 ^ i := by rw [hsucc, valW_app, preB_len s a i h0 hin]
      rw [if_pos hlt, ← hval] at h
      by_cases hc : bt s (a + (i : Int)) > 127
      · rw [if_pos hc] at h
        exact ih (i + 1) (by omega) (by omega) (by
          rw [hsucc]
          intro x hx
          rcases List.mem_append.1 hx with hx | hx
          · exact hp x hx
          · simp only [List.mem_singleton] at hx; omega) v nx h
      · rw [if_neg hc] at h
        by_cases hz : (0 < i ∧ bt s (a + (i : Int)) = 0) ∨ valW (preB s a (i + 1)) > 1000000000
        · rw [if_pos hz] at h
          simp at h
        · rw [if_neg hz] at h
          simp only [Prod.mk.injEq, and_true] at h
          obtain ⟨rfl, rfl⟩ := h
          have hn := valW_nn (preB s a (i + 1))
          have hiff := var_is s a i h0 hlt (by omega) hp (by omega)
          refine ⟨⟨hn, ?_⟩, ⟨by omega, by omega⟩, (hiff.2 (fun h => hz (.inl h))).symm⟩
          rcases Int.lt_or_le 1000000000 (valW (preB s a (i + 1))) with h | h
          · exact absurd (.inr h) hz
          · exact h
    · rw [if_neg hlt] at h
      simp at h
theorem readV_ok {s : ByteArray} {a v nx : Int} (h : readV s a = (v, nx, true)) : (0 ≤ a ∧ a < nx ∧ nx ≤ (s.size : Int)) ∧ (0 ≤ v ∧ v ≤ 1000000000) ∧ s.extract a.toNat nx.toNat = varT v := by
  unfold readV at h
  cases hr : rng a 0 (s.size : Int) with
  | false => rw [hr] at h; simp at h
  | true =>
    have hh := rng_iff.1 hr
    rw [hr, if_pos rfl] at h
    have e : preB s a 0 = [] := by unfold preB; simp
    have := rv_ok s a hh.1 5 0 (by omega) (by omega) (by rw [e]; simp) v nx (by rw [e]; exact h)
    exact ⟨⟨hh.1, this.2.1⟩, this.1, this.2.2⟩
def readS (s : ByteArray) (a : Int) : ByteArray × Int × Bool :=
  if (readV s a).2.2 = true ∧ (readV s a).1 ≤ 20000 ∧ (readV s a).1 ≤ (s.size : Int) - (readV s a).2.1 then (s.extract (readV s a).2.1.toNat ((readV s a).2.1 + (readV s a).1).toNat, (readV s a).2.1 + (readV s a).1, true) else ((⟨#[]⟩ : ByteArray), 0, false)
theorem readS_eqs (s : ByteArray) (a : Int) (hs : s.size ≤ 9000000000000000000) : (if (readV s a).2.2 = true then (if (readV s a).1 > 20000 then (some ((⟨#[]⟩ : ByteArray), (0 : Int), false)) else (if (readV s a).1 > (wrap64 ((s.size : Int) - (readV s a).2.1)) then (some ((⟨#[]⟩ : ByteArray), 0, false)) else (if 0 ≤ (readV s a).2.1 then (if (readV s a).2.1 ≤ (wrap64 ((readV s a).2.1 + (readV s a).1)) then (if (wrap64 ((readV s a).2.1 + (readV s a).1)) ≤ (s.size : Int) then (some (s.extract ((readV s a).2.1 : Int).toNat ((wrap64 ((readV s a).2.1 + (readV s a).1)) : Int).toNat, wrap64 ((readV s a).2.1 + (readV s a).1), true)) else (none)) else (none)) else (none)))) else (some ((⟨#[]⟩ : ByteArray), 0, false))) = some (readS s a) := by
  unfold readS
  by_cases hk : (readV s a).2.2 = true
  · have hv := readV_ok (s := s) (a := a) (v := (readV s a).1) (nx := (readV s a).2.1) (by rw [← hk])
    obtain ⟨⟨h0, h4, h5⟩, ⟨h6, h8⟩, h7⟩ := hv
    rw [if_pos hk, w64 (x := (s.size : Int) - (readV s a).2.1) (by omega) (by omega)]
    by_cases h1 : (readV s a).1 > 20000
    · rw [if_pos h1, if_neg (by omega)]
    · rw [if_neg h1]
      by_cases h2 : (readV s a).1 > (s.size : Int) - (readV s a).2.1
      · rw [if_pos h2, if_neg (by omega)]
      · rw [if_neg h2, if_pos (by omega), w64 (x := (readV s a).2.1 + (readV s a).1) (by omega) (by omega), if_pos (by omega), if_pos (by omega), if_pos ⟨hk, by omega, by omega⟩]
  · rw [if_neg hk, if_neg (fun h => hk h.1)]
theorem impl_readshort (s : ByteArray) (a : Int) (hs : s.size ≤ 9000000000000000000) : Ev (fun k => impl_ReadShort.f k s a) (readS s a) := by
  unfold impl_ReadShort.f
  refine Ev.bind (impl_readvar s a hs) ?_
  simp only [readS_eqs s a hs]
  exact Ev.now _
def numB (s : ByteArray) (a : Int) (b : Bool) : Int × ByteArray × Int × Bool := if b = true then (0, s, a, true) else if (readV s a).2.2 = true then ((readV s a).1, s, (readV s a).2.1, false) else (0, s, a, true)
def shoB (s : ByteArray) (a : Int) (b : Bool) : ByteArray × ByteArray × Int × Bool := if b = true then ((⟨#[]⟩ : ByteArray), s, a, true) else if (readS s a).2.2 = true then ((readS s a).1, s, (readS s a).2.1, false) else ((⟨#[]⟩ : ByteArray), s, a, true)
theorem impl_num (s : ByteArray) (a : Int) (b : Bool) (hs : s.size ≤ 9000000000000000000) : Ev (fun k => impl_scan_number.f k s a b) (numB s a b) := by
  unfold impl_scan_number.f numB
  refine Ev.bind (impl_readvar s a hs) ?_
  cases b
  · by_cases h : (readV s a).2.2 = true
    · simp only [Bool.false_eq_true, if_false, if_pos h]; exact Ev.now _
    · simp only [Bool.false_eq_true, if_false, if_neg h]; exact Ev.now _
  · simp only [if_true]; exact Ev.now _
theorem impl_sho (s : ByteArray) (a : Int) (b : Bool) (hs : s.size ≤ 9000000000000000000) : Ev (fun k => impl_scan_short.f k s a b) (shoB s a b) := by
  unfold impl_scan_short.f shoB
  refine Ev.bind (impl_readshort s a hs) ?_
  cases b
  · by_cases h : (readS s a).2.2 = true
    · simp only [Bool.false_eq_true, if_false, if_pos h]; exact Ev.now _
    · simp only [Bool.false_eq_true, if_false, if_neg h]; exact Ev.now _
  · simp only [if_true]; exact Ev.now _
theorem done_ok (s : ByteArray) (a : Int) : impl_scan_done.f s a false = some ((a == (s.size : Int)), s, a, false) := by unfold impl_scan_done.f; rw [if_neg (by simp)]

/-! ### sz -/
def pS (a : List S84) (j : Nat) : Bool :=
  rng (rd_T84 a j).f0 1 1000000 && (!(decide ((j : Int) > 0) && decide ((rd_T84 a ((j : Int) - 1)).f0 ≥ (rd_T84 a j).f0)) && (rng (rd_T84 a j).f1 0 1000000 && (decide (((rd_T84 a j).f2.size : Int) ≤ 40) && (!decide ((rd_T84 a j).f1 = 0) || decide ((rd_T84 a j).f2.toList = ([] : List UInt8))))))
def pI (a : List S87) (j : Nat) : Bool :=
  rng ((rd_T87 a j).f0.size : Int) 1 8 && ((!decide ((j : Int) > 0) || Op.bytesLess (rd_T87 a ((j : Int) - 1)).f0.toList (rd_T87 a j).f0.toList) && (decide (((rd_T87 a j).f1.size : Int) ≤ 20) && rng (rd_T87 a j).f2 1 1000000000))
def keepB (a : List S84) (b : List S87) : Bool :=
  (allF (pS a) 0 a.length && decide ((a.length : Int) ≤ 3)) && (allF (pI b) 0 b.length && decide ((b.length : Int) ≤ 8))
theorem gt_iff {x : Int} : (x > 40) = ¬ (x ≤ 40) := by simp
theorem gt_iff20 {x : Int} : (x > 20) = ¬ (x ≤ 20) := by simp
theorem spec_sess (a : List S84) (ha : a.length ≤ 1048576) : Ev (fun k => spec_l15Sessions.f k a) (allF (pS a) 0 a.length && decide ((a.length : Int) ≤ 3)) := by
  refine all_ev (F := fun k j => spec_l15Sessions.l0 k a (j : Int)) (n := a.length) (fun j hj => ?_) ?_ a.length 0 (by omega) (by omega)
  · have es : ∀ k, spec_l15Sessions.l0 (k + 1) a (j : Int) = spec_l15Sessions.j1 k a (j : Int) (!pS a j) := fun k => by
      simp only [spec_l15Sessions.l0]
      rw [if_pos (by omega), if_pos (by omega)]
      simp only [in_eq, Option.bind_some, gt_iff]
      rw [w64 (x := (j : Int) - 1) (by omega) (by omega)]
      unfold pS
      by_cases h0 : (j : Int) > 0
      · simp only [h0, show (0 : Int) ≤ (j : Int) - 1 by omega, show (j : Int) - 1 < (a.length : Int) by omega, if_true]
        cases h1 : rng (rd_T84 a j).f0 1 1000000 <;> cases h2 : rng (rd_T84 a j).f1 0 1000000 <;>
          by_cases h3 : (rd_T84 a ((j : Int) - 1)).f0 ≥ (rd_T84 a j).f0 <;> by_cases h4 : ((rd_T84 a j).f2.size : Int) ≤ 40 <;>
          by_cases h5 : (rd_T84 a j).f1 = 0 <;> by_cases h6 : (rd_T84 a j).f2.toList = ([] : List UInt8) <;> simp [h1, h2, h3, h4, h5, h6] <;> exact congrArg (spec_l15Sessions.j1 k a (j : Int)) (bne_iff_ne.2 h6)
      · simp only [h0, if_false]
        cases h1 : rng (rd_T84 a j).f0 1 1000000 <;> cases h2 : rng (rd_T84 a j).f1 0 1000000 <;>
          by_cases h4 : ((rd_T84 a j).f2.size : Int) ≤ 40 <;>
          by_cases h5 : (rd_T84 a j).f1 = 0 <;> by_cases h6 : (rd_T84 a j).f2.toList = ([] : List UInt8) <;> simp [h1, h2, h4, h5, h6] <;> exact congrArg (spec_l15Sessions.j1 k a (j : Int)) (bne_iff_ne.2 h6)
    have e2 : wrap64 ((j : Int) + 1) = ((j + 1 : Nat) : Int) := by rw [w64 (by omega) (by omega)]; omega
    refine ⟨fun hp r hr => Ev.step (fun k => by rw [es, hp]) (Ev.step (fun k => by simp only [spec_l15Sessions.j1, Bool.not_true, Bool.false_eq_true, if_false, e2]) hr), fun hp => Ev.step (fun k => by rw [es, hp]) (Ev.here (f := fun _ => some false) (fun k => by simp only [spec_l15Sessions.j1, Bool.not_false, if_true]) (fun _ => rfl))⟩
  · exact Ev.here (f := fun _ => some (decide ((a.length : Int) ≤ 3))) (fun k => by simp only [spec_l15Sessions.l0]; rw [if_neg (by omega)]) (fun _ => rfl)
theorem spec_KeepOk_ok (a : List S84) (b : List S87) (ha : a.length ≤ 1048576) (hb : b.length ≤ 1048576) : Ev (fun k => spec_KeepOk.f k a b) (keepB a b) := by
  have hfin : Ev (fun k => spec_KeepOk.l0 k ((b.length : Nat) : Int) a b) (allF (pS a) 0 a.length && decide ((a.length : Int) ≤ 3) && decide ((b.length : Int) ≤ 8)) := by
    refine Ev.step (fun k => by simp only [spec_KeepOk.l0]; rw [if_neg (by omega)]) ?_
    refine Ev.bind (spec_sess a ha) ?_
    cases allF (pS a) 0 a.length && decide ((a.length : Int) ≤ 3)
    · simpa using Ev.now false
    · simpa using Ev.now (decide ((b.length : Int) ≤ 8))
  have h := all_ev (F := fun k j => spec_KeepOk.l0 k (j : Int) a b) (p := pI b) (n := b.length) (fun j hj => ?_) hfin b.length 0 (by omega) (by omega)
  · have e : keepB a b = (allF (pI b) 0 b.length && (allF (pS a) 0 a.length && decide ((a.length : Int) ≤ 3) && decide ((b.length : Int) ≤ 8))) := by
      unfold keepB
      cases allF (pI b) 0 b.length <;> cases allF (pS a) 0 a.length && decide ((a.length : Int) ≤ 3) <;> simp
    rw [e]
    exact h
  · have es : ∀ k, spec_KeepOk.l0 (k + 1) (j : Int) a b = spec_KeepOk.j1 k (j : Int) (!pI b j) a b := fun k => by
      simp only [spec_KeepOk.l0]
      rw [if_pos (by omega), if_pos (by omega)]
      simp only [in_eq, Option.bind_some, gt_iff20]
      rw [w64 (x := (j : Int) - 1) (by omega) (by omega)]
      unfold pI
      by_cases h0 : (j : Int) > 0
      · simp only [h0, show (0 : Int) ≤ (j : Int) - 1 by omega, show (j : Int) - 1 < (b.length : Int) by omega, if_true]
        cases h1 : rng ((rd_T87 b j).f0.size : Int) 1 8 <;> cases h2 : rng (rd_T87 b j).f2 1 1000000000 <;>
          cases h3 : Op.bytesLess (rd_T87 b ((j : Int) - 1)).f0.toList (rd_T87 b j).f0.toList <;> by_cases h4 : ((rd_T87 b j).f1.size : Int) ≤ 20 <;> simp [h1, h2, h3, h4]
      · simp only [h0, if_false]
        cases h1 : rng ((rd_T87 b j).f0.size : Int) 1 8 <;> cases h2 : rng (rd_T87 b j).f2 1 1000000000 <;>
          by_cases h4 : ((rd_T87 b j).f1.size : Int) ≤ 20 <;> simp [h1, h2, h4]
    have e2 : wrap64 ((j : Int) + 1) = ((j + 1 : Nat) : Int) := by rw [w64 (by omega) (by omega)]; omega
    refine ⟨fun hp r hr => Ev.step (fun k => by rw [es, hp]) (Ev.step (fun k => by simp only [spec_KeepOk.j1, Bool.not_true, Bool.false_eq_true, if_false, e2]) hr), fun hp => Ev.step (fun k => by rw [es, hp]) (Ev.here (f := fun _ => some false) (fun k => by simp only [spec_KeepOk.j1, Bool.not_false, if_true]) (fun _ => rfl))⟩

/-! ### keeptext -/
def encS (x : S84) : ByteArray := varT x.f0 ++ varT x.f1 ++ shortT x.f2
def encI (x : S87) : ByteArray := shortT x.f0 ++ shortT x.f1 ++ varT x.f2
def keepT (a : List S84) (b : List S87) : ByteArray := varT (a.length : Int) ++ catB encS a ++ (varT (b.length : Int) ++ catB encI b)
theorem keepB_iff {a : List S84} {b : List S87} (h : keepB a b = true) : (a.length ≤ 3 ∧ b.length ≤ 8) ∧
    (∀ j (hj : j < a.length), (1 ≤ a[j].f0 ∧ a[j].f0 ≤ 1000000) ∧ (0 ≤ a[j].f1 ∧ a[j].f1 ≤ 1000000) ∧ a[j].f2.size ≤ 40) ∧ (∀ j (hj : j < b.length), b[j].f0.size ≤ 8 ∧ b[j].f1.size ≤ 20 ∧ (1 ≤ b[j].f2 ∧ b[j].f2 ≤ 1000000000)) := by
  unfold keepB at h
  simp only [Bool.and_eq_true, decide_eq_true_eq] at h
  obtain ⟨⟨hs, ha⟩, hi, hb⟩ := h
  refine ⟨⟨by omega, by omega⟩, fun j hj => ?_, fun j hj => ?_⟩
  · have := allF_all _ _ hs j (by omega) (by omega)
    unfold pS at this
    have hget : rd_T84 a (j : Int) = a[j] := by unfold rd_T84; exact getD_at _ hj
    simp only [Bool.and_eq_true, rng_iff, decide_eq_true_eq, hget] at this
    omega
  · have := allF_all _ _ hi j (by omega) (by omega)
    unfold pI at this
    have hget : rd_T87 b (j : Int) = b[j] := by unfold rd_T87; exact getD_at _ hj
    simp only [Bool.and_eq_true, rng_iff, decide_eq_true_eq, hget] at this
    omega
theorem spec_kt_items (a : List S84) (b : List S87) (h : keepB a b = true) : ∀ (d j : Nat) (acc : ByteArray), b.length - j = d → j ≤ b.length → acc.size ≤ 10000 + 100 * j → Ev (fun k => spec_KeepText.l1 k acc (j : Int) a b) (acc ++ catB encI (b.drop j), true) := by
  obtain ⟨⟨_, hl⟩, _, hI⟩ := keepB_iff h
  intro d
  induction d with
  | zero =>
    intro j acc hd hj ha
    rw [List.drop_of_length_le (by omega)]
    simp only [catB, app_empty]
    exact Ev.step (f := fun _ => some (acc, true)) (fun k => by simp only [spec_KeepText.l1]; rw [if_neg (by omega)]) (Ev.now _)
  | succ d ih =>
    intro j acc hd hj ha
    have hjl : j < b.length := by omega
    obtain ⟨h1, h2, h3⟩ := hI j hjl
    have hget : rd_T87 b (j : Int) = b[j] := by unfold rd_T87; exact getD_at _ hjl
    refine Ev.step (fun k => rfl) ?_
    simp only [spec_KeepText.l1, if_pos (show (j : Int) < (b.length : Int) by omega), if_pos (show (0 : Int) ≤ (j : Int) by omega), hget, w64 (x := (j : Int) + 1) (by omega) (by omega)]
    have s1 := shortT_size b[j].f0
    have s2 := shortT_size b[j].f1
    have s3 := varT_size b[j].f2
    refine Ev.bind (spec_short b[j].f0 (by omega)) ?_
    simp only [if_pos (show acc.size + (shortT b[j].f0).size ≤ 9223372036854775807 by omega)]
    refine Ev.bind (spec_short b[j].f1 (by omega)) ?_
    simp only [if_pos (show (acc ++ shortT b[j].f0).size + (shortT b[j].f1).size ≤ 9223372036854775807 by rw [ByteArray.size_append]; omega)]
    refine Ev.bind (spec_var b[j].f2 (by omega) (by omega)) ?_
    simp only [if_pos (show (acc ++ shortT b[j].f0 ++ shortT b[j].f1).size + (varT b[j].f2).size ≤ 9223372036854775807 by rw [ByteArray.size_append, ByteArray.size_append]; omega)]
    have := ih (j + 1) (acc ++ shortT b[j].f0 ++ shortT b[j].f1 ++ varT b[j].f2) (by omega) (by omega) (by rw [ByteArray.size_append, ByteArray.size_append, ByteArray.size_append]; omega)
    rw [List.drop_eq_getElem_cons hjl, catB, encI]
    simp only [ByteArray.append_assoc] at this ⊢
    exact this
theorem spec_kt_sess (a : List S84) (b : List S87) (h : keepB a b = true) : ∀ (d j : Nat) (acc : ByteArray), a.length - j = d → j ≤ a.length → acc.size ≤ 1000 + 100 * j → Ev (fun k => spec_KeepText.l0 k acc (j : Int) a b) (acc ++ catB encS (a.drop j) ++ (varT (b.length : Int) ++ catB encI b), true) := by
  obtain ⟨⟨hl, hl2⟩, hS, _⟩ := keepB_iff h
  intro d
  induction d with
  | zero =>
    intro j acc hd hj ha
    rw [List.drop_of_length_le (by omega)]
    simp only [catB, app_empty]
    have s0 := varT_size (b.length : Int)
    refine Ev.step (fun k => rfl) ?_
    simp only [spec_KeepText.l0, if_neg (show ¬ (j : Int) < (a.length : Int) by omega)]
    refine Ev.bind (spec_var (b.length : Int) (by omega) (by omega)) ?_
    simp only [if_pos (show acc.size + (varT (b.length : Int)).size ≤ 9223372036854775807 by omega)]
    have := spec_kt_items a b h b.length 0 (acc ++ varT (b.length : Int)) (by omega) (by omega) (by rw [ByteArray.size_append]; omega)
    simp only [List.drop_zero, ByteArray.append_assoc] at this
    exact this
  | succ d ih =>
    intro j acc hd hj ha
    have hjl : j < a.length := by omega
    obtain ⟨h1, h2, h3⟩ := hS j hjl
    have hget : rd_T84 a (j : Int) = a[j] := by unfold rd_T84; exact getD_at _ hjl
    refine Ev.step (fun k => rfl) ?_
    simp only [spec_KeepText.l0, if_pos (show (j : Int) < (a.length : Int) by omega), if_pos (show (0 : Int) ≤ (j : Int) by omega), hget, w64 (x := (j : Int) + 1) (by omega) (by omega)]
    have s1 := varT_size a[j].f0
    have s2 := varT_size a[j].f1
    have s3 := shortT_size a[j].f2
    refine Ev.bind (spec_var a[j].f0 (by omega) (by omega)) ?_
    simp only [if_pos (show acc.size + (varT a[j].f0).size ≤ 9223372036854775807 by omega)]
    refine Ev.bind (spec_var a[j].f1 (by omega) (by omega)) ?_
    simp only [if_pos (show (acc ++ varT a[j].f0).size + (varT a[j].f1).size ≤ 9223372036854775807 by rw [ByteArray.size_append]; omega)]
    refine Ev.bind (spec_short a[j].f2 (by omega)) ?_
    simp only [if_pos (show (acc ++ varT a[j].f0 ++ varT a[j].f1).size + (shortT a[j].f2).size ≤ 9223372036854775807 by rw [ByteArray.size_append, ByteArray.size_append]; omega)]
    have := ih (j + 1) (acc ++ varT a[j].f0 ++ varT a[j].f1 ++ shortT a[j].f2) (by omega) (by omega) (by rw [ByteArray.size_append, ByteArray.size_append, ByteArray.size_append]; omega)
    rw [List.drop_eq_getElem_cons hjl, catB, encS]
    simp only [ByteArray.append_assoc] at this ⊢
    exact this
theorem spec_KeepText_ok (a : List S84) (b : List S87) (ha : a.length ≤ 1048576) (hb : b.length ≤ 1048576) : Ev (fun k => spec_KeepText.f k a b) (if keepB a b = true then (keepT a b, true) else ((⟨#[]⟩ : ByteArray), false)) := by
  unfold spec_KeepText.f
  refine Ev.bind (spec_KeepOk_ok a b ha hb) ?_
  by_cases h : keepB a b = true
  · have s0 := varT_size (a.length : Int)
    simp only [if_pos h]
    refine Ev.bind (spec_var (a.length : Int) (by omega) (by omega)) ?_
    have := spec_kt_sess a b h a.length 0 (varT (a.length : Int)) (by omega) (by omega) (by omega)
    simp only [List.drop_zero] at this
    exact this
  · simp only [if_neg h]
    exact Ev.now _

/-! ### readkeep -/
theorem bt_drop {s : ByteArray} {p : Nat} {x : Int} {l : List Int} (h : (bytesOf s).drop p = x :: l) : p < s.size ∧ bt s (p : Int) = x ∧ (bytesOf s).drop (p + 1) = l := by
  have hl : p < (bytesOf s).length := by
    rcases Nat.lt_or_ge p (bytesOf s).length with h1 | h1
    · exact h1
    · rw [List.drop_of_length_le h1] at h; cases h
  rw [List.drop_eq_getElem_cons hl] at h
  injection h with h1 h2
  refine ⟨by rw [← bytesOf_length]; exact hl, ?_, h2⟩
  rw [bt_bl, ← h1]
  unfold rd
  simp [List.getD_eq_getElem?_getD, List.getElem?_eq_getElem hl]
theorem rv_fwd (s : ByteArray) (p : Nat) (X : Int) (hX : X ≤ 1000000000) (rest : List Int) : ∀ (d i m : Nat) (x n : Int), i + d = 5 → d ≤ m → 1 ≤ d → 0 ≤ x → n + x * 128 ^ i = X → (i = 0 ∨ 1 ≤ x) → x < 128 ^ d → (bytesOf s).drop (p + i) = varL m x ++ rest →
    rv s (p : Int) d i n = (X, ((p + i + (varL m x).length : Nat) : Int), true) := by
  intro d
  induction d with
  | zero => intro i m x n _ _ h; omega
  | succ d ih =>
    intro i m x n hi hm _ hx hn hz hd hb
    obtain ⟨m, rfl⟩ : ∃ q, m = q + 1 := ⟨m - 1, by omega⟩
    have hs : (128 : Int) ^ (i + 1) = 128 ^ i * 128 := Int.pow_succ 128 i
    have hsd : (128 : Int) ^ (d + 1) = 128 ^ d * 128 := Int.pow_succ 128 d
    have ep : (p : Int) + (i : Int) = ((p + i : Nat) : Int) := by omega
    unfold rv
    rw [ep]
    unfold varL at hb ⊢
    by_cases h : x > 127
    · simp only [if_pos h, List.cons_append] at hb ⊢
      obtain ⟨h1, h2, h3⟩ := bt_drop hb
      rw [if_pos (by omega), h2, if_pos (by omega)]
      have e1 : (x % 128 + 128) % 256 % 128 = x % 128 := by omega
      rw [e1]
      have hd1 : 1 ≤ d := by
        rcases Nat.eq_zero_or_pos d with h0 | h0
        · subst h0
          rw [show (128 : Int) ^ (0 + 1) = 128 from rfl] at hd
          omega
        · exact h0
      have e2 : n + x % 128 * 128 ^ i + x / 128 * 128 ^ (i + 1) = X := by
        rw [← hn, hs]
        generalize (128 : Int) ^ i = P
        have e3 : x = 128 * (x / 128) + x % 128 := by omega
        have e4 : x * P = (128 * (x / 128)) * P + x % 128 * P := by rw [← Int.add_mul, ← e3]
        have e5 : x / 128 * (P * 128) = (128 * (x / 128)) * P := by rw [Int.mul_comm P 128, ← Int.mul_assoc, Int.mul_comm (x / 128) 128]
        omega
      have e6 : x / 128 < 128 ^ d := by
        rw [hsd] at hd
        generalize (128 : Int) ^ d = P at hd ⊢
        omega
      have := ih (i + 1) m (x / 128) (n + x % 128 * 128 ^ i) (by omega) (by omega) hd1 (by omega) e2 (.inr (by omega)) e6 (by rw [show p + (i + 1) = p + i + 1 by omega]; exact h3)
      rw [this]
      congr 2
      simp only [List.length_cons]
      omega
    · simp only [if_neg h, List.cons_append, List.nil_append] at hb ⊢
      obtain ⟨h1, h2, h3⟩ := bt_drop hb
      rw [if_pos (by omega), h2]
      have e0 : x % 256 = x := by omega
      have e1 : x % 128 = x := by omega
      rw [e0] at h2
      rw [if_neg (by omega), e0, e1, hn]
      have hc : ¬ ((0 < i ∧ x = 0) ∨ X > 1000000000) := by omega
      rw [if_neg hc]
      congr 2
theorem readV_fwd {s : ByteArray} {p : Nat} {X : Int} {rest : List Int} (h0 : 0 ≤ X) (h1 : X ≤ 1000000000) (hb : (bytesOf s).drop p = varL 8 X ++ rest) : readV s (p : Int) = (X, ((p + (varL 8 X).length : Nat) : Int), true) := by
  unfold readV
  have hl : varL 8 X ≠ [] := by unfold varL; split <;> simp
  have hp : p < s.size := by
    cases hc : varL 8 X with
    | nil => exact absurd hc hl
    | cons x l => rw [hc, List.cons_append] at hb; exact (bt_drop hb).1
  rw [if_pos (rng_iff.2 ⟨by omega, by omega⟩)]
  have h2 : X < 128 ^ 5 := by
    rw [show (128 : Int) ^ 5 = 34359738368 from rfl]
    omega
  have := rv_fwd s p X h1 rest 5 0 8 X 0 (by omega) (by omega) (by omega) h0 (by rw [show (128 : Int) ^ 0 = 1 from rfl]; omega) (.inl rfl) h2 hb
  exact this
theorem numB_fwd {s : ByteArray} {p : Nat} {X : Int} {rest : List Int} (h0 : 0 ≤ X) (h1 : X ≤ 1000000000) (hb : (bytesOf s).drop p = varL 8 X ++ rest) : numB s (p : Int) false = (X, s, ((p + (varL 8 X).length : Nat) : Int), false) ∧ (bytesOf s).drop (p + (varL 8 X).length) = rest := by
  refine ⟨?_, ?_⟩
  · unfold numB
    rw [readV_fwd h0 h1 hb]
    simp
  · rw [← List.drop_drop, hb, List.drop_left]

/-! ### samekeep -/
theorem varL_rng : ∀ d x, ∀ y ∈ varL d x, 0 ≤ y ∧ y ≤ 255 := by
  intro d
  induction d with
  | zero =>
    intro x y hy
    simp only [varL, List.mem_singleton] at hy
    omega
  | succ d ih =>
    intro x y hy
    unfold varL at hy
    split at hy
    · rcases List.mem_cons.1 hy with h | h
      · omega
      · exact ih _ y h
    · rw [List.mem_singleton] at hy
      omega
theorem blV (x : Int) : bytesOf (varT x) = varL 8 x := bl_str (varL_rng 8 x)
theorem varL_pos (d : Nat) (x : Int) : 0 < (varL d x).length := by
  cases d with
  | zero => simp [varL]
  | succ d => unfold varL; split <;> simp
theorem sho_fwd {s t : ByteArray} {p : Nat} {rest : List Int} (ht : t.size ≤ 1000) (hb : (bytesOf s).drop p = bytesOf (shortT t) ++ rest) : shoB s (p : Int) false = (t, s, ((p + (bytesOf (shortT t)).length : Nat) : Int), false) ∧ (bytesOf s).drop (p + (bytesOf (shortT t)).length) = rest := by
  refine ⟨?_, by rw [← List.drop_drop, hb, List.drop_left]⟩
  have e : bytesOf (shortT t) = varL 8 (t.size : Int) ++ bytesOf t := by unfold shortT; rw [bl_app, blV]
  rw [e] at hb ⊢
  rw [List.append_assoc] at hb
  have hl0 := congrArg List.length hb
  rw [List.length_drop, List.length_append, List.length_append, bytesOf_length, bytesOf_length] at hl0
  have hp0 := varL_pos 8 (t.size : Int)
  have hv := readV_fwd (X := (t.size : Int)) (by omega) (by omega) hb
  have hd2 : (bytesOf s).drop (p + (varL 8 (t.size : Int)).length) = bytesOf t ++ rest := by rw [← List.drop_drop, hb, List.drop_left]
  have hx : s.extract (p + (varL 8 (t.size : Int)).length) (p + (varL 8 (t.size : Int)).length + t.size) = t := by
    apply bl_inj
    rw [bl_ext, hd2, show p + (varL 8 (t.size : Int)).length + t.size - (p + (varL 8 (t.size : Int)).length) = (bytesOf t).length by rw [bytesOf_length]; omega, List.take_left]
  have hr : readS s (p : Int) = (t, ((p + ((varL 8 (t.size : Int)).length + t.size) : Nat) : Int), true) := by
    unfold readS
    rw [hv]
    have c1 : (t.size : Int) ≤ 20000 := by omega
    have c2 : (t.size : Int) ≤ (s.size : Int) - ((p + (varL 8 (t.size : Int)).length : Nat) : Int) := by omega
    rw [if_pos ⟨rfl, c1, c2⟩]
    rw [show ((p + (varL 8 (t.size : Int)).length : Nat) : Int).toNat = p + (varL 8 (t.size : Int)).length by omega, show (((p + (varL 8 (t.size : Int)).length : Nat) : Int) + (t.size : Int)).toNat = p + (varL 8 (t.size : Int)).length + t.size by omega, hx]
    rw [show ((p + (varL 8 (t.size : Int)).length : Nat) : Int) + (t.size : Int) = ((p + ((varL 8 (t.size : Int)).length + t.size) : Nat) : Int) by omega]
  unfold shoB
  rw [hr]
  simp only [Bool.false_eq_true, if_false, if_true]
  rw [List.length_append, bytesOf_length]
theorem num_fwd {s : ByteArray} {p : Nat} {X : Int} {rest : List Int} (h0 : 0 ≤ X ∧ X ≤ 1000000000) (hb : (bytesOf s).drop p = bytesOf (varT X) ++ rest) : numB s (p : Int) false = (X, s, ((p + (bytesOf (varT X)).length : Nat) : Int), false) ∧ (bytesOf s).drop (p + (bytesOf (varT X)).length) = rest := by
  rw [blV] at hb ⊢
  exact numB_fwd h0.1 h0.2 hb
def Cur (b : List Int) (i : Int) : Prop := 0 ≤ i ∧ i ≤ (b.length : Int)
theorem new_loop (b : List Int) : ∀ (d : Nat) (i x : Int), 0 ≤ i → i ≤ 4000 → 4000 - i ≤ d → ∃ h, ∀ k, d < k → spec_l01New.l0 k b x i = some (b, 0, h) := by
  intro d
  induction d with
  | zero =>
    intro i x h0 h1 hd
    refine ⟨x, fun k hk => ?_⟩
    obtain ⟨k, rfl⟩ : ∃ m, k = m + 1 := ⟨k - 1, by omega⟩
    simp only [spec_l01New.l0]
    by_cases hl : i < (b.length : Int)
    · rw [if_pos hl, if_neg (by omega)]
    · rw [if_neg hl]
  | succ d ih =>
    intro i x h0 h1 hd
    by_cases hl : i < (b.length : Int) ∧ i < 4000
    · obtain ⟨h, ih⟩ := ih (i + 1) (Go.bits .and .i64 (wrap64 ((wrap64 ((wrap64 (x * 131)) + (wrap64 (rd b i)))) + 7)) 1073741823) (by omega) (by omega) (by omega)
      refine ⟨h, fun k hk => ?_⟩
      obtain ⟨k, rfl⟩ : ∃ m, k = m + 1 := ⟨k - 1, by omega⟩
      simp only [spec_l01New.l0]
      rw [if_pos hl.1, if_pos hl.2, if_pos h0, w64 (x := i + 1) (by omega) (by omega)]
      exact ih k (by omega)
    · refine ⟨x, fun k hk => ?_⟩
      obtain ⟨k, rfl⟩ : ∃ m, k = m + 1 := ⟨k - 1, by omega⟩
      simp only [spec_l01New.l0]
      by_cases hl2 : i < (b.length : Int)
      · rw [if_pos hl2, if_neg (by omega)]
      · rw [if_neg hl2]
theorem new_ok (b : List Int) : ∃ h, Ev (fun k => spec_l01New.f k b) (b, 0, h) := by
  obtain ⟨h, hk⟩ := new_loop b 4000 0 (wrap64 (37401 + (b.length : Int))) (by omega) (by omega) (by omega)
  exact ⟨h, 4001, fun k h1 => hk k (by omega)⟩
theorem cur_zero (b : List Int) : Cur b 0 := ⟨by omega, by omega⟩
theorem byte_ok {b : List Int} {i : Int} (h : Int) (hb : b.length ≤ 1048576) (hi : Cur b i) : ∃ v i' h', spec_l01Byte.f b i h = some (v, i', h') ∧ (0 ≤ v ∧ v ≤ 255) ∧ Cur b i' := by
  obtain ⟨h0, h1⟩ := hi
  unfold spec_l01Byte.f
  by_cases hl : i < (b.length : Int)
  · rw [if_pos hl, if_pos h0]
    refine ⟨_, _, _, rfl, ?_, ?_⟩
    · rw [and255]; omega
    · rw [w64 (by omega) (by omega)]; exact ⟨by omega, by omega⟩
  · rw [if_neg hl]
    refine ⟨_, _, _, rfl, ?_, h0, h1⟩
    rw [and255]; omega
theorem tmod_below {x n : Int} (hx : 0 ≤ x) (hn : 0 < n) : 0 ≤ Int.tmod x n ∧ Int.tmod x n < n := by
  rw [Int.tmod_eq_emod_of_nonneg hx]
  exact ⟨Int.emod_nonneg _ (by omega), Int.emod_lt_of_pos _ hn⟩
theorem below_ok {b : List Int} {i : Int} (h n : Int) (hb : b.length ≤ 1048576) (hi : Cur b i) : ∃ v i' h', spec_l01Below.f b i h n = some (v, i', h') ∧ (0 ≤ v ∧ (0 < n → v < n) ∧ (n ≤ 0 → v = 0)) ∧ Cur b i' := by
  unfold spec_l01Below.f
  by_cases hn : n ≤ 0
  · rw [if_pos hn]
    exact ⟨0, i, h, rfl, ⟨by omega, fun h => by omega, fun _ => rfl⟩, hi⟩
  · rw [if_neg hn]
    by_cases hs : n ≤ 256
    · rw [if_pos hs]
      obtain ⟨v, i', h', e, hv, hi'⟩ := byte_ok h hb hi
      rw [e]
      simp only [Option.bind_some]
      rw [if_neg (by omega)]
      have := tmod_below hv.1 (show 0 < n by omega)
      exact ⟨_, _, _, rfl, ⟨this.1, fun _ => this.2, fun h => absurd h hn⟩, hi'⟩
    · rw [if_neg hs]
      obtain ⟨v1, i1, h1, e1, hv1, hi1⟩ := byte_ok h hb hi
      rw [e1]
      simp only [Option.bind_some]
      obtain ⟨v2, i2, h2, e2, hv2, hi2⟩ := byte_ok h1 hb hi1
      rw [e2]
      simp only [Option.bind_some]
      obtain ⟨v3, i3, h3, e3, hv3, hi3⟩ := byte_ok h2 hb hi2
      rw [e3]
      simp only [Option.bind_some]
      obtain ⟨v4, i4, h4, e4, hv4, hi4⟩ := byte_ok h3 hb hi3
      rw [e4]
      simp only [Option.bind_some]
      rw [if_neg (by omega)]
      rw [w64 (x := v1 * 16777216) (by omega) (by omega), w64 (x := v2 * 65536) (by omega) (by omega), w64 (x := v3 * 256) (by omega) (by omega), w64 (x := v1 * 16777216 + v2 * 65536) (by omega) (by omega),
        w64 (x := v1 * 16777216 + v2 * 65536 + v3 * 256) (by omega) (by omega), w64 (x := v1 * 16777216 + v2 * 65536 + v3 * 256 + v4) (by omega) (by omega)]
      have := tmod_below (show 0 ≤ v1 * 16777216 + v2 * 65536 + v3 * 256 + v4 by omega) (show 0 < n by omega)
      exact ⟨_, _, _, rfl, ⟨this.1, fun _ => this.2, fun h => absurd h hn⟩, hi4⟩
theorem big_eq (b : List Int) : laws_big.f b = some (decide ((b.length : Int) > 1048576)) := rfl

/-! ### tot -/
def Tot {α : Type} (g : Nat → Option α) (P : α → Prop) : Prop := ∃ r, Ev g r ∧ P r
theorem Tot.bind {α β : Type} {g : Nat → Option α} {f : Nat → α → Option β} {P : α → Prop} {Q : β → Prop} (h : Tot g P) (h2 : ∀ r, P r → Tot (fun k => f k r) Q) : Tot (fun k => (g k).bind (f k)) Q := by
  obtain ⟨r, e, hr⟩ := h
  obtain ⟨q, e2, hq⟩ := h2 r hr
  exact ⟨q, Ev.bind e e2, hq⟩
theorem Tot.ret {α : Type} {P : α → Prop} (r : α) (h : P r) : Tot (fun _ => some r) P := ⟨r, Ev.now _, h⟩
theorem Tot.step {α : Type} {F f : Nat → Option α} {P : α → Prop} (hs : ∀ k, F (k + 1) = f k) (h : Tot f P) : Tot F P := by
  obtain ⟨r, e, hr⟩ := h
  exact ⟨r, Ev.step hs e, hr⟩
theorem Tot.mono {α : Type} {g : Nat → Option α} {P Q : α → Prop} (h : Tot g P) (hpq : ∀ r, P r → Q r) : Tot g Q := by
  obtain ⟨r, e, hr⟩ := h
  exact ⟨r, e, hpq r hr⟩
theorem Tot.of_some {α : Type} {o : Option α} {P : α → Prop} (r : α) (e : o = some r) (h : P r) : Tot (fun _ => o) P := ⟨r, ⟨0, fun _ _ => e⟩, h⟩
theorem tBelow {b : List Int} {i : Int} (h n : Int) (hb : b.length ≤ 1048576) (hi : Cur b i) : Tot (fun _ => spec_l01Below.f b i h n) (fun r => (0 ≤ r.1 ∧ (0 < n → r.1 < n) ∧ (n ≤ 0 → r.1 = 0)) ∧ Cur b r.2.1) := by
  obtain ⟨v, i', h', e, hv, hi'⟩ := below_ok h n hb hi
  exact Tot.of_some _ e ⟨hv, hi'⟩
theorem rd_mem {l : List Int} {i : Int} (h0 : 0 ≤ i) (h1 : i < (l.length : Int)) : rd l i ∈ l := by
  unfold rd
  rw [List.getD_eq_getElem?_getD, List.getElem?_eq_getElem (by omega), Option.getD_some]
  exact List.getElem_mem _
theorem tPick {b : List Int} {i : Int} (h : Int) (l : List Int) (hb : b.length ≤ 1048576) (hi : Cur b i) (hl : 0 < l.length) : Tot (fun _ => spec_l01PickInt.f b i h l) (fun r => r.1 ∈ l ∧ Cur b r.2.1) := by
  obtain ⟨v, i', h', e, hv, hi'⟩ := below_ok h (l.length : Int) hb hi
  have h1 := hv.2.1 (by omega)
  refine Tot.of_some (rd l v, i', h') ?_ ⟨rd_mem hv.1 h1, hi'⟩
  unfold spec_l01PickInt.f
  rw [e]
  simp only [Option.bind_some]
  rw [if_pos hv.1, if_pos h1]
theorem tOnce {b : List Int} {i : Int} (h n : Int) (hb : b.length ≤ 1048576) (hi : Cur b i) : Tot (fun _ => spec_l01Once.f b i h n) (fun r => Cur b r.2.1) := by
  obtain ⟨v, i', h', e, _, hi'⟩ := below_ok h n hb hi
  refine Tot.of_some (v == 0, i', h') ?_ hi'
  unfold spec_l01Once.f
  rw [e]
  rfl
theorem tPickT {b : List Int} {i : Int} (h : Int) (l : List ByteArray) (hb : b.length ≤ 1048576) (hi : Cur b i) (hl : 0 < l.length) : Tot (fun _ => spec_l01Pick.f b i h l) (fun r => r.1 ∈ l ∧ Cur b r.2.1) := by
  obtain ⟨v, i', h', e, hv, hi'⟩ := below_ok h (l.length : Int) hb hi
  have h1 := hv.2.1 (by omega)
  have hm : rdOf ByteArray.empty l v ∈ l := by
    unfold rdOf
    rw [List.getD_eq_getElem?_getD, List.getElem?_eq_getElem (by have := hv.1; omega), Option.getD_some]
    exact List.getElem_mem _
  refine Tot.of_some (rdOf ByteArray.empty l v, i', h') ?_ ⟨hm, hi'⟩
  unfold spec_l01Pick.f
  rw [e]
  simp only [Option.bind_some]
  rw [if_pos hv.1, if_pos h1]

/-! ### cmdspec -/
theorem toList_size {s : ByteArray} (h : s.toList = ([] : List UInt8)) : s.size = 0 := by
  have h1 := toList_nil.1 h
  have h2 := bytesOf_length s
  rw [h1] at h2
  simpa using h2.symm
theorem commandOk_rng (o t q : Int) (key val : ByteArray) (v : Int) (k : Nat) (h : spec_CommandOk.f (k + 2) o t q key val v = some true) : (0 ≤ t ∧ t ≤ 1000000) ∧ (0 ≤ q ∧ q ≤ 1000000) ∧ (0 ≤ v ∧ v ≤ 1000000000) ∧ (1 ≤ o ∧ o ≤ 5) ∧ key.size ≤ 8 ∧ val.size ≤ 20 := by
  unfold spec_CommandOk.f at h
  simp only [in_eq, Option.bind_some, spec_CommandOk.j0, spec_CommandOk.j1] at h
  cases ht : rng t 0 1000000 with
  | false => simp [ht] at h
  | true =>
    cases hq : rng q 0 1000000 with
    | false => simp [ht, hq] at h
    | true =>
      cases ho : rng o 1 5 with
      | false => simp [ht, hq, ho] at h
      | true =>
        refine ⟨rng_iff.1 ht, rng_iff.1 hq, ?_⟩
        simp only [ht, hq, ho, if_true, Bool.not_true, Bool.false_eq_true, if_false] at h
        by_cases h1 : o = 1
        · subst h1
          by_cases c : key.toList = []
          · by_cases d : val.toList = []
            · by_cases hv : v = 0
              · have := toList_size c
                have := toList_size d
                exact ⟨by omega, by omega, by omega, by omega⟩
              · exfalso
                revert h
                by_cases h7 : t = 0 <;> by_cases h8 : q = 0 <;> simp [h7, h8, hv, c, d]
            · simp [c, d] at h
          · simp [c] at h
        · simp only [if_neg h1] at h
          cases hk : rng (key.size : Int) 1 8 with
          | false => simp [hk] at h
          | true =>
            have hk' := rng_iff.1 hk
            simp only [hk, if_true, decide_eq_true_eq] at h
            by_cases hv20 : (val.size : Int) > 20
            · simp [hv20] at h
            · simp only [if_neg hv20] at h
              refine ⟨?_, rng_iff.1 ho, by omega, by omega⟩
              by_cases h2 : o = 2
              · simp only [if_pos h2, Option.some.injEq, beq_iff_eq] at h
                omega
              · by_cases h5 : o = 5
                · simp only [if_neg h2, if_pos h5, Option.some.injEq] at h
                  have := rng_iff.1 h
                  omega
                · by_cases d : val.toList = []
                  · simp only [if_neg h2, if_neg h5, if_pos d, Option.some.injEq, beq_iff_eq] at h
                    omega
                  · simp [h2, h5, d] at h
theorem spec_cmd_k (o t q : Int) (key val : ByteArray) (v : Int) (k : Nat) : spec_CommandOk.f (k + 3) o t q key val v = spec_CommandOk.f (0 + 3) o t q key val v := by
  unfold spec_CommandOk.f
  simp only [spec_CommandOk.j0, spec_CommandOk.j1]
theorem spec_cmd_ev (o t q : Int) (key val : ByteArray) (v : Int) : ∃ b, Ev (fun k => spec_CommandOk.f k o t q key val v) b ∧ (b = true → (0 ≤ t ∧ t ≤ 1000000) ∧ (0 ≤ q ∧ q ≤ 1000000) ∧ (0 ≤ v ∧ v ≤ 1000000000) ∧ (1 ≤ o ∧ o ≤ 5) ∧ key.size ≤ 8 ∧ val.size ≤ 20) := by
  have ht : (spec_CommandOk.f (0 + 3) o t q key val v).isSome = true := by
    unfold spec_CommandOk.f
    simp only [in_eq, Option.bind_some, spec_CommandOk.j0, spec_CommandOk.j1]
    repeat' split
    all_goals rfl
  obtain ⟨b, hb⟩ := Option.isSome_iff_exists.1 ht
  refine ⟨b, ⟨3, fun k hk => ?_⟩, fun h => ?_⟩
  · obtain ⟨m, rfl⟩ : ∃ m, k = m + 3 := ⟨k - 3, by omega⟩
    show spec_CommandOk.f (m + 3) o t q key val v = some b
    rw [spec_cmd_k]
    exact hb
  · subst h
    exact commandOk_rng o t q key val v 1 hb

/-! ### cmddraw -/
theorem item_tot (a : List S84) (l : List S87) (s : ByteArray) (hl : l.length ≤ 1048576) : ∀ (d j : Nat), l.length - j = d → j ≤ l.length → Tot (fun k => spec_ItemOf.l0 k s (j : Int) a l) (fun _ => True) := by
  intro d
  induction d with
  | zero =>
    intro j hd hj
    refine Tot.step (fun k => rfl) ?_
    simp only [spec_ItemOf.l0, if_neg (show ¬ (j : Int) < (l.length : Int) by omega)]
    exact Tot.ret _ trivial
  | succ d ih =>
    intro j hd hj
    refine Tot.step (fun k => rfl) ?_
    simp only [spec_ItemOf.l0, if_pos (show (j : Int) < (l.length : Int) by omega), if_pos (show (0 : Int) ≤ (j : Int) by omega), w64 (x := (j : Int) + 1) (by omega) (by omega)]
    by_cases h : (rd_T87 l (j : Int)).f0.toList = s.toList
    · simp only [if_pos h]
      exact Tot.ret _ trivial
    · simp only [if_neg h]
      exact ih (j + 1) (by omega) (by omega)
theorem tOf1 {b : List Int} {i : Int} (h : Int) (hb : b.length ≤ 1048576) (hi : Cur b i) (q : Bool) (o t s : Int) (k1 k2 : ByteArray) (v : Int) (y1 y2 : ByteArray) (y3 : Int) : Tot (fun k => spec_l15Of.j1 k q b i h o t s k1 k2 v y1 y2 y3) (fun r => Cur b r.2.2.2.2.2.2.1) := by
  refine Tot.step (fun k => rfl) ?_
  simp only [spec_l15Of.j1]
  by_cases h5 : o = 5
  · simp only [if_pos h5]
    refine Tot.bind (tBelow h 20 hb hi) fun r hr => ?_
    by_cases hq : q = true
    · simp only [if_pos hq]
      refine Tot.bind (tOnce _ 3 hb hr.2) fun u hu => ?_
      by_cases hu1 : u.1 = true
      · simp only [if_pos hu1]; exact Tot.ret _ hu
      · simp only [if_neg hu1]; exact Tot.ret _ hu
    · simp only [if_neg hq]
      exact Tot.ret _ hr.2
  · simp only [if_neg h5]
    exact Tot.ret _ hi
theorem tOf0 {b : List Int} {i : Int} (h : Int) (hb : b.length ≤ 1048576) (hi : Cur b i) (q w : Bool) (o t s : Int) (k1 k2 : ByteArray) (v : Int) (y1 y2 : ByteArray) (y3 : Int) : Tot (fun k => spec_l15Of.j0 k q w b i h o t s k1 k2 v y1 y2 y3) (fun r => Cur b r.2.2.2.2.2.2.1) := by
  refine Tot.step (fun k => rfl) ?_
  simp only [spec_l15Of.j0]
  by_cases hw : w = true
  · simp only [if_pos hw]
    refine Tot.bind (tPickT _ _ hb hi (by simp)) fun u hu => ?_
    exact tOf1 _ hb hu.2 _ _ _ _ _ _ _ _ _ _
  · simp only [if_neg hw]
    exact tOf1 _ hb hi _ _ _ _ _ _ _ _ _ _
theorem tOf {b : List Int} {i : Int} (h : Int) (hb : b.length ≤ 1048576) (hi : Cur b i) (x : List S84) (y : List S87) (hy : y.length ≤ 1048576) : Tot (fun k => spec_l15Of.f k b i h x y) (fun r => Cur b r.2.2.2.2.2.2.1) := by
  unfold spec_l15Of.f
  refine Tot.bind (tPick h _ hb hi (by simp)) fun r hr => ?_
  refine Tot.bind (tPickT _ _ hb hr.2 (by simp)) fun u hu => ?_
  refine Tot.bind (P := fun _ => True) (show Tot (fun k => spec_ItemOf.f k x y u.1) _ from item_tot x y u.1 hy y.length 0 (by omega) (by omega)) fun v _ => ?_
  by_cases h2 : r.1 = 2
  · simp only [if_pos h2]
    exact tOf0 _ hb hu.2 _ _ _ _ _ _ _ _ _ _ _
  · simp only [if_neg h2]
    exact tOf0 _ hb hu.2 _ _ _ _ _ _ _ _ _ _ _
theorem tCmd1 {b : List Int} {i : Int} (h : Int) (hb : b.length ≤ 1048576) (hi : Cur b i) (o t s : Int) (k1 k2 : ByteArray) (v y1 y2 : Int) (y3 : ByteArray) : Tot (fun k => spec_l15Command.j1 k b i h o t s k1 k2 v y1 y2 y3) (fun r => Cur b r.2.2.2.2.2.2.1) := by
  refine Tot.step (fun k => rfl) ?_
  simp only [spec_l15Command.j1]
  refine Tot.bind (tBelow h 16 hb hi) fun r hr => ?_
  by_cases h0 : r.1 = 0
  · simp only [if_pos h0]; (try (refine Tot.step (fun k => rfl) ?_; simp only [spec_l15Command.j2])); exact Tot.ret _ hr.2
  · by_cases h1 : r.1 = 1
    · simp only [if_neg h0, if_pos h1]
      refine Tot.bind (tBelow _ 4 hb hr.2) fun u hu => ?_
      (try (refine Tot.step (fun k => rfl) ?_; simp only [spec_l15Command.j2])); exact Tot.ret _ hu.2
    · by_cases h2 : r.1 = 2
      · simp only [if_neg h0, if_neg h1, if_pos h2]
        refine Tot.bind (tBelow _ 9 hb hr.2) fun u hu => ?_
        (try (refine Tot.step (fun k => rfl) ?_; simp only [spec_l15Command.j2])); exact Tot.ret _ hu.2
      · simp only [if_neg h0, if_neg h1, if_neg h2]; (try (refine Tot.step (fun k => rfl) ?_; simp only [spec_l15Command.j2])); exact Tot.ret _ hr.2
theorem tCmd {b : List Int} {i : Int} (h : Int) (hb : b.length ≤ 1048576) (hi : Cur b i) (x : List S84) (y : List S87) (hx : 0 < x.length ∧ x.length ≤ 1048576) (hy : y.length ≤ 1048576) : Tot (fun k => spec_l15Command.f k b i h x y) (fun r => Cur b r.2.2.2.2.2.2.1) := by
  unfold spec_l15Command.f
  simp only [if_neg (show ¬ (x.length : Int) = 0 by omega)]
  refine Tot.bind (tOnce h 16 hb hi) fun r hr => ?_
  refine Tot.step (fun k => rfl) ?_
  simp only [spec_l15Command.j0]
  by_cases hr1 : r.1 = true
  · simp only [if_pos hr1]
    exact Tot.ret _ hr
  · simp only [if_neg hr1]
    refine Tot.bind (tOf _ hb hr x y hy) fun u hu => ?_
    simp only [w64 (x := (x.length : Int) - 1) (by omega) (by omega), if_pos (show (0 : Int) ≤ (x.length : Int) - 1 by omega), if_pos (show (x.length : Int) - 1 < (x.length : Int) by omega)]
    refine Tot.bind (tOnce _ 4 hb hu) fun v hv => ?_
    by_cases hv1 : v.1 = true
    · simp only [if_pos hv1]
      refine Tot.bind (tBelow _ (x.length : Int) hb hv) fun w hw => ?_
      have hw1 := hw.1.2.1 (by omega)
      simp only [if_pos hw.1.1, if_pos hw1]
      exact tCmd1 _ hb hw.2 _ _ _ _ _ _ _ _ _
    · simp only [if_neg hv1]
      exact tCmd1 _ hb hv _ _ _ _ _ _ _ _ _

/-! ### decimal -/
theorem dec_loop (s : Bool) : ∀ (d : Nat) (x : Int) (acc : ByteArray), 0 ≤ x → x < 10 ^ d → x ≤ 1000000000000 → acc.size ≤ 100 → d + acc.size ≤ 100 → Tot (fun k => spec_Decimal.l0 k x s acc) (fun r => r.size ≤ acc.size + d + 1) := by
  intro d
  induction d with
  | zero =>
    intro x acc h0 h1 _ ha hd
    have hx : x = 0 := by rw [show (10 : Int) ^ 0 = 1 from rfl] at h1; omega
    refine Tot.step (fun k => rfl) ?_
    simp only [spec_Decimal.l0, if_pos hx]
    by_cases hs : s = true
    · simp only [if_pos hs, if_pos (show 1 + acc.size ≤ 9223372036854775807 by omega)]
      exact Tot.ret _ (by rw [ByteArray.size_append]; show 1 + acc.size ≤ _; omega)
    · simp only [if_neg hs]
      exact Tot.ret _ (by omega)
  | succ d ih =>
    intro x acc h0 h1 h2 ha hd
    refine Tot.step (fun k => rfl) ?_
    by_cases hx : x = 0
    · simp only [spec_Decimal.l0, if_pos hx]
      by_cases hs : s = true
      · simp only [if_pos hs, if_pos (show 1 + acc.size ≤ 9223372036854775807 by omega)]
        exact Tot.ret _ (by rw [ByteArray.size_append]; show 1 + acc.size ≤ _; omega)
      · simp only [if_neg hs]
        exact Tot.ret _ (by omega)
    · have hm : Int.tmod x 10 = x % 10 := Int.tmod_eq_emod_of_nonneg h0
      have hq : Int.tdiv x 10 = x / 10 := Int.tdiv_eq_ediv_of_nonneg h0
      have hp : (10 : Int) ^ (d + 1) = 10 ^ d * 10 := Int.pow_succ 10 d
      rw [hp] at h1
      obtain ⟨v, hv⟩ : ∃ v, spec_l01Figure.f (Int.tmod x 10) = some v := by
        unfold spec_l01Figure.f
        split <;> exact ⟨_, rfl⟩
      simp only [spec_Decimal.l0, if_neg hx, if_neg (show ¬ Int.tmod x 10 < 0 by omega), hv, Option.bind_some]
      (try (refine Tot.step (fun k => rfl) ?_; simp only [spec_Decimal.j1, hv, Option.bind_some]))
      have hz : (strOfNums [v]).size = 1 := by rw [strOfNums_size]; rfl
      simp only [if_pos (show (strOfNums [v]).size + acc.size ≤ 9223372036854775807 by omega), hq, w64 (x := x / 10) (by omega) (by omega)]
      have hlt : x / 10 < 10 ^ d := by generalize (10 : Int) ^ d = P at *; omega
      refine Tot.mono (ih (x / 10) (strOfNums [v] ++ acc) (by omega) hlt (by omega) (by rw [ByteArray.size_append]; omega) (by rw [ByteArray.size_append]; omega)) fun r hr => ?_
      rw [ByteArray.size_append] at hr
      omega
theorem tDec (x : Int) (h0 : 0 ≤ x) (h1 : x ≤ 1000000000) : Tot (fun k => spec_Decimal.f k x) (fun r => r.size ≤ 20) := by
  unfold spec_Decimal.f
  by_cases hx : x = 0
  · simp only [if_pos hx]
    exact Tot.ret _ (by show 1 ≤ 20; omega)
  · simp only [if_neg hx]
    refine Tot.mono (dec_loop _ 12 x _ h0 (by rw [show (10 : Int) ^ 12 = 1000000000000 from by decide]; omega) (by omega) (by show 0 ≤ 100; omega) (by show 12 + 0 ≤ 100; omega)) fun r hr => ?_
    have : (⟨#[]⟩ : ByteArray).size = 0 := rfl
    omega

/-! ### text -/

/-! ### keepdraw -/
theorem copy_eq (x : List S84) (y : List S87) (hx : x.length ≤ 1000) (hy : y.length ≤ 1000) : spec_l15Copy.f x y = some (x, y) := by
  unfold spec_l15Copy.f
  simp only [Option.bind_some, List.nil_append, List.length_nil]
  rw [if_pos (by omega), if_pos (by omega)]
theorem tCopy (x : List S84) (y : List S87) (hx : x.length ≤ 1000) (hy : y.length ≤ 1000) : Tot (fun _ => spec_l15Copy.f x y) (fun r => r = (x, y)) := Tot.of_some _ (copy_eq x y hx hy) rfl
theorem open_l1 (i : Int) (h0 : 0 ≤ i) (h1 : i ≤ 1000000) (a : List S84) (b : List S87) (c : List S84) (e : List S87) (ha : a.length ≤ 3) : ∀ (d j : Nat) (x : List S84), a.length - j = d → j ≤ a.length → x.length ≤ j + 4 → Tot (fun k => spec_l15Open.l1 k i x (j : Int) a b c e) (fun r => r.1.length ≤ 20 ∧ r.2.1 = e) := by
  intro d
  induction d with
  | zero =>
    intro j x hd hj hx
    refine Tot.step (fun k => rfl) ?_
    simp only [spec_l15Open.l1, if_neg (show ¬ (j : Int) < (a.length : Int) by omega)]
    by_cases h3 : (x.length : Int) > 3
    · simp only [if_pos h3, Option.bind_some, if_pos (show 1 ≤ (x.length : Int) by omega), List.length_nil, List.nil_append, if_pos (show 0 + (x.drop 1).length < 4398046511104 by rw [List.length_drop]; omega)]
      (try (refine Tot.step (fun k => rfl) ?_; simp only [spec_l15Open.j2])); refine Tot.bind (tDec i h0 (by omega)) fun t ht => ?_
      simp only [if_pos (show 5 + t.size ≤ 9223372036854775807 by omega)]
      exact Tot.ret _ ⟨by show (x.drop 1).length ≤ 20; rw [List.length_drop]; omega, rfl⟩
    · simp only [if_neg h3]
      (try (refine Tot.step (fun k => rfl) ?_; simp only [spec_l15Open.j2])); refine Tot.bind (tDec i h0 (by omega)) fun t ht => ?_
      simp only [if_pos (show 5 + t.size ≤ 9223372036854775807 by omega)]
      exact Tot.ret _ ⟨by show x.length ≤ 20; omega, rfl⟩
  | succ d ih =>
    intro j x hd hj hx
    refine Tot.step (fun k => rfl) ?_
    simp only [spec_l15Open.l1, if_pos (show (j : Int) < (a.length : Int) by omega), if_pos (show (0 : Int) ≤ (j : Int) by omega), w64 (x := (j : Int) + 1) (by omega) (by omega)]
    by_cases h : (rd_T84 a (j : Int)).f0 > i
    · simp only [if_pos h, if_pos (show x.length < 4398046511104 by omega)]
      exact ih (j + 1) _ (by omega) (by omega) (by rw [List.length_append, List.length_singleton]; omega)
    · simp only [if_neg h]
      exact ih (j + 1) _ (by omega) (by omega) (by omega)
theorem open_l0 (i : Int) (h0 : 0 ≤ i) (h1 : i ≤ 1000000) (a : List S84) (b : List S87) (c : List S84) (e : List S87) (ha : a.length ≤ 3) : ∀ (d j : Nat) (x : List S84), a.length - j = d → j ≤ a.length → x.length ≤ j → Tot (fun k => spec_l15Open.l0 k i x (j : Int) a b c e) (fun r => r.1.length ≤ 20 ∧ r.2.1 = e) := by
  intro d
  induction d with
  | zero =>
    intro j x hd hj hx
    refine Tot.step (fun k => rfl) ?_
    simp only [spec_l15Open.l0, if_neg (show ¬ (j : Int) < (a.length : Int) by omega), if_pos (show x.length < 4398046511104 by omega)]
    exact open_l1 i h0 h1 a b c e ha a.length 0 _ (by omega) (by omega) (by rw [List.length_append, List.length_singleton]; omega)
  | succ d ih =>
    intro j x hd hj hx
    refine Tot.step (fun k => rfl) ?_
    simp only [spec_l15Open.l0, if_pos (show (j : Int) < (a.length : Int) by omega), if_pos (show (0 : Int) ≤ (j : Int) by omega), w64 (x := (j : Int) + 1) (by omega) (by omega)]
    by_cases h : (rd_T84 a (j : Int)).f0 < i
    · simp only [if_pos h, if_pos (show x.length < 4398046511104 by omega)]
      exact ih (j + 1) _ (by omega) (by omega) (by rw [List.length_append, List.length_singleton]; omega)
    · simp only [if_neg h]
      exact ih (j + 1) _ (by omega) (by omega) (by omega)
theorem tOpen (i : Int) (h0 : 0 ≤ i) (h1 : i ≤ 1000000) (a : List S84) (b : List S87) (ha : a.length ≤ 3) (hb : b.length ≤ 20) : Tot (fun k => spec_l15Open.f k a b i) (fun r => r.1.length ≤ 20 ∧ r.2.1.length ≤ 20) := by
  unfold spec_l15Open.f
  refine Tot.bind (tCopy a b (by omega) (by omega)) fun r hr => ?_
  subst hr
  refine Tot.mono (open_l0 i h0 h1 a b a b ha a.length 0 [] (by omega) (by omega) (by simp)) fun q hq => ?_
  exact ⟨hq.1, by rw [hq.2]; exact hb⟩
theorem put_l1 (a : List S84) (b : List S87) (p q : ByteArray) (v : Int) (hb : b.length ≤ 8) : ∀ (d j : Nat) (x : List S87), b.length - j = d → j ≤ b.length → x.length ≤ j + 10 → Tot (fun k => spec_l15Put.l1 k x (j : Int) a b p q v) (fun r => r.2.length ≤ 8) := by
  intro d
  induction d with
  | zero =>
    intro j x hd hj hx
    refine Tot.step (fun k => rfl) ?_
    simp only [spec_l15Put.l1, if_neg (show ¬ (j : Int) < (b.length : Int) by omega)]
    by_cases h3 : (x.length : Int) > 8
    · simp only [if_pos h3]
      exact Tot.ret _ hb
    · simp only [if_neg h3]
      exact Tot.ret _ (by show x.length ≤ 8; omega)
  | succ d ih =>
    intro j x hd hj hx
    refine Tot.step (fun k => rfl) ?_
    simp only [spec_l15Put.l1, if_pos (show (j : Int) < (b.length : Int) by omega), if_pos (show (0 : Int) ≤ (j : Int) by omega), w64 (x := (j : Int) + 1) (by omega) (by omega)]
    by_cases h : (Op.bytesLess p.toList (rd_T87 b (j : Int)).f0.toList) = true
    · simp only [if_pos h, if_pos (show x.length < 3518437208883 by omega)]
      exact ih (j + 1) _ (by omega) (by omega) (by rw [List.length_append, List.length_singleton]; omega)
    · simp only [if_neg h]
      exact ih (j + 1) _ (by omega) (by omega) (by omega)
theorem put_l0 (a : List S84) (b : List S87) (p q : ByteArray) (v : Int) (hb : b.length ≤ 8) : ∀ (d j : Nat) (x : List S87), b.length - j = d → j ≤ b.length → x.length ≤ j → Tot (fun k => spec_l15Put.l0 k x (j : Int) a b p q v) (fun r => r.2.length ≤ 8) := by
  intro d
  induction d with
  | zero =>
    intro j x hd hj hx
    refine Tot.step (fun k => rfl) ?_
    simp only [spec_l15Put.l0, if_neg (show ¬ (j : Int) < (b.length : Int) by omega), if_pos (show x.length < 3518437208883 by omega)]
    exact put_l1 a b p q v hb b.length 0 _ (by omega) (by omega) (by rw [List.length_append, List.length_singleton]; omega)
  | succ d ih =>
    intro j x hd hj hx
    refine Tot.step (fun k => rfl) ?_
    simp only [spec_l15Put.l0, if_pos (show (j : Int) < (b.length : Int) by omega), if_pos (show (0 : Int) ≤ (j : Int) by omega), w64 (x := (j : Int) + 1) (by omega) (by omega)]
    by_cases h : (Op.bytesLess (rd_T87 b (j : Int)).f0.toList p.toList) = true
    · simp only [if_pos h, if_pos (show x.length < 3518437208883 by omega)]
      exact ih (j + 1) _ (by omega) (by omega) (by rw [List.length_append, List.length_singleton]; omega)
    · simp only [if_neg h]
      exact ih (j + 1) _ (by omega) (by omega) (by omega)
theorem item_good (a : List S84) (l : List S87) (s : ByteArray) (hl : l.length ≤ 1048576) (hg : ∀ j (hj : j < l.length), l[j].f0.size ≤ 8 ∧ l[j].f1.size ≤ 20 ∧ (1 ≤ l[j].f2 ∧ l[j].f2 ≤ 1000000000)) : ∀ (d j : Nat), l.length - j = d → j ≤ l.length → Tot (fun k => spec_ItemOf.l0 k s (j : Int) a l) (fun r => r.2.1.size ≤ 20 ∧ 0 ≤ r.2.2.1 ∧ r.2.2.1 ≤ 1000000000) := by
  intro d
  induction d with
  | zero =>
    intro j hd hj
    refine Tot.step (fun k => rfl) ?_
    simp only [spec_ItemOf.l0, if_neg (show ¬ (j : Int) < (l.length : Int) by omega)]
    exact Tot.ret _ ⟨by show 0 ≤ 20; omega, by show (0 : Int) ≤ 0; omega, by show (0 : Int) ≤ 1000000000; omega⟩
  | succ d ih =>
    intro j hd hj
    have hjl : j < l.length := by omega
    have hget : rd_T87 l (j : Int) = l[j] := by unfold rd_T87; exact getD_at _ hjl
    have hh := hg j hjl
    refine Tot.step (fun k => rfl) ?_
    simp only [spec_ItemOf.l0, if_pos (show (j : Int) < (l.length : Int) by omega), if_pos (show (0 : Int) ≤ (j : Int) by omega), w64 (x := (j : Int) + 1) (by omega) (by omega), hget]
    by_cases h : l[j].f0.toList = s.toList
    · simp only [if_pos h]
      exact Tot.ret _ ⟨hh.2.1, by show 0 ≤ l[j].f2; omega, hh.2.2.2⟩
    · simp only [if_neg h]
      exact ih (j + 1) (by omega) (by omega)
theorem drop_l0 (a : List S84) (b : List S87) (o t s : Int) (p q : ByteArray) (v : Int) (hb : b.length ≤ 8) : ∀ (d j : Nat) (x : List S87), b.length - j = d → j ≤ b.length → x.length ≤ j → Tot (fun k => spec_l15Do.l0 k x (j : Int) a b o t s p q v) (fun r => r.2.length ≤ 8) := by
  intro d
  induction d with
  | zero =>
    intro j x hd hj hx
    refine Tot.step (fun k => rfl) ?_
    simp only [spec_l15Do.l0, if_neg (show ¬ (j : Int) < (b.length : Int) by omega)]
    exact Tot.ret _ (by show x.length ≤ 8; omega)
  | succ d ih =>
    intro j x hd hj hx
    refine Tot.step (fun k => rfl) ?_
    simp only [spec_l15Do.l0, if_pos (show (j : Int) < (b.length : Int) by omega), if_pos (show (0 : Int) ≤ (j : Int) by omega), w64 (x := (j : Int) + 1) (by omega) (by omega)]
    by_cases h : (rd_T87 b (j : Int)).f0.toList = p.toList
    · simp only [if_pos h]
      exact ih (j + 1) _ (by omega) (by omega) (by omega)
    · simp only [if_neg h, if_pos (show x.length < 3518437208883 by omega)]
      exact ih (j + 1) _ (by omega) (by omega) (by rw [List.length_append, List.length_singleton]; omega)
theorem tDo1 (i : Int) (h0 : 0 ≤ i) (h1 : i ≤ 1000000) (a : List S84) (b : List S87) (o t s : Int) (p q : ByteArray) (v : Int) (hb : b.length ≤ 8) : Tot (fun k => spec_l15Do.j1 k i a b o t s p q v) (fun r => r.2.length ≤ 8) := by
  refine Tot.step (fun k => rfl) ?_
  simp only [spec_l15Do.j1]
  refine Tot.bind (show Tot (fun k => spec_l15Put.f k a b p q i) _ from put_l0 a b p q i hb b.length 0 [] (by omega) (by omega) (by simp)) fun r hr => ?_
  by_cases h : r.1 = true
  · simp only [if_pos h]
    refine Tot.bind (tDec i h0 (by omega)) fun u hu => ?_
    simp only [if_pos (show 4 + u.size ≤ 9223372036854775807 by omega)]
    exact Tot.ret _ hr
  · simp only [if_neg h]
    exact Tot.ret _ hr
theorem tDo (i : Int) (h0 : 0 ≤ i) (h1 : i ≤ 1000000) (a : List S84) (b : List S87) (o t s : Int) (p q : ByteArray) (v : Int) (hb : b.length ≤ 8) (hg : ∀ j (hj : j < b.length), b[j].f0.size ≤ 8 ∧ b[j].f1.size ≤ 20 ∧ (1 ≤ b[j].f2 ∧ b[j].f2 ≤ 1000000000)) : Tot (fun k => spec_l15Do.f k a b i o t s p q v) (fun r => r.2.length ≤ 8) := by
  unfold spec_l15Do.f
  refine Tot.bind (show Tot (fun k => spec_ItemOf.f k a b p) _ from item_good a b p (by omega) hg b.length 0 (by omega) (by omega)) fun r hr => ?_
  obtain ⟨hr1, hr2, hr3⟩ := hr
  by_cases o3 : o = 3
  · simp only [if_pos o3]
    by_cases hh : r.2.2.2 = true
    · simp only [if_pos hh]
      refine Tot.bind (tDec r.2.2.1 hr2 hr3) fun u hu => ?_
      have s1 : (⟨#[105, 115, 32]⟩ : ByteArray).size = 3 := rfl
      have s2 : (⟨#[32]⟩ : ByteArray).size = 1 := rfl
      simp only [if_pos (show 3 + u.size ≤ 9223372036854775807 by omega), if_pos (show ((⟨#[105, 115, 32]⟩ : ByteArray) ++ u).size + 1 ≤ 9223372036854775807 by rw [ByteArray.size_append]; omega), if_pos (show (((⟨#[105, 115, 32]⟩ : ByteArray) ++ u) ++ (⟨#[32]⟩ : ByteArray)).size + r.2.1.size ≤ 9223372036854775807 by rw [ByteArray.size_append, ByteArray.size_append]; omega)]
      exact Tot.ret _ hb
    · simp only [if_neg hh]
      exact Tot.ret _ hb
  · simp only [if_neg o3]
    by_cases o4 : o = 4
    · simp only [if_pos o4]
      by_cases hh : r.2.2.2 = true
      · simp only [if_pos hh]
        exact drop_l0 a b o t s p q v hb b.length 0 [] (by omega) (by omega) (by simp)
      · simp only [if_neg hh]
        exact Tot.ret _ hb
    · simp only [if_neg o4]
      by_cases o5 : o = 5
      · simp only [if_pos o5]
        by_cases hh : r.2.2.2 = true
        · simp only [if_pos hh]
          by_cases hv : r.2.2.1 = v
          · simp only [if_pos hv]
            exact tDo1 i h0 h1 a b o t s p q v hb
          · simp only [if_neg hv]
            refine Tot.bind (tDec r.2.2.1 hr2 hr3) fun u hu => ?_
            simp only [if_pos (show 4 + u.size ≤ 9223372036854775807 by omega)]
            exact Tot.ret _ hb
        · simp only [if_neg hh]
          exact Tot.ret _ hb
      · simp only [if_neg o5]
        exact tDo1 i h0 h1 a b o t s p q v hb
theorem tPerf2 (i : Int) (h0 : 0 ≤ i) (h1 : i ≤ 1000000) (m : Nat) (w : Bool) (a : List S84) (b : List S87) (o t s : Int) (p q : ByteArray) (v y1 y2 : Int) (y3 : ByteArray) (hk : keepB a b = true) (hm : m < a.length) : Tot (fun k => spec_Perform.j2 k i (m : Int) w a b o t s p q v y1 y2 y3) (fun r => r.1.length ≤ 20 ∧ r.2.1.length ≤ 20) := by
  obtain ⟨⟨ha, hb⟩, _, hg⟩ := keepB_iff hk
  refine Tot.step (fun k => rfl) ?_
  simp only [spec_Perform.j2]
  by_cases hw : w = true
  · simp only [if_pos hw]
    refine Tot.bind (tCopy a b (by omega) (by omega)) fun r hr => ?_
    subst hr
    exact Tot.ret _ ⟨by show a.length ≤ 20; omega, by show b.length ≤ 20; omega⟩
  · simp only [if_neg hw]
    by_cases c1 : s = y2
    · simp only [if_pos c1]
      refine Tot.bind (tCopy a b (by omega) (by omega)) fun r hr => ?_
      subst hr
      exact Tot.ret _ ⟨by show a.length ≤ 20; omega, by show b.length ≤ 20; omega⟩
    · simp only [if_neg c1]
      by_cases c2 : s > wrap64 (y2 + 1)
      · simp only [if_pos c2]
        refine Tot.bind (tCopy a b (by omega) (by omega)) fun r hr => ?_
        subst hr
        exact Tot.ret _ ⟨by show a.length ≤ 20; omega, by show b.length ≤ 20; omega⟩
      · simp only [if_neg c2]
        refine Tot.bind (tCopy a b (by omega) (by omega)) fun r hr => ?_
        subst hr
        refine Tot.bind (tDo i h0 h1 a b o t s p q v hb hg) fun u hu => ?_
        simp only [if_pos (show (0 : Int) ≤ (m : Int) by omega), if_pos (show (m : Int) < (a.length : Int) by omega), Option.bind_some]
        exact Tot.ret _ ⟨by show (List.set _ _ _).length ≤ 20; rw [List.length_set, List.length_set]; omega, by show u.2.length ≤ 20; omega⟩
theorem perf_l0 (i : Int) (h0 : 0 ≤ i) (h1 : i ≤ 1000000) (a : List S84) (b : List S87) (o t s : Int) (p q : ByteArray) (v : Int) (hk : keepB a b = true) : ∀ (d j : Nat) (x : Int), a.length - j = d → j ≤ a.length → (x = -1 ∨ (0 ≤ x ∧ x < (a.length : Int))) → Tot (fun k => spec_Perform.l0 k i x (j : Int) a b o t s p q v) (fun r => r.1.length ≤ 20 ∧ r.2.1.length ≤ 20) := by
  obtain ⟨⟨ha, hb⟩, _, hg⟩ := keepB_iff hk
  intro d
  induction d with
  | zero =>
    intro j x hd hj hx
    refine Tot.step (fun k => rfl) ?_
    simp only [spec_Perform.l0, if_neg (show ¬ (j : Int) < (a.length : Int) by omega)]
    by_cases hx0 : x < 0
    · simp only [if_pos hx0]
      refine Tot.bind (tCopy a b (by omega) (by omega)) fun r hr => ?_
      subst hr
      exact Tot.ret _ ⟨by show a.length ≤ 20; omega, by show b.length ≤ 20; omega⟩
    · obtain ⟨m, rfl⟩ : ∃ m : Nat, x = (m : Int) := ⟨x.toNat, by omega⟩
      simp only [if_neg hx0, if_pos (show (0 : Int) ≤ (m : Int) by omega), if_pos (show (m : Int) < (a.length : Int) by omega)]
      by_cases hs : s = 0
      · simp only [if_pos hs]
        exact tPerf2 i h0 h1 m true a b o t s p q v _ _ _ hk (by omega)
      · simp only [if_neg hs]
        exact tPerf2 i h0 h1 m _ a b o t s p q v _ _ _ hk (by omega)
  | succ d ih =>
    intro j x hd hj hx
    refine Tot.step (fun k => rfl) ?_
    simp only [spec_Perform.l0, if_pos (show (j : Int) < (a.length : Int) by omega), if_pos (show (0 : Int) ≤ (j : Int) by omega), w64 (x := (j : Int) + 1) (by omega) (by omega)]
    by_cases h : (rd_T84 a (j : Int)).f0 = t
    · simp only [if_pos h]
      exact ih (j + 1) _ (by omega) (by omega) (.inr ⟨by omega, by omega⟩)
    · simp only [if_neg h]
      exact ih (j + 1) _ (by omega) (by omega) hx
theorem perf_no (i : Int) (a : List S84) (b : List S87) (o t s : Int) (p q : ByteArray) (v : Int) : Tot (fun k => spec_Perform.j0 k i true a b o t s p q v) (fun r => r.1.length ≤ 20 ∧ r.2.1.length ≤ 20) := by
  refine Tot.step (fun k => rfl) ?_
  simp only [spec_Perform.j0, if_true]
  exact Tot.ret _ ⟨by simp, by simp⟩
theorem tPerf (i : Int) (a : List S84) (b : List S87) (o t s : Int) (p q : ByteArray) (v : Int) (ha : a.length ≤ 1000) (hb : b.length ≤ 1000) : Tot (fun k => spec_Perform.f k a b i o t s p q v) (fun r => r.1.length ≤ 20 ∧ r.2.1.length ≤ 20) := by
  unfold spec_Perform.f
  refine Tot.bind (P := fun r => r = keepB a b) ⟨_, spec_KeepOk_ok a b (by omega) (by omega), rfl⟩ fun r hr => ?_
  subst hr
  by_cases hk : keepB a b = true
  · simp only [if_pos hk, in_eq, Option.bind_some]
    by_cases hi : rng i 1 1000000 = true
    · simp only [if_pos hi]
      have hi' := rng_iff.1 hi
      by_cases h4 : i > 400000
      · simp only [if_pos h4]
        exact perf_no i a b o t s p q v
      · simp only [if_neg h4]
        obtain ⟨c, hc, _⟩ := spec_cmd_ev o t s p q v
        refine Tot.bind (P := fun _ => True) ⟨c, hc, trivial⟩ fun u _ => ?_
        cases u with
        | false => exact perf_no i a b o t s p q v
        | true =>
          obtain ⟨⟨la, lb⟩, _⟩ := keepB_iff hk
          refine Tot.step (fun k => rfl) ?_
          simp only [spec_Perform.j0, Bool.not_true, Bool.false_eq_true, if_false]
          by_cases ho : o = 1
          · simp only [if_pos ho]
            refine Tot.bind (tOpen i (by omega) (by omega) a b la (by omega)) fun w hw => ?_
            exact Tot.ret _ hw
          · simp only [if_neg ho]
            exact perf_l0 i (by omega) (by omega) a b o t s p q v hk a.length 0 (-1) (by omega) (by omega) (.inl rfl)
    · simp only [if_neg hi]
      exact perf_no i a b o t s p q v
  · simp only [if_neg hk]
    exact perf_no i a b o t s p q v
theorem tCmdA {b : List Int} {i : Int} (h : Int) (hb : b.length ≤ 1048576) (hi : Cur b i) (x : List S84) (y : List S87) (hx : x.length ≤ 1048576) (hy : y.length ≤ 1048576) : Tot (fun k => spec_l15Command.f k b i h x y) (fun r => Cur b r.2.2.2.2.2.2.1) := by
  rcases Nat.eq_zero_or_pos x.length with h0 | h0
  · unfold spec_l15Command.f
    simp only [if_pos (show (x.length : Int) = 0 by omega)]
    refine Tot.step (fun k => rfl) ?_
    simp only [spec_l15Command.j0, if_true]
    exact Tot.ret _ hi
  · exact tCmd h hb hi x y ⟨h0, hx⟩ hy
theorem keep_l0 {b : List Int} (hb : b.length ≤ 1048576) (n : Int) (hn : n ≤ 20) : ∀ (d : Nat) (x i h : Int) (a : List S84) (c : List S87), n - x ≤ d → 0 ≤ x → x ≤ 20 → a.length ≤ 20 → c.length ≤ 20 → Cur b i → Tot (fun k => spec_l15Keep.l0 k n x b i h a c) (fun r => (r.1.length ≤ 20 ∧ r.2.1.length ≤ 20) ∧ Cur b r.2.2.1) := by
  intro d
  induction d with
  | zero =>
    intro x i h a c hd h0 h2 ha hc hi
    refine Tot.step (fun k => rfl) ?_
    simp only [spec_l15Keep.l0]
    refine Tot.bind (tBelow h n hb hi) fun r hr => ?_
    have h3 : r.1 ≤ x := by
      by_cases hn0 : 0 < n
      · have := hr.1.2.1 hn0; omega
      · have := hr.1.2.2 (by omega); omega
    simp only [if_neg (show ¬ x < r.1 by omega)]
    exact Tot.ret _ ⟨⟨ha, hc⟩, hr.2⟩
  | succ d ih =>
    intro x i h a c hd h0 h2 ha hc hi
    refine Tot.step (fun k => rfl) ?_
    simp only [spec_l15Keep.l0]
    refine Tot.bind (tBelow h n hb hi) fun r hr => ?_
    by_cases hx : x < r.1
    · have h3 : x < n := by
        by_cases hn0 : 0 < n
        · have := hr.1.2.1 hn0; omega
        · have := hr.1.2.2 (by omega); omega
      simp only [if_pos hx]
      refine Tot.bind (tCmdA _ hb hr.2 a c (by omega) (by omega)) fun u hu => ?_
      refine Tot.bind (tPerf _ a c u.1 u.2.1 u.2.2.1 u.2.2.2.1 u.2.2.2.2.1 u.2.2.2.2.2.1 (by omega) (by omega)) fun w hw => ?_
      by_cases hw1 : w.2.2.2 = true
      · simp only [if_pos hw1, w64 (x := x + 1) (by omega) (by omega)]
        exact ih (x + 1) _ _ _ _ (by omega) (by omega) (by omega) hw.1 hw.2 hu
      · simp only [if_neg hw1, w64 (x := x + 1) (by omega) (by omega)]
        exact ih (x + 1) _ _ _ _ (by omega) (by omega) (by omega) ha hc hu
    · simp only [if_neg hx]
      exact Tot.ret _ ⟨⟨ha, hc⟩, hr.2⟩
theorem tKeep {b : List Int} {i : Int} (h n : Int) (hn : n ≤ 20) (hb : b.length ≤ 1048576) (hi : Cur b i) : Tot (fun k => spec_l15Keep.f k b i h n) (fun r => (r.1.length ≤ 20 ∧ r.2.1.length ≤ 20) ∧ Cur b r.2.2.1) := by
  unfold spec_l15Keep.f spec_KeepNew.f
  simp only [Option.bind_some]
  refine Tot.bind (tPerf 1 _ _ 1 0 0 _ _ 0 (by simp) (by simp)) fun r hr => ?_
  exact keep_l0 hb n hn 20 0 i h r.1 r.2.1 (by omega) (by omega) (by omega) hr.1 hr.2 hi

/-! ### confv -/
def subs : Nat → List (List Int)
  | 0 => [[]]
  | n + 1 => subs n ++ (subs n).map (· ++ [((n : Int) + 1)])
theorem subs_len : ∀ (n : Nat) (l : List Int), l ∈ subs n → l.length ≤ n := by
  intro n
  induction n with
  | zero => intro l h; simp [subs] at h; subst h; simp
  | succ n ih =>
    intro l h
    unfold subs at h
    rcases List.mem_append.1 h with h | h
    · have := ih l h; omega
    · obtain ⟨m, hm, rfl⟩ := List.mem_map.1 h
      have := ih m hm
      rw [List.length_append, List.length_singleton]
      omega
theorem subs_conf : ∀ l ∈ subs 4, l.length ≠ 0 → confB l = true := by decide
theorem one_conf : confB [1] = true := by decide
theorem tConfv_loop {b : List Int} (hb : b.length ≤ 1048576) : ∀ (d n : Nat) (l : List Int) (i h : Int), 4 - n = d → n ≤ 4 → l ∈ subs n → Cur b i → Tot (fun k => spec_l05Conf.l0 k l ((n : Int) + 1) b i h) (fun r => confB r.1 = true ∧ Cur b r.2.1) := by
  intro d
  induction d with
  | zero =>
    intro n l i h hd h5 hl hi
    obtain rfl : n = 4 := by omega
    have hlen := subs_len _ _ hl
    refine Tot.step (fun k => rfl) ?_
    simp only [spec_l05Conf.l0, if_neg (show ¬ ((4 : Nat) : Int) + 1 ≤ 4 by omega)]
    by_cases h0 : (l.length : Int) = 0
    · have hn : l = [] := List.length_eq_zero_iff.1 (by omega)
      subst hn
      simp only [if_pos h0, if_pos (show ([] : List Int).length < 17592186044416 by simp)]
      exact Tot.ret _ ⟨one_conf, hi⟩
    · simp only [if_neg h0]
      exact Tot.ret _ ⟨subs_conf l hl (by omega), hi⟩
  | succ d ih =>
    intro n l i h hd h5 hl hi
    have hlen := subs_len _ _ hl
    refine Tot.step (fun k => rfl) ?_
    simp only [spec_l05Conf.l0, if_pos (show (n : Int) + 1 ≤ 4 by omega)]
    refine Tot.bind (tOnce h 2 hb hi) fun r hr => ?_
    have e : wrap64 ((n : Int) + 1 + 1) = ((n + 1 : Nat) : Int) + 1 := by rw [w64 (by omega) (by omega)]; omega
    by_cases hr1 : r.1 = true
    · simp only [if_pos hr1, if_pos (show l.length < 17592186044416 by omega), e]
      exact ih (n + 1) _ _ _ (by omega) (by omega) (by unfold subs; exact List.mem_append.2 (.inr (List.mem_map.2 ⟨l, hl, rfl⟩))) hr
    · simp only [if_neg hr1, e]
      exact ih (n + 1) _ _ _ (by omega) (by omega) (by unfold subs; exact List.mem_append.2 (.inl hl)) hr
theorem tConfv {b : List Int} {i : Int} (h : Int) (hb : b.length ≤ 1048576) (hi : Cur b i) : Tot (fun k => spec_l05Conf.f k b i h) (fun r => confB r.1 = true ∧ Cur b r.2.1) :=
  tConfv_loop hb 4 0 [] i h (by omega) (by omega) (by simp [subs]) hi

/-! ### snap -/
def snapIn (i t : Int) (c : List Int) (b : ByteArray) : ByteArray := varT i ++ varT t ++ shortT (confT c) ++ shortT b
def snapT (i t : Int) (c : List Int) (b : ByteArray) : ByteArray := snapIn i t c b ++ sumT (snapIn i t c b)
structure GoodSnap (i t : Int) (c : List Int) (b : ByteArray) : Prop where
  hi : 0 ≤ i ∧ i ≤ 1000000
  ht : 0 ≤ t ∧ t ≤ 100000
  hc : confB c = true
  hb : b.size ≤ 1000
theorem confT_size {c : List Int} (h : confB c = true) : (confT c).size ≤ 4 := by
  have := confO_size c
  unfold confO at this
  rw [if_pos h] at this
  exact this
theorem snapIn_size {i t : Int} {c : List Int} {b : ByteArray} (h : GoodSnap i t c b) : (snapIn i t c b).size ≤ 2000 := by
  have h1 := varT_size i
  have h2 := varT_size t
  have h3 := shortT_size (confT c)
  have h4 := shortT_size b
  have h5 := confT_size h.hc
  have h6 := h.hb
  unfold snapIn
  simp only [ByteArray.size_append]
  omega
theorem snapT_size {i t : Int} {c : List Int} {b : ByteArray} (h : GoodSnap i t c b) : (snapT i t c b).size ≤ 2004 ∧ 4 ≤ (snapT i t c b).size := by
  have h1 := snapIn_size h
  have h2 := sumT_size (snapIn i t c b)
  unfold snapT
  rw [ByteArray.size_append]
  omega
theorem isIndex_eq (i : Int) : impl_isIndex.f i = some (rng i 0 1000000) := by unfold impl_isIndex.f; rw [within_eq]; rfl
theorem isTerm_eq (i : Int) : impl_isTerm.f i = some (rng i 0 100000) := by unfold impl_isTerm.f; rw [within_eq]; rfl
theorem l05Short_ev (s : ByteArray) (hs : s.size ≤ 1000000000) : Ev (fun k => spec_l05Short.f k s) (shortT s) := by
  have h1 := varT_size (s.size : Int)
  unfold spec_l05Short.f
  refine Ev.bind (spec_var _ (by omega) (by omega)) ?_
  simp only [if_pos (show (varT (s.size : Int)).size + s.size ≤ 9223372036854775807 by omega)]
  exact Ev.now _
theorem snap_sizes {i t : Int} {c : List Int} {b : ByteArray} (h : GoodSnap i t c b) : (varT i).size ≤ 9 ∧ (varT t).size ≤ 9 ∧ (shortT (confT c)).size ≤ 13 ∧ (shortT b).size ≤ 1009 := by
  have h1 := varT_size i
  have h2 := varT_size t
  have h3 := shortT_size (confT c)
  have h4 := shortT_size b
  have h5 := confT_size h.hc
  have h6 := h.hb
  exact ⟨h1, h2, by omega, by omega⟩
theorem spec_snaptext {i t : Int} {c : List Int} {b : ByteArray} (h : GoodSnap i t c b) : Ev (fun k => spec_SnapText.f k i t c b) (snapT i t c b, true) := by
  have hl := conf_len h.hc
  obtain ⟨s1, s2, s3, s4⟩ := snap_sizes h
  have hz := snapIn_size h
  unfold spec_SnapText.f
  refine Ev.bind (spec_conftext c (by omega)) ?_
  have hb := h.hb
  simp only [confO, if_pos h.hc, if_true, in_eq, rng_iff.2 h.hi, rng_iff.2 h.ht, Option.bind_some, decide_eq_false (show ¬ (b.size : Int) > 20000 by omega)]
  refine Ev.step (fun k => by simp only [spec_SnapText.j0, Bool.false_eq_true, if_false]; rfl) ?_
  refine Ev.bind (spec_var i (by have := h.hi; omega) (by have := h.hi; omega)) ?_
  refine Ev.bind (spec_var t (by have := h.ht; omega) (by have := h.ht; omega)) ?_
  simp only [if_pos (show (varT i).size + (varT t).size ≤ 9223372036854775807 by omega)]
  refine Ev.bind (l05Short_ev _ (by have := confT_size h.hc; omega)) ?_
  simp only [if_pos (show (varT i ++ varT t).size + (shortT (confT c)).size ≤ 9223372036854775807 by rw [ByteArray.size_append]; omega)]
  refine Ev.bind (l05Short_ev _ (by omega)) ?_
  simp only [if_pos (show (varT i ++ varT t ++ shortT (confT c)).size + (shortT b).size ≤ 9223372036854775807 by simp only [ByteArray.size_append]; omega)]
  have e : varT i ++ varT t ++ shortT (confT c) ++ shortT b = snapIn i t c b := rfl
  rw [e, w64 (by omega) (by omega)]
  simp only [if_neg (show ¬ ((snapIn i t c b).size : Int) + 4 > 20000 by omega)]
  refine Ev.bind (spec_Sealed_ok _) ?_
  rw [if_pos (by omega)]
  exact Ev.now _
theorem impl_snaptext {i t : Int} {c : List Int} {b : ByteArray} (h : GoodSnap i t c b) : Ev (fun k => impl_SnapText.f k i t c b) (snapT i t c b, true) := by
  have hl := conf_len h.hc
  obtain ⟨s1, s2, s3, s4⟩ := snap_sizes h
  have hz := snapIn_size h
  have hy := snapT_size h
  have hb := h.hb
  have hi := h.hi
  have ht := h.ht
  unfold impl_SnapText.f
  refine Ev.bind (impl_conftext c (by omega)) ?_
  refine Ev.bind (impl_short b (by omega)) ?_
  simp only [confO, if_pos h.hc, if_true, isIndex_eq, isTerm_eq, rng_iff.2 h.hi, rng_iff.2 h.ht, Option.bind_some, Bool.not_true]
  refine Ev.step (fun k => by simp only [impl_SnapText.j0, Bool.false_eq_true, if_false]; rfl) ?_
  refine Ev.bind (varTexts_ok [i, t] (by simp) (by simp only [List.mem_cons, List.not_mem_nil, or_false]; rintro x (rfl | rfl) <;> omega)) ?_
  refine Ev.bind (shortTexts_ok [confT c] (by simp) (by simp only [List.mem_cons, List.not_mem_nil, or_false]; rintro x rfl; have := confT_size h.hc; omega)) ?_
  simp only [catB, app_empty]
  simp only [if_pos (show (varT i ++ varT t).size + (shortT (confT c)).size ≤ 9223372036854775807 by rw [ByteArray.size_append]; omega),
    if_pos (show (varT i ++ varT t ++ shortT (confT c)).size + (shortT b).size ≤ 9223372036854775807 by simp only [ByteArray.size_append]; omega)]
  have e : varT i ++ varT t ++ shortT (confT c) ++ shortT b = snapIn i t c b := rfl
  rw [e]
  refine Ev.bind (impl_Sealed_ok _) ?_
  rw [if_pos (show (snapIn i t c b).size ≤ 20000 by omega)]
  have e2 : snapIn i t c b ++ sumT (snapIn i t c b) = snapT i t c b := rfl
  rw [e2]
  simp only [if_true, if_neg (show ¬ ((snapT i t c b).size : Int) > 20000 by omega)]
  exact Ev.now _
theorem unB_seal (s : ByteArray) (hs : s.size ≤ 20000) : unB (s ++ sumT s) = (s, true) := by
  have h4 := sumT_size s
  have hz : (s ++ sumT s).size = s.size + 4 := by rw [ByteArray.size_append, h4]
  have e1 : (s ++ sumT s).extract 0 s.size = s := by
    apply bl_inj
    rw [bl_ext, bl_app, List.drop_zero, Nat.sub_zero, ← bytesOf_length s, List.take_left]
  have e2 : (s ++ sumT s).extract s.size (s.size + 4) = sumT s := by
    apply bl_inj
    rw [bl_ext, bl_app, ← bytesOf_length s, List.drop_left, Nat.add_sub_cancel_left, List.take_of_length_le (by rw [bytesOf_length, h4]; omega)]
  unfold unB
  rw [hz, Nat.add_sub_cancel, e1, e2, if_pos ⟨by omega, by omega, rfl⟩]
theorem snap_back {i t : Int} {c : List Int} {b : ByteArray} (h : GoodSnap i t c b) : Ev (fun k => impl_ReadSnap.f k (snapT i t c b)) (i, t, c, b, true) := by
  have hz := snapIn_size h
  have hy := snapT_size h
  have hi := h.hi
  have ht := h.ht
  have hc4 := confT_size h.hc
  have hb : (bytesOf (snapIn i t c b)).drop 0 = bytesOf (varT i) ++ (bytesOf (varT t) ++ (bytesOf (shortT (confT c)) ++ (bytesOf (shortT b) ++ []))) := by
    rw [List.drop_zero]
    unfold snapIn
    rw [bl_app, bl_app, bl_app, List.append_assoc, List.append_assoc, List.append_nil]
  have hlen : (snapIn i t c b).size = (bytesOf (varT i)).length + ((bytesOf (varT t)).length + ((bytesOf (shortT (confT c))).length + (bytesOf (shortT b)).length)) := by
    have := congrArg List.length hb
    simp only [List.drop_zero, List.length_append, List.length_nil, bytesOf_length] at this ⊢
    omega
  obtain ⟨e1, hb⟩ := num_fwd (p := 0) ⟨by omega, by omega⟩ hb
  obtain ⟨e2, hb⟩ := num_fwd ⟨by omega, by omega⟩ hb
  obtain ⟨e3, hb⟩ := sho_fwd (by omega) hb
  obtain ⟨e4, _⟩ := sho_fwd h.hb hb
  unfold impl_ReadSnap.f
  have hu : Ev (fun k => impl_Unsealed.f k (snapT i t c b)) (snapIn i t c b, true) := by
    have := impl_Unsealed_ok (snapT i t c b) (by omega)
    unfold snapT at this
    rw [unB_seal _ (by omega)] at this
    exact this
  refine Ev.bind hu ?_
  simp only [Bool.not_true]
  refine Ev.bind (impl_num _ 0 false (by omega)) ?_
  rw [show ((0 : Nat) : Int) = 0 from rfl] at e1
  simp only [e1]
  refine Ev.bind (impl_num _ _ false (by omega)) ?_
  simp only [e2]
  refine Ev.bind (impl_sho _ _ false (by omega)) ?_
  simp only [e3]
  refine Ev.bind (impl_sho _ _ false (by omega)) ?_
  simp only [e4]
  refine Ev.bind (impl_readconf (confT c) (by omega)) ?_
  have hcr : confR (confT c) = (c, true) := by
    unfold confR
    rw [conf_back h.hc, if_pos h.hc]
  rw [hcr]
  simp only [done_ok, Option.bind_some]
  rw [show ((((0 + (bytesOf (varT i)).length + (bytesOf (varT t)).length + (bytesOf (shortT (confT c))).length + (bytesOf (shortT b)).length : Nat) : Int)) == ((snapIn i t c b).size : Int)) = true by rw [beq_iff_eq, hlen]; exact congrArg Int.ofNat (by omega)]
  simp only [if_true, isIndex_eq, isTerm_eq, rng_iff.2 hi, rng_iff.2 ht, Option.bind_some, decide_eq_false (show ¬ ((snapT i t c b).size : Int) > 20000 by omega)]
  exact Ev.here (f := fun _ => some (i, t, c, b, true)) (fun k => by simp only [impl_ReadSnap.j0, Bool.false_eq_true, if_false]) (fun _ => rfl)

/-! ### disk -/
abbrev Fl := S57
def lt (a b : ByteArray) : Bool := Op.bytesLess a.toList b.toList
theorem less_trans : ∀ x y z : List UInt8, Op.bytesLess x y = true → Op.bytesLess y z = true → Op.bytesLess x z = true := by
  intro x
  induction x with
  | nil =>
    intro y z h1 h2
    cases y with
    | nil => simp [Op.bytesLess] at h1
    | cons b y =>
      cases z with
      | nil => simp [Op.bytesLess] at h2
      | cons c z => rfl
  | cons a x ih =>
    intro y z h1 h2
    cases y with
    | nil => simp [Op.bytesLess] at h1
    | cons b y =>
      cases z with
      | nil => simp [Op.bytesLess] at h2
      | cons c z =>
        simp only [Op.bytesLess, Bool.or_eq_true, Bool.and_eq_true, decide_eq_true_eq, beq_iff_eq] at h1 h2 ⊢
        rcases h1 with h1 | ⟨h1, h3⟩
        · rcases h2 with h2 | ⟨h2, h4⟩
          · exact .inl (UInt8.lt_trans h1 h2)
          · exact .inl (h2 ▸ h1)
        · rcases h2 with h2 | ⟨h2, h4⟩
          · exact .inl (h1 ▸ h2)
          · exact .inr ⟨h1.trans h2, ih y z h3 h4⟩
theorem less_irrefl : ∀ x : List UInt8, Op.bytesLess x x = false := by
  intro x
  induction x with
  | nil => rfl
  | cons a x ih => simp [Op.bytesLess, ih]
theorem lt_trans {a b c : ByteArray} (h1 : lt a b = true) (h2 : lt b c = true) : lt a c = true := less_trans _ _ _ h1 h2
theorem lt_irrefl (a : ByteArray) : lt a a = false := less_irrefl _
theorem lt_ne {a b : ByteArray} (h : lt a b = true) : a ≠ b := by intro e; subst e; rw [lt_irrefl] at h; cases h
def GoodFile (f : Fl) : Prop := (1 ≤ f.f0.size ∧ f.f0.size ≤ 8) ∧ f.f1.size ≤ 20000 ∧ (0 ≤ f.f2 ∧ f.f2 ≤ (f.f1.size : Int))
structure GoodDisk (d : List Fl) : Prop where
  hl : d.length ≤ 30
  hf : ∀ f ∈ d, GoodFile f
  hp : d.Pairwise (fun a b => lt a.f0 b.f0 = true)
theorem rdF_at {l : List Fl} {j : Nat} (h : j < l.length) : rd_T57 l (j : Int) = l[j] := by unfold rd_T57; exact getD_at _ h
theorem pair_adj {l : List Fl} (h : l.Pairwise (fun a b => lt a.f0 b.f0 = true)) {i j : Nat} (hj : j < l.length) (hij : i < j) : lt (l[i]'(by omega)).f0 l[j].f0 = true :=
  List.pairwise_iff_getElem.1 h i j (by omega) hj hij
theorem impl_disk_loop {d : List Fl} (h : GoodDisk d) : ∀ (m j : Nat), d.length - j = m → j ≤ d.length → Ev (fun k => impl_DiskOk.l0 k d (d.length : Int) (j : Int) d) true := by
  have hl := h.hl
  intro m
  induction m with
  | zero =>
    intro j hm hj
    exact Ev.here (f := fun _ => some true) (fun k => by simp only [impl_DiskOk.l0]; rw [if_neg (by omega), decide_eq_true (by omega)]) (fun _ => rfl)
  | succ m ih =>
    intro j hm hj
    have hjl : j < d.length := by omega
    obtain ⟨g1, g2, g3⟩ := h.hf d[j] (List.getElem_mem hjl)
    have r1 : rng ((d[j].f0.size : Int)) 1 8 = true := rng_iff.2 ⟨by omega, by omega⟩
    have r2 : rng d[j].f2 0 (d[j].f1.size : Int) = true := rng_iff.2 g3
    have step : Ev (fun k => impl_DiskOk.j1 k d (d.length : Int) (j : Int) false d) true := by
      refine Ev.step (fun k => by simp only [impl_DiskOk.j1, Bool.false_eq_true, if_false]; rfl) ?_
      rw [w64 (x := (j : Int) + 1) (by omega) (by omega)]
      exact ih (j + 1) (by omega) (by omega)
    refine Ev.step (fun k => by simp only [impl_DiskOk.l0]; rw [if_pos (show (j : Int) < (d.length : Int) by omega), if_pos (show (0 : Int) ≤ (j : Int) by omega)]) ?_
    simp only [if_pos (show (j : Int) < (d.length : Int) by omega), rdF_at hjl, within_eq, Option.bind_some, r1, r2, if_true, if_neg (show ¬ (d[j].f1.size : Int) > 20000 by omega)]
    by_cases h0 : (j : Int) > 0
    · have e1 : wrap64 ((j : Int) - 1) = ((j - 1 : Nat) : Int) := by rw [w64 (by omega) (by omega)]; omega
      have hlt := pair_adj h.hp hjl (show j - 1 < j by omega)
      unfold lt at hlt
      simp only [if_pos h0, e1, if_pos (show (0 : Int) ≤ ((j - 1 : Nat) : Int) by omega), if_pos (show ((j - 1 : Nat) : Int) < (d.length : Int) by omega), rdF_at (show j - 1 < d.length by omega), hlt, Bool.not_true]
      exact step
    · simp only [if_neg h0]
      exact step
theorem impl_disk {d : List Fl} (h : GoodDisk d) : Ev (fun k => impl_DiskOk.f k d) true := impl_disk_loop h d.length 0 (by omega) (by omega)
theorem l03Name_eq (s : ByteArray) : spec_l03Name.f s = some (rng (s.size : Int) 1 8) := by unfold spec_l03Name.f; rw [in_eq]; rfl
theorem spec_disk_loop {d : List Fl} (h : GoodDisk d) : ∀ (m j : Nat), d.length - j = m → j ≤ d.length → Ev (fun k => spec_DiskOk.l0 k (j : Int) d) true := by
  have hl := h.hl
  intro m
  induction m with
  | zero =>
    intro j hm hj
    exact Ev.here (f := fun _ => some true) (fun k => by simp only [spec_DiskOk.l0]; rw [if_neg (by omega)]) (fun _ => rfl)
  | succ m ih =>
    intro j hm hj
    have hjl : j < d.length := by omega
    obtain ⟨g1, g2, g3⟩ := h.hf d[j] (List.getElem_mem hjl)
    have r1 : rng ((d[j].f0.size : Int)) 1 8 = true := rng_iff.2 ⟨by omega, by omega⟩
    have r2 : rng d[j].f2 0 (d[j].f1.size : Int) = true := rng_iff.2 g3
    have step : Ev (fun k => spec_DiskOk.j1 k (j : Int) false d) true := by
      refine Ev.step (fun k => by simp only [spec_DiskOk.j1, Bool.false_eq_true, if_false]; rfl) ?_
      rw [w64 (x := (j : Int) + 1) (by omega) (by omega)]
      exact ih (j + 1) (by omega) (by omega)
    refine Ev.step (fun k => by simp only [spec_DiskOk.l0]; rw [if_pos (show (j : Int) < (d.length : Int) by omega), if_pos (show (0 : Int) ≤ (j : Int) by omega)]) ?_
    simp only [rdF_at hjl, l03Name_eq, in_eq, Option.bind_some, r1, r2, if_true, if_neg (show ¬ (d[j].f1.size : Int) > 20000 by omega)]
    by_cases h0 : (j : Int) > 0
    · have e1 : wrap64 ((j : Int) - 1) = ((j - 1 : Nat) : Int) := by rw [w64 (by omega) (by omega)]; omega
      have hlt := pair_adj h.hp hjl (show j - 1 < j by omega)
      unfold lt at hlt
      simp only [if_pos h0, e1, if_pos (show (0 : Int) ≤ ((j - 1 : Nat) : Int) by omega), if_pos (show ((j - 1 : Nat) : Int) < (d.length : Int) by omega), rdF_at (show j - 1 < d.length by omega), hlt, Bool.not_true]
      exact step
    · simp only [if_neg h0]
      exact step
theorem spec_disk {d : List Fl} (h : GoodDisk d) : Ev (fun k => spec_DiskOk.f k d) true := by
  have hl := h.hl
  unfold spec_DiskOk.f
  simp only [if_neg (show ¬ (d.length : Int) > 30 by omega)]
  exact spec_disk_loop h d.length 0 (by omega) (by omega)
def put (d : List Fl) (n t : ByteArray) (v : Int) : List Fl := d.filter (fun f => lt f.f0 n) ++ (⟨n, t, v⟩ : Fl) :: d.filter (fun f => lt n f.f0)
def wout (d : List Fl) (n : ByteArray) : List Fl := d.filter (fun f => !(decide (f.f0 = n)))
theorem filter_take_snoc {α : Type} {p : α → Bool} {l : List α} {j : Nat} (h : j < l.length) : (l.take (j + 1)).filter p = (l.take j).filter p ++ (if p l[j] = true then [l[j]] else []) := by
  rw [← List.take_append_getElem h, List.filter_append]
  congr 1
  by_cases hp : p l[j] = true
  · rw [if_pos hp, List.filter_cons_of_pos hp]; rfl
  · rw [if_neg hp, List.filter_cons_of_neg hp]; rfl
theorem filter_le {α : Type} {p : α → Bool} {l : List α} {n : Nat} (h : l.length ≤ n) : (l.filter p).length ≤ n := Nat.le_trans (List.length_filter_le p l) h
theorem put_l1' {d : List Fl} (n t : ByteArray) (v : Int) (a : List Fl) (hd : d.length ≤ 1000) (ha : a.length ≤ 2000) : ∀ (m j : Nat), d.length - j = m → j ≤ d.length → Ev (fun k => spec_l03Put.l1 k (j : Int) d n t v (a ++ (d.take j).filter (fun f => lt n f.f0))) (a ++ d.filter (fun f => lt n f.f0)) := by
  intro m
  induction m with
  | zero =>
    intro j hm hj
    rw [List.take_of_length_le (by omega)]
    exact Ev.here (f := fun _ => some (a ++ d.filter (fun f => lt n f.f0))) (fun k => by simp only [spec_l03Put.l1]; rw [if_neg (by omega)]) (fun _ => rfl)
  | succ m ih =>
    intro j hm hj
    have hjl : j < d.length := by omega
    have hz : (a ++ (d.take j).filter (fun f => lt n f.f0)).length < 3518437208883 := by
      have := filter_le (p := fun f : Fl => lt n f.f0) (l := d.take j) (n := 1000) (by rw [List.length_take]; omega)
      rw [List.length_append]; omega
    have hn := ih (j + 1) (by omega) (by omega)
    refine Ev.step (fun k => by simp only [spec_l03Put.l1]; rw [if_pos (show (j : Int) < (d.length : Int) by omega), if_pos (show (0 : Int) ≤ (j : Int) by omega)]) ?_
    simp only [rdF_at hjl, w64 (x := (j : Int) + 1) (by omega) (by omega)]
    rw [filter_take_snoc hjl] at hn
    by_cases hc : lt n d[j].f0 = true
    · have hc' := hc
      unfold lt at hc'
      simp only [if_pos hc', if_pos hz]
      rw [if_pos hc, ← List.append_assoc] at hn
      exact hn
    · have hc' := hc
      unfold lt at hc'
      simp only [if_neg hc']
      rw [if_neg hc, List.append_nil] at hn
      exact hn
theorem put_l0' {d : List Fl} (n t : ByteArray) (v : Int) (hd : d.length ≤ 1000) : ∀ (m j : Nat), d.length - j = m → j ≤ d.length → Ev (fun k => spec_l03Put.l0 k (j : Int) d n t v ((d.take j).filter (fun f => lt f.f0 n))) (put d n t v) := by
  intro m
  induction m with
  | zero =>
    intro j hm hj
    rw [List.take_of_length_le (by omega)]
    have hz := filter_le (p := fun f : Fl => lt f.f0 n) hd
    refine Ev.step (fun k => by simp only [spec_l03Put.l0]; rw [if_neg (show ¬ (j : Int) < (d.length : Int) by omega), if_pos (show (d.filter (fun f => lt f.f0 n)).length < 3518437208883 by omega)]) ?_
    have := put_l1' n t v (d.filter (fun f => lt f.f0 n) ++ [(⟨n, t, v⟩ : Fl)]) hd (by rw [List.length_append, List.length_singleton]; omega) d.length 0 (by omega) (by omega)
    rw [List.take_zero, List.filter_nil, List.append_nil, List.append_assoc] at this
    exact this
  | succ m ih =>
    intro j hm hj
    have hjl : j < d.length := by omega
    have hz : ((d.take j).filter (fun f => lt f.f0 n)).length < 3518437208883 := by
      have := filter_le (p := fun f : Fl => lt f.f0 n) (l := d.take j) (n := 1000) (by rw [List.length_take]; omega)
      omega
    have hn := ih (j + 1) (by omega) (by omega)
    refine Ev.step (fun k => by simp only [spec_l03Put.l0]; rw [if_pos (show (j : Int) < (d.length : Int) by omega), if_pos (show (0 : Int) ≤ (j : Int) by omega)]) ?_
    simp only [rdF_at hjl, w64 (x := (j : Int) + 1) (by omega) (by omega)]
    rw [filter_take_snoc hjl] at hn
    by_cases hc : lt d[j].f0 n = true
    · have hc' := hc
      unfold lt at hc'
      simp only [if_pos hc', if_pos hz]
      rw [if_pos hc] at hn
      exact hn
    · have hc' := hc
      unfold lt at hc'
      simp only [if_neg hc']
      rw [if_neg hc, List.append_nil] at hn
      exact hn
theorem spec_put {d : List Fl} (n t : ByteArray) (v : Int) (hd : d.length ≤ 1000) : Ev (fun k => spec_l03Put.f k d n t v) (put d n t v) := by
  have := put_l0' n t v hd d.length 0 (by omega) (by omega)
  rw [List.take_zero, List.filter_nil] at this
  exact this
theorem wout_l0 {d : List Fl} (n : ByteArray) (hd : d.length ≤ 1000) : ∀ (m j : Nat), d.length - j = m → j ≤ d.length → Ev (fun k => spec_l03Without.l0 k n (j : Int) d (wout (d.take j) n)) (wout d n) := by
  intro m
  induction m with
  | zero =>
    intro j hm hj
    rw [List.take_of_length_le (by omega)]
    exact Ev.here (f := fun _ => some (wout d n)) (fun k => by simp only [spec_l03Without.l0]; rw [if_neg (by omega)]) (fun _ => rfl)
  | succ m ih =>
    intro j hm hj
    have hjl : j < d.length := by omega
    have hz : (wout (d.take j) n).length < 3518437208883 := by
      have := filter_le (p := fun f : Fl => !(decide (f.f0 = n))) (l := d.take j) (n := 1000) (by rw [List.length_take]; omega)
      unfold wout; omega
    have hn := ih (j + 1) (by omega) (by omega)
    refine Ev.step (fun k => by simp only [spec_l03Without.l0]; rw [if_pos (show (j : Int) < (d.length : Int) by omega), if_pos (show (0 : Int) ≤ (j : Int) by omega)]) ?_
    simp only [rdF_at hjl, w64 (x := (j : Int) + 1) (by omega) (by omega), toList_iff]
    unfold wout at hn hz ⊢
    rw [filter_take_snoc hjl] at hn
    by_cases hc : d[j].f0 = n
    · simp only [if_pos hc]
      rw [if_neg (by simp [hc]), List.append_nil] at hn
      exact hn
    · simp only [if_neg hc, if_pos hz]
      rw [if_pos (by simp [hc])] at hn
      exact hn
theorem spec_wout {d : List Fl} (n : ByteArray) (hd : d.length ≤ 1000) : Ev (fun k => spec_l03Without.f k d n) (wout d n) := by
  have := wout_l0 n hd d.length 0 (by omega) (by omega)
  rw [List.take_zero] at this
  exact this
theorem at_no {d : List Fl} {n : ByteArray} (hd : d.length ≤ 1000) (h : ∀ f ∈ d, f.f0 ≠ n) : Ev (fun k => spec_l03At.f k d n) (-1) := by
  unfold spec_l03At.f
  have : ∀ (m j : Nat), d.length - j = m → j ≤ d.length → Ev (fun k => spec_l03At.l0 k n (j : Int) d) (-1) := by
    intro m
    induction m with
    | zero =>
      intro j hm hj
      exact Ev.here (f := fun _ => some (-1)) (fun k => by simp only [spec_l03At.l0]; rw [if_neg (by omega)]) (fun _ => rfl)
    | succ m ih =>
      intro j hm hj
      have hjl : j < d.length := by omega
      refine Ev.step (fun k => by simp only [spec_l03At.l0]; rw [if_pos (show (j : Int) < (d.length : Int) by omega), if_pos (show (0 : Int) ≤ (j : Int) by omega)]) ?_
      simp only [rdF_at hjl, w64 (x := (j : Int) + 1) (by omega) (by omega), toList_iff, if_neg (h _ (List.getElem_mem hjl))]
      exact ih (j + 1) (by omega) (by omega)
  exact this d.length 0 (by omega) (by omega)
theorem at_yes {d : List Fl} {n : ByteArray} {i : Nat} (hd : d.length ≤ 1000) (hi : i < d.length) (h : ∀ j (hj : j < i), (d[j]'(by omega)).f0 ≠ n) (hf : d[i].f0 = n) : Ev (fun k => spec_l03At.f k d n) (i : Int) := by
  unfold spec_l03At.f
  have : ∀ (m j : Nat), i - j = m → j ≤ i → Ev (fun k => spec_l03At.l0 k n (j : Int) d) (i : Int) := by
    intro m
    induction m with
    | zero =>
      intro j hm hj
      obtain rfl : j = i := by omega
      exact Ev.here (f := fun _ => some (j : Int)) (fun k => by simp only [spec_l03At.l0]; rw [if_pos (show (j : Int) < (d.length : Int) by omega), if_pos (show (0 : Int) ≤ (j : Int) by omega), rdF_at hi, if_pos (toList_iff.2 hf)]) (fun _ => rfl)
    | succ m ih =>
      intro j hm hj
      have hjl : j < d.length := by omega
      refine Ev.step (fun k => by simp only [spec_l03At.l0]; rw [if_pos (show (j : Int) < (d.length : Int) by omega), if_pos (show (0 : Int) ≤ (j : Int) by omega)]) ?_
      simp only [rdF_at hjl, w64 (x := (j : Int) + 1) (by omega) (by omega), toList_iff, if_neg (h j (by omega))]
      exact ih (j + 1) (by omega) (by omega)
  exact this i 0 (by omega) (by omega)

/-! ### acts -/
abbrev Ac := S74
def mt : ByteArray := (⟨#[]⟩ : ByteArray)
theorem mt_list : mt.toList = ([] : List UInt8) := toList_nil.2 rfl
theorem disj_filter {α : Type} {p q : α → Bool} (h : ∀ x, p x = true → q x = false) : ∀ l : List α, (l.filter p).length + (l.filter q).length ≤ l.length := by
  intro l
  induction l with
  | nil => simp
  | cons a l ih =>
    cases hp : p a with
    | true => rw [List.filter_cons_of_pos hp, List.filter_cons_of_neg (by rw [h a hp]; simp)]; simp only [List.length_cons]; omega
    | false =>
      rw [List.filter_cons_of_neg (by rw [hp]; simp)]
      cases hq : q a with
      | true => rw [List.filter_cons_of_pos hq]; simp only [List.length_cons]; omega
      | false => rw [List.filter_cons_of_neg (by rw [hq]; simp)]; simp only [List.length_cons]; omega
theorem put_len (d : List Fl) (n t : ByteArray) (v : Int) : (put d n t v).length ≤ d.length + 1 := by
  have := disj_filter (p := fun f : Fl => lt f.f0 n) (q := fun f : Fl => lt n f.f0) (fun x h => by
    cases h2 : lt n x.f0 with
    | false => rfl
    | true => have h3 := lt_trans h h2; rw [lt_irrefl] at h3; cases h3) d
  unfold put
  simp only [List.length_append, List.length_cons]
  exact Nat.add_le_add_right this 1
theorem good_put {d : List Fl} {n t : ByteArray} {v : Int} (h : GoodDisk d) (hf : GoodFile (⟨n, t, v⟩ : Fl)) (hl : (put d n t v).length ≤ 30) : GoodDisk (put d n t v) := by
  refine ⟨hl, fun f hm => ?_, ?_⟩
  · unfold put at hm
    rcases List.mem_append.1 hm with hm | hm
    · exact h.hf f (List.mem_filter.1 hm).1
    · rcases List.mem_cons.1 hm with rfl | hm
      · exact hf
      · exact h.hf f (List.mem_filter.1 hm).1
  · unfold put
    refine List.pairwise_append.2 ⟨h.hp.sublist List.filter_sublist, List.pairwise_cons.2 ⟨fun f hm => (List.mem_filter.1 hm).2, h.hp.sublist List.filter_sublist⟩, fun x hx y hy => ?_⟩
    have hx2 := (List.mem_filter.1 hx).2
    rcases List.mem_cons.1 hy with rfl | hy
    · exact hx2
    · exact lt_trans hx2 (List.mem_filter.1 hy).2
theorem good_wout {d : List Fl} (n : ByteArray) (h : GoodDisk d) : GoodDisk (wout d n) :=
  ⟨filter_le h.hl, fun f hm => h.hf f (List.mem_filter.1 hm).1, h.hp.sublist List.filter_sublist⟩
theorem good_tail {f : Fl} {d : List Fl} (h : GoodDisk (f :: d)) : GoodDisk d :=
  ⟨by have := h.hl; simp only [List.length_cons] at this; omega, fun x hx => h.hf x (List.mem_cons_of_mem _ hx), (List.pairwise_cons.1 h.hp).2⟩
theorem at_mem {d : List Fl} {f : Fl} (h : GoodDisk d) (hm : f ∈ d) : ∃ i, ∃ hi : i < d.length, d[i] = f ∧ Ev (fun k => spec_l03At.f k d f.f0) (i : Int) := by
  obtain ⟨i, hi, e⟩ := List.getElem_of_mem hm
  have hl := h.hl
  refine ⟨i, hi, e, at_yes (by omega) hi (fun j hj => ?_) (by rw [e])⟩
  rw [← e]
  exact lt_ne (pair_adj h.hp hi hj)
theorem act_j3 {d : List Fl} (h : GoodDisk d) : Ev (fun k => spec_DoAct.j3 k d) (d, true) := by
  refine Ev.step (fun k => by simp only [spec_DoAct.j3]; rfl) ?_
  refine Ev.bind (spec_disk h) ?_
  simp only [if_true]
  exact Ev.now _
theorem act_in {d : List Fl} {o : Int} {n t u : ByteArray} {r : List Fl × Bool} (h : GoodDisk d) (hn : 1 ≤ n.size ∧ n.size ≤ 8) (hu : o ≠ 3 → u = mt) (ht : o ≠ 1 → t = mt) (hr : Ev (fun k => spec_DoAct.j0 k false d o n t u) r) : Ev (fun k => spec_DoAct.f k d o n t u) r := by
  unfold spec_DoAct.f
  refine Ev.bind (spec_disk h) ?_
  simp only [if_true, l03Name_eq, rng_iff.2 (show 1 ≤ (n.size : Int) ∧ (n.size : Int) ≤ 8 by omega), Option.bind_some]
  have e : ((mt.toList : List UInt8) != ([] : List UInt8)) = false := by rw [mt_list]; rfl
  by_cases h3 : o = 3
  · have h1 : ¬ o = 1 := by omega
    have := ht h1
    subst this
    simp only [if_pos h3, if_neg h1, e]
    exact hr
  · have := hu h3
    subst this
    simp only [if_neg h3, if_pos mt_list]
    by_cases h1 : o = 1
    · simp only [if_pos h1]
      exact hr
    · have := ht h1
      subst this
      simp only [if_neg h1, e]
      exact hr
theorem act_j0 {d : List Fl} {o : Int} {n t u : ByteArray} {r : List Fl × Bool} {f : Fl} (h : GoodDisk d) (hm : f ∈ d) (hn : f.f0 = n) (hr : ∀ i : Nat, Ev (fun k => spec_DoAct.j1 k (i : Int) d o n t u f.f0 f.f1 f.f2) r) : Ev (fun k => spec_DoAct.j0 k false d o n t u) r := by
  subst hn
  obtain ⟨i, hi, e, ha⟩ := at_mem h hm
  refine Ev.step (fun k => by simp only [spec_DoAct.j0, Bool.false_eq_true, if_false]; rfl) ?_
  refine Ev.bind ha ?_
  simp only [if_pos (show (i : Int) ≥ 0 by omega), if_pos (show (0 : Int) ≤ (i : Int) by omega), if_pos (show (i : Int) < (d.length : Int) by omega), rdF_at hi, e]
  exact hr i
theorem act_new {d : List Fl} {n t : ByteArray} (h : GoodDisk d) (hn : 1 ≤ n.size ∧ n.size ≤ 8) (hno : ∀ f ∈ d, f.f0 ≠ n) (hg : GoodDisk (put d n t 0)) (hz : t.size ≤ 20000) : Ev (fun k => spec_DoAct.f k d 1 n t mt) (put d n t 0, true) := by
  have hl := h.hl
  refine act_in h hn (fun _ => rfl) (fun h => absurd rfl h) ?_
  refine Ev.step (fun k => by simp only [spec_DoAct.j0, Bool.false_eq_true, if_false]; rfl) ?_
  refine Ev.bind (at_no (by omega) hno) ?_
  simp only [if_neg (show ¬ (-1 : Int) ≥ 0 by omega)]
  refine Ev.step (fun k => by simp only [spec_DoAct.j1, if_true]; rfl) ?_
  simp only [if_pos (show (⟨#[]⟩ : ByteArray).size + t.size ≤ 9223372036854775807 by have : (⟨#[]⟩ : ByteArray).size = 0 := rfl; omega), empty_app]
  refine Ev.bind (spec_put n t 0 (by omega)) ?_
  exact act_j3 hg
theorem act_add {d : List Fl} {n t : ByteArray} {f : Fl} (h : GoodDisk d) (hm : f ∈ d) (hn : f.f0 = n) (hg : GoodDisk (put d n (f.f1 ++ t) f.f2)) (hz : t.size ≤ 20000) : Ev (fun k => spec_DoAct.f k d 1 n t mt) (put d n (f.f1 ++ t) f.f2, true) := by
  have hl := h.hl
  have hgf := h.hf f hm
  refine act_in h (by rw [← hn]; exact hgf.1) (fun _ => rfl) (fun h => absurd rfl h) ?_
  refine act_j0 h hm hn fun i => ?_
  refine Ev.step (fun k => by simp only [spec_DoAct.j1, if_true]; rfl) ?_
  simp only [if_pos (show f.f1.size + t.size ≤ 9223372036854775807 by have := hgf.2.1; omega), hn]
  refine Ev.bind (spec_put n _ _ (by omega)) ?_
  exact act_j3 hg
theorem act_keep {d : List Fl} {n : ByteArray} {f : Fl} (h : GoodDisk d) (hm : f ∈ d) (hn : f.f0 = n) (hg : GoodDisk (put d n f.f1 (f.f1.size : Int))) : Ev (fun k => spec_DoAct.f k d 2 n mt mt) (put d n f.f1 (f.f1.size : Int), true) := by
  have hl := h.hl
  have hgf := h.hf f hm
  refine act_in h (by rw [← hn]; exact hgf.1) (fun _ => rfl) (fun _ => rfl) ?_
  refine act_j0 h hm hn fun i => ?_
  refine Ev.step (fun k => by simp only [spec_DoAct.j1, if_true]; rfl) ?_
  simp only [if_neg (show ¬ (2 : Int) = 1 by omega), if_neg (show ¬ (i : Int) < 0 by omega), hn]
  refine Ev.bind (spec_put n _ _ (by omega)) ?_
  exact act_j3 hg
theorem act_move {d : List Fl} {n u : ByteArray} {f : Fl} (h : GoodDisk d) (hm : f ∈ d) (hn : f.f0 = n) (hk : f.f2 = (f.f1.size : Int)) (hu : 1 ≤ u.size ∧ u.size ≤ 8) (hne : u ≠ n) (hg : GoodDisk (put (wout d n) u f.f1 f.f2)) : Ev (fun k => spec_DoAct.f k d 3 n mt u) (put (wout d n) u f.f1 f.f2, true) := by
  have hl := h.hl
  have hgf := h.hf f hm
  refine act_in h (by rw [← hn]; exact hgf.1) (fun h => absurd rfl h) (fun _ => rfl) ?_
  refine act_j0 h hm hn fun i => ?_
  refine Ev.step (fun k => by simp only [spec_DoAct.j1, if_true]; rfl) ?_
  simp only [if_neg (show ¬ (3 : Int) = 1 by omega), if_neg (show ¬ (i : Int) < 0 by omega), if_neg (show ¬ (3 : Int) = 2 by omega), if_neg (show ¬ f.f2 < (f.f1.size : Int) by omega), toList_iff, if_neg hne, l03Name_eq, rng_iff.2 (show 1 ≤ (u.size : Int) ∧ (u.size : Int) ≤ 8 by omega), Option.bind_some, Bool.not_true]
  refine Ev.step (fun k => by simp only [spec_DoAct.j2, Bool.false_eq_true, if_false]; rfl) ?_
  refine Ev.bind (spec_wout n (by omega)) ?_
  refine Ev.bind (spec_put u _ _ (by have := (good_wout n h).hl; omega)) ?_
  exact act_j3 hg
theorem act_drop {d : List Fl} {n : ByteArray} {f : Fl} (h : GoodDisk d) (hm : f ∈ d) (hn : f.f0 = n) : Ev (fun k => spec_DoAct.f k d 4 n mt mt) (wout d n, true) := by
  have hl := h.hl
  have hgf := h.hf f hm
  refine act_in h (by rw [← hn]; exact hgf.1) (fun _ => rfl) (fun _ => rfl) ?_
  refine act_j0 h hm hn fun i => ?_
  refine Ev.step (fun k => by simp only [spec_DoAct.j1, if_true]; rfl) ?_
  simp only [if_neg (show ¬ (4 : Int) = 1 by omega), if_neg (show ¬ (i : Int) < 0 by omega), if_neg (show ¬ (4 : Int) = 2 by omega), if_neg (show ¬ (4 : Int) = 3 by omega)]
  refine Ev.bind (spec_wout n (by omega)) ?_
  exact act_j3 (good_wout n h)
inductive Runs : List Fl → List Ac → List Fl → Prop
  | nil (d : List Fl) : Runs d [] d
  | cons {d e g : List Fl} {a : Ac} {r : List Ac} (h : Ev (fun k => spec_DoAct.f k d a.f0 a.f1 a.f2 a.f3) (e, true)) (h2 : Runs e r g) : Runs d (a :: r) g
theorem Runs.app {d e g : List Fl} {a r : List Ac} (h : Runs d a e) (h2 : Runs e r g) : Runs d (a ++ r) g := by
  induction h with
  | nil d => exact h2
  | cons h _ ih => exact .cons h (ih h2)
theorem rdA_at {l : List Ac} {j : Nat} (h : j < l.length) : rd_T74 l (j : Int) = l[j] := by unfold rd_T74; exact getD_at _ h
theorem runs_loop {d e : List Fl} {r : List Ac} (h : Runs d r e) : ∀ (l : List Ac) (j : Nat), l.length ≤ 1000000 → j ≤ l.length → l.drop j = r → Ev (fun k => spec_DoActs.l0 k l (j : Int) d) (e, (l.length : Int)) := by
  induction h with
  | nil d =>
    intro l j hl hj hr
    have : l.length ≤ j := by
      rcases Nat.lt_or_ge j l.length with h1 | h1
      · have h2 := congrArg List.length hr
        rw [List.length_drop, List.length_nil] at h2
        omega
      · exact h1
    exact Ev.here (f := fun _ => some (d, (l.length : Int))) (fun k => by simp only [spec_DoActs.l0]; rw [if_neg (by omega)]) (fun _ => rfl)
  | @cons d e g a r h _ ih =>
    intro l j hl hj hr
    have hjl : j < l.length := by
      rcases Nat.lt_or_ge j l.length with h1 | h1
      · exact h1
      · rw [List.drop_of_length_le h1] at hr; cases hr
    rw [List.drop_eq_getElem_cons hjl] at hr
    injection hr with h1 h2
    refine Ev.step (fun k => by simp only [spec_DoActs.l0]; rw [if_pos (show (j : Int) < (l.length : Int) by omega), if_pos (show (0 : Int) ≤ (j : Int) by omega)]) ?_
    simp only [rdA_at hjl, h1]
    refine Ev.bind h ?_
    simp only [if_true, w64 (x := (j : Int) + 1) (by omega) (by omega)]
    exact ih l (j + 1) hl (by omega) h2
theorem runs_ev {d e : List Fl} {r : List Ac} (h : Runs d r e) (hd : d.length ≤ 30) (hr : r.length ≤ 1000000) : Ev (fun k => spec_DoActs.f k d r) (e, (r.length : Int)) := by
  unfold spec_DoActs.f
  simp only [Option.bind_some, List.length_nil, Nat.zero_add, if_pos (show d.length < 3518437208883 by omega), List.nil_append]
  exact runs_loop h r 0 hr (by omega) rfl

/-! ### snapacts -/
theorem cat_le {α : Type} {f : α → ByteArray} (n : Nat) : ∀ l : List α, (∀ x ∈ l, (f x).size ≤ n) → (catB f l).size ≤ n * l.length := by
  intro l
  induction l with
  | nil => intro _; show 0 ≤ _; omega
  | cons x l ih =>
    intro h
    have h1 := h x (by simp)
    have h2 := ih (fun y hy => h y (by simp [hy]))
    simp only [catB, List.length_cons]
    rw [ByteArray.size_append, Nat.mul_add]
    omega
theorem keepT_1000 {a : List S84} {b : List S87} (h : keepB a b = true) : (keepT a b).size ≤ 1000 := by
  obtain ⟨⟨hl1, hl2⟩, h1, h2⟩ := keepB_iff h
  have c1 := cat_le (f := encS) 67 a (fun x hx => by
    obtain ⟨j, hj, rfl⟩ := List.getElem_of_mem hx
    have h3 := h1 j hj
    have s0 := varT_size a[j].f0
    have s1 := varT_size a[j].f1
    have s2 := shortT_size a[j].f2
    unfold encS
    rw [ByteArray.size_append, ByteArray.size_append]
    omega)
  have c2 := cat_le (f := encI) 55 b (fun x hx => by
    obtain ⟨j, hj, rfl⟩ := List.getElem_of_mem hx
    have h3 := h2 j hj
    have s0 := shortT_size b[j].f0
    have s1 := shortT_size b[j].f1
    have s2 := varT_size b[j].f2
    unfold encI
    rw [ByteArray.size_append, ByteArray.size_append]
    omega)
  have s0 := varT_size (a.length : Int)
  have s1 := varT_size (b.length : Int)
  unfold keepT
  rw [ByteArray.size_append, ByteArray.size_append, ByteArray.size_append]
  omega
def ks (a : List S84) (b : List S87) : ByteArray × Bool := if keepB a b = true then (keepT a b, true) else ((⟨#[]⟩ : ByteArray), false)
theorem ks_size (a : List S84) (b : List S87) : (ks a b).1.size ≤ 1000 := by
  unfold ks
  by_cases h : keepB a b = true
  · rw [if_pos h]; exact keepT_1000 h
  · rw [if_neg h]; show 0 ≤ 1000; omega
theorem toL (s : ByteArray) : s.toList = s.data.toList := ByteArray.toList_eq s
def dg (i : Nat) : List UInt8 := if i < 10 then [UInt8.ofNat (48 + i)] else [UInt8.ofNat (48 + i / 10), UInt8.ofNat (48 + i % 10)]
theorem dg_eq {i : Nat} (h : i < 100) : Lib.decDigits i = dg i := by
  unfold dg
  rw [Lib.decDigits]
  by_cases h1 : i < 10
  · rw [dif_pos h1, if_pos h1]
  · rw [dif_neg h1, if_neg h1, Lib.decDigits, dif_pos (by omega)]
    rfl
def sS : ByteArray := ⟨#[115]⟩
def nm (i : Nat) : ByteArray := sS ++ (⟨(dg i).toArray⟩ : ByteArray)
def sp : ByteArray := ⟨#[115, 43]⟩
theorem nm_data (i : Nat) : (nm i).data.toList = 115 :: dg i := by
  unfold nm
  rw [ByteArray.toList_data_append]
  rfl
theorem nm_lt {i j : Nat} : lt (nm i) (nm j) = Op.bytesLess (115 :: dg i) (115 :: dg j) := by unfold lt; rw [toL, toL, nm_data, nm_data]
theorem sp_lt {i : Nat} (h : i < 18) : lt sp (nm i) = true := by
  unfold lt
  rw [toL, toL, nm_data]
  have : ∀ i : Nat, i < 18 → Op.bytesLess [115, 43] (115 :: dg i) = true := by decide
  exact this i h
theorem dg_size (i : Nat) : 1 ≤ (dg i).length ∧ (dg i).length ≤ 2 := by unfold dg; split <;> simp
theorem nm_size (i : Nat) : 2 ≤ (nm i).size ∧ (nm i).size ≤ 3 := by
  have := dg_size i
  have h : (nm i).size = (nm i).data.toList.length := (Array.length_toList).symm
  rw [h, nm_data, List.length_cons]
  omega
theorem nm_inj {i j : Nat} (hi : i < 18) (hj : j < 18) (h : nm i = nm j) : i = j := by
  have h1 : (115 :: dg i : List UInt8) = 115 :: dg j := by rw [← nm_data, ← nm_data, h]
  have : ∀ i j : Nat, i < 18 → j < 18 → (115 :: dg i : List UInt8) = 115 :: dg j → i = j := by
    have h2 : ∀ i : Nat, i < 18 → ∀ j : Nat, j < 18 → (115 :: dg i : List UInt8) = 115 :: dg j → i = j := by decide
    exact fun i j hi hj => h2 i hi j hj
  exact this i j hi hj h1
theorem ext_tl (x : ByteArray) : (sS ++ x).extract 1 (sS ++ x).size = x := by
  apply bl_inj
  have hz : (sS ++ x).size = 1 + x.size := by rw [ByteArray.size_append]; rfl
  rw [bl_ext, bl_app, hz, Nat.add_sub_cancel_left, show (1 : Nat) = (bytesOf sS).length from rfl, List.drop_left, List.take_of_length_le (by rw [bytesOf_length]; omega)]
theorem ext_hd (x : ByteArray) : (sS ++ x).extract 0 1 = sS := by
  apply bl_inj
  rw [bl_ext, bl_app, List.drop_zero, Nat.sub_zero, show (1 : Nat) = (bytesOf sS).length from rfl, List.take_left]
theorem atoi_dg {i : Nat} (h : i < 18) : Lib.atoi (dg i) = some (i : Int) := by
  have : ∀ i : Nat, i < 18 → Lib.atoi (dg i) = some (i : Int) := by decide
  exact this i h
theorem readdec {i : Nat} (h : i < 18) : impl_ReadDecimal.f (⟨(dg i).toArray⟩ : ByteArray) = some ((i : Int), true) := by
  have h1 : (⟨(dg i).toArray⟩ : ByteArray).data.toList = dg i := rfl
  have hz : (⟨(dg i).toArray⟩ : ByteArray).size = (dg i).length := rfl
  have := dg_size i
  unfold impl_ReadDecimal.f
  rw [h1, atoi_dg h]
  simp only [hz, Int.toNat_natCast, dg_eq (show i < 100 by omega), if_true]
  rw [if_pos ⟨by omega, by omega, by omega⟩]
theorem numberOf {i : Nat} (h : i < 18) : Ev (fun k => impl_numberOf.f k (nm i) (⟨#[115]⟩ : ByteArray) 1000000) (i : Int) := by
  have hz := nm_size i
  unfold impl_numberOf.f
  simp only [if_neg (show ¬ ((nm i).size : Int) < 2 by omega), if_pos (show (0 : Int) ≤ 1 by omega), if_pos (show (1 : Int) ≤ ((nm i).size : Int) by omega)]
  have e : ((nm i).extract 0 1).toList = (⟨#[115]⟩ : ByteArray).toList := by unfold nm; rw [ext_hd]; rfl
  have e2 : (nm i).extract 1 (nm i).size = (⟨(dg i).toArray⟩ : ByteArray) := by unfold nm; exact ext_tl _
  simp only [e, bne_self_eq_false]
  refine Ev.step (fun k => by simp only [impl_numberOf.j0, Bool.false_eq_true, if_false]; rfl) ?_
  simp only [if_pos (show (1 : Int) ≤ ((nm i).size : Int) by omega), e2, readdec h, Option.bind_some, if_true, if_neg (show ¬ (i : Int) > 1000000 by omega)]
  exact Ev.now _
theorem isSnap {i : Nat} (h : i < 18) (t : ByteArray) (v : Int) : Ev (fun k => impl_isSnap.f k (nm i) t v) true := by
  unfold impl_isSnap.f
  refine Ev.bind (numberOf h) ?_
  rw [decide_eq_true (by omega)]
  exact Ev.now _
theorem snapName {i : Nat} (h : i < 18) : impl_SnapName.f (i : Int) = some (nm i) := by
  have := dg_size i
  unfold impl_SnapName.f impl_Decimal.f
  rw [isIndex_eq, rng_iff.2 ⟨by omega, by omega⟩]
  simp only [Option.bind_some, if_true]
  rw [if_pos ⟨by omega, by omega⟩]
  simp only [Option.bind_some, Int.toNat_natCast, dg_eq (show i < 100 by omega)]
  rw [if_pos (show 1 + (⟨(dg i).toArray⟩ : ByteArray).size ≤ 9223372036854775807 by show 1 + (dg i).length ≤ _; omega)]
  rfl
theorem figure {x : Int} (h0 : 0 ≤ x) (h : x < 10) : spec_l01Figure.f x = some (48 + x) := by
  unfold spec_l01Figure.f
  rw [if_pos h, w64 (by omega) (by omega)]
  congr 1
  omega
theorem specDec {i : Nat} (h : i < 10) : Ev (fun k => spec_Decimal.f k (i : Int)) (⟨(dg i).toArray⟩ : ByteArray) := by
  unfold spec_Decimal.f
  by_cases h0 : i = 0
  · subst h0
    simp only [if_pos (show ((0 : Nat) : Int) = 0 from rfl)]
    exact Ev.now _
  · have hd : dg i = [UInt8.ofNat (48 + i)] := by unfold dg; rw [if_pos h]
    have es : strOfNums [48 + (i : Int)] = (⟨(dg i).toArray⟩ : ByteArray) := by
      apply bl_inj
      rw [bl_str (by intro x hx; rw [List.mem_singleton] at hx; omega), hd]
      show [48 + (i : Int)] = [((UInt8.ofNat (48 + i)).toNat : Int)]
      rw [UInt8.toNat_ofNat']
      congr 1
      omega
    simp only [if_neg (show ¬ (i : Int) = 0 by omega), decide_eq_false (show ¬ (i : Int) < 0 by omega)]
    have hm : Int.tmod (i : Int) 10 = (i : Int) := by rw [Int.tmod_eq_emod_of_nonneg (by omega)]; omega
    have hq : Int.tdiv (i : Int) 10 = 0 := by rw [Int.tdiv_eq_ediv_of_nonneg (by omega)]; omega
    refine Ev.step (fun k => by simp only [spec_Decimal.l0]; rw [if_neg (show ¬ (i : Int) = 0 by omega), hm, if_neg (show ¬ (i : Int) < 0 by omega)]) ?_
    refine Ev.step (fun k => by simp only [spec_Decimal.j1]; rfl) ?_
    have hz : (strOfNums [48 + (i : Int)]).size = 1 := by rw [strOfNums_size]; rfl
    have hz2 : (strOfNums [48 + (i : Int)]).size + (⟨#[]⟩ : ByteArray).size ≤ 9223372036854775807 := by rw [hz]; show 1 + 0 ≤ _; omega
    have w0 : wrap64 0 = 0 := w64 (by omega) (by omega)
    simp only [figure (show (0 : Int) ≤ (i : Int) by omega) (show (i : Int) < 10 by omega), Option.bind_some, if_pos hz2, hq, app_empty, w0]
    rw [es]
    exact Ev.here (f := fun _ => some (⟨(dg i).toArray⟩ : ByteArray)) (fun k => by simp only [spec_Decimal.l0, if_true, Bool.false_eq_true, if_false]) (fun _ => rfl)
theorem specName {i : Nat} (h : i < 10) : Ev (fun k => spec_SnapName.f k (i : Int)) (nm i) := by
  have := dg_size i
  unfold spec_SnapName.f
  rw [in_eq, rng_iff.2 ⟨by omega, by omega⟩]
  simp only [Option.bind_some, if_true]
  refine Ev.bind (specDec h) ?_
  simp only [if_pos (show 1 + (⟨(dg i).toArray⟩ : ByteArray).size ≤ 9223372036854775807 by show 1 + (dg i).length ≤ _; omega)]
  exact Ev.now _
def SnapFile (f : Fl) : Prop := ∃ (i : Nat) (t : Int) (c : List Int) (b : ByteArray), i ≤ 8 ∧ GoodSnap i t c b ∧ f = (⟨nm i, snapT i t c b, ((snapT i t c b).size : Int)⟩ : Fl)
theorem SnapFile.good {f : Fl} (h : SnapFile f) : GoodFile f := by
  obtain ⟨i, t, c, b, hi, hg, rfl⟩ := h
  have h1 := nm_size i
  have h2 := snapT_size hg
  exact ⟨⟨by show 1 ≤ (nm i).size; omega, by show (nm i).size ≤ 8; omega⟩, by show (snapT i t c b).size ≤ 20000; omega, by show (0 : Int) ≤ ((snapT i t c b).size : Int); omega, by show ((snapT i t c b).size : Int) ≤ ((snapT i t c b).size : Int); omega⟩
structure Drawn (d : List Fl) : Prop where
  g : GoodDisk d
  s : ∀ f ∈ d, SnapFile f
theorem drawn_put {d : List Fl} {i : Nat} {t : Int} {c : List Int} {b : ByteArray} (h : Drawn d) (hl : d.length ≤ 20) (hi : i ≤ 8) (hg : GoodSnap i t c b) : Drawn (put d (nm i) (snapT i t c b) ((snapT i t c b).size : Int)) := by
  have hs : SnapFile (⟨nm i, snapT i t c b, ((snapT i t c b).size : Int)⟩ : Fl) := ⟨i, t, c, b, hi, hg, rfl⟩
  refine ⟨good_put h.g hs.good (by have := put_len d (nm i) (snapT i t c b) ((snapT i t c b).size : Int); omega), fun f hf => ?_⟩
  unfold put at hf
  rcases List.mem_append.1 hf with hf | hf
  · exact h.s f (List.mem_filter.1 hf).1
  · rcases List.mem_cons.1 hf with rfl | hf
    · exact hs
    · exact h.s f (List.mem_filter.1 hf).1
structure New (i t : Int) (c : List Int) (b : ByteArray) : Prop where
  n : ∃ j : Nat, i = (j : Int) ∧ 9 ≤ j ∧ j < 18
  g : GoodSnap i t c b
theorem tDrawS_loop {b : List Int} (hb : b.length ≤ 1048576) : ∀ (m : Nat) (x i h : Int) (d : List Fl), 2 - x ≤ m → 0 ≤ x → x ≤ 2 → (d.length : Int) ≤ x → Drawn d → Cur b i →
    Tot (fun k => spec_DrawRightSnaps.l0 k x b i h d) (fun r => Drawn r.1 ∧ r.1.length ≤ 2 ∧ New r.2.1 r.2.2.1 r.2.2.2.1 r.2.2.2.2) := by
  intro m
  induction m with
  | zero =>
    intro x i h d hm h0 h2 hl hd hi
    obtain rfl : x = 2 := by omega
    refine Tot.step (fun k => by simp only [spec_DrawRightSnaps.l0]; rfl) ?_
    refine Tot.bind (tBelow h 3 hb hi) fun q hq => ?_
    have hq2 := hq.1.2.1 (by omega)
    simp only [if_neg (show ¬ (2 : Int) < q.1 by omega)]
    refine Tot.bind (tKeep _ 12 (by omega) hb hq.2) fun u hu => ?_
    refine Tot.bind (P := fun r => r.1.size ≤ 1000) ⟨_, spec_KeepText_ok u.1 u.2.1 (by have := hu.1.1; omega) (by have := hu.1.2; omega), ks_size _ _⟩ fun t ht => ?_
    refine Tot.bind (tBelow _ 9 hb hu.2) fun v hv => ?_
    refine Tot.bind (tBelow _ 5 hb hv.2) fun w hw => ?_
    refine Tot.bind (tConfv _ hb hw.2) fun y hy => ?_
    have hv0 := hv.1.1
    have hv1 := hv.1.2.1 (by omega)
    have hw0 := hw.1.1
    have hw1 := hw.1.2.1 (by omega)
    refine Tot.ret _ ⟨hd, by show d.length ≤ 2; omega, ?_, ?_⟩
    · show ∃ j : Nat, wrap64 (9 + v.1) = (j : Int) ∧ _
      rw [w64 (by omega) (by omega)]
      exact ⟨(9 + v.1).toNat, by omega, by omega, by omega⟩
    · show GoodSnap (wrap64 (9 + v.1)) w.1 y.1 t.1
      rw [w64 (by omega) (by omega)]
      exact ⟨⟨by omega, by omega⟩, ⟨by omega, by omega⟩, hy.1, ht⟩
  | succ m ih =>
    intro x i h d hm h0 h2 hl hd hi
    refine Tot.step (fun k => by simp only [spec_DrawRightSnaps.l0]; rfl) ?_
    refine Tot.bind (tBelow h 3 hb hi) fun q hq => ?_
    have hq2 := hq.1.2.1 (by omega)
    by_cases hx : x < q.1
    · simp only [if_pos hx]
      refine Tot.bind (tKeep _ 6 (by omega) hb hq.2) fun u hu => ?_
      refine Tot.bind (P := fun r => r.1.size ≤ 1000) ⟨_, spec_KeepText_ok u.1 u.2.1 (by have := hu.1.1; omega) (by have := hu.1.2; omega), ks_size _ _⟩ fun t ht => ?_
      refine Tot.bind (tBelow _ 9 hb hu.2) fun v hv => ?_
      refine Tot.bind (tBelow _ 5 hb hv.2) fun w hw => ?_
      refine Tot.bind (tConfv _ hb hw.2) fun y hy => ?_
      have hv0 := hv.1.1
      have hv1 := hv.1.2.1 (by omega)
      have hw0 := hw.1.1
      have hw1 := hw.1.2.1 (by omega)
      obtain ⟨n, hn⟩ : ∃ n : Nat, v.1 = (n : Int) := ⟨v.1.toNat, by omega⟩
      have hg : GoodSnap v.1 w.1 y.1 t.1 := ⟨⟨by omega, by omega⟩, ⟨by omega, by omega⟩, hy.1, ht⟩
      rw [hn] at hg ⊢
      refine Tot.bind (P := fun r => r = (snapT n w.1 y.1 t.1, true)) ⟨_, spec_snaptext hg, rfl⟩ fun z hz => ?_
      subst hz
      refine Tot.bind (P := fun r => r = nm n) ⟨_, specName (show n < 10 by omega), rfl⟩ fun z hz => ?_
      subst hz
      refine Tot.bind (P := fun r => r = put d (nm n) (snapT n w.1 y.1 t.1) ((snapT n w.1 y.1 t.1).size : Int)) ⟨_, spec_put _ _ _ (by omega), rfl⟩ fun z hz => ?_
      subst hz
      rw [w64 (x := x + 1) (by omega) (by omega)]
      have hpl := put_len d (nm n) (snapT n w.1 y.1 t.1) ((snapT n w.1 y.1 t.1).size : Int)
      exact ih _ _ _ _ (by omega) (by omega) (by omega) (by omega) (drawn_put hd (by omega) (by omega) hg) hy.2
    · simp only [if_neg hx]
      refine Tot.bind (tKeep _ 12 (by omega) hb hq.2) fun u hu => ?_
      refine Tot.bind (P := fun r => r.1.size ≤ 1000) ⟨_, spec_KeepText_ok u.1 u.2.1 (by have := hu.1.1; omega) (by have := hu.1.2; omega), ks_size _ _⟩ fun t ht => ?_
      refine Tot.bind (tBelow _ 9 hb hu.2) fun v hv => ?_
      refine Tot.bind (tBelow _ 5 hb hv.2) fun w hw => ?_
      refine Tot.bind (tConfv _ hb hw.2) fun y hy => ?_
      have hv0 := hv.1.1
      have hv1 := hv.1.2.1 (by omega)
      have hw0 := hw.1.1
      have hw1 := hw.1.2.1 (by omega)
      refine Tot.ret _ ⟨hd, by show d.length ≤ 2; omega, ?_, ?_⟩
      · show ∃ j : Nat, wrap64 (9 + v.1) = (j : Int) ∧ _
        rw [w64 (by omega) (by omega)]
        exact ⟨(9 + v.1).toNat, by omega, by omega, by omega⟩
      · show GoodSnap (wrap64 (9 + v.1)) w.1 y.1 t.1
        rw [w64 (by omega) (by omega)]
        exact ⟨⟨by omega, by omega⟩, ⟨by omega, by omega⟩, hy.1, ht⟩
theorem tDrawS {b : List Int} (hb : b.length ≤ 1048576) : Tot (fun k => spec_DrawRightSnaps.f k b) (fun r => Drawn r.1 ∧ r.1.length ≤ 2 ∧ New r.2.1 r.2.2.1 r.2.2.2.1 r.2.2.2.2) := by
  obtain ⟨h, hn⟩ := new_ok b
  unfold spec_DrawRightSnaps.f
  refine Tot.bind (P := fun r => r = (b, 0, h)) ⟨_, hn, rfl⟩ fun r hr => ?_
  subst hr
  exact tDrawS_loop hb 2 0 0 h [] (by omega) (by omega) (by omega) (by simp) ⟨⟨by simp, fun f hf => (by cases hf), .nil⟩, fun f hf => (by cases hf)⟩ (cur_zero b)

/-! ### snaprun -/
theorem place_no {d : List Fl} {n : ByteArray} (hd : d.length ≤ 1000) (h : ∀ f ∈ d, f.f0 ≠ n) : Ev (fun k => impl_placeOf.f k d n) (-1) := by
  unfold impl_placeOf.f
  have : ∀ (m j : Nat), d.length - j = m → j ≤ d.length → Ev (fun k => impl_placeOf.l0 k d n (j : Int)) (-1) := by
    intro m
    induction m with
    | zero =>
      intro j hm hj
      exact Ev.here (f := fun _ => some (-1)) (fun k => by simp only [impl_placeOf.l0]; rw [if_neg (by omega)]) (fun _ => rfl)
    | succ m ih =>
      intro j hm hj
      have hjl : j < d.length := by omega
      have hne : (d[j].f0.toList == n.toList) = false := by rw [beq_eq_false_iff_ne]; exact fun e => h _ (List.getElem_mem hjl) (toList_iff.1 e)
      refine Ev.step (fun k => by simp only [impl_placeOf.l0]; rw [if_pos (show (j : Int) < (d.length : Int) by omega), if_pos (show (0 : Int) ≤ (j : Int) by omega)]) ?_
      simp only [rdF_at hjl, hne, Bool.false_eq_true, if_false, w64 (x := (j : Int) + 1) (by omega) (by omega)]
      exact ih (j + 1) (by omega) (by omega)
  exact this d.length 0 (by omega) (by omega)
theorem hasFile_no {d : List Fl} {n : ByteArray} (hd : d.length ≤ 1000) (h : ∀ f ∈ d, f.f0 ≠ n) : Ev (fun k => impl_hasFile.f k d n) false := by
  unfold impl_hasFile.f
  refine Ev.bind (place_no hd h) ?_
  exact Ev.now _
def cut60 (s : ByteArray) : Nat := min 60 s.size
def chunks : Nat → ByteArray → List Ac
  | 0, _ => []
  | m + 1, s => if s.size = 0 then [] else (⟨1, sp, s.extract 0 (cut60 s), mt⟩ : Ac) :: chunks m (s.extract (cut60 s) s.size)
def dropA (f : Fl) : Ac := ⟨4, f.f0, mt, mt⟩
def lastA (n : ByteArray) : List Ac := [⟨2, sp, mt, mt⟩, ⟨3, sp, mt, n⟩]
theorem chunks_len : ∀ (m : Nat) (s : ByteArray), (chunks m s).length ≤ m := by
  intro m
  induction m with
  | zero => intro s; exact Nat.le_refl 0
  | succ m ih =>
    intro s
    unfold chunks
    split
    · exact Nat.zero_le _
    · have := ih (s.extract (cut60 s) s.size)
      rw [List.length_cons]
      omega
theorem mn60 (s : ByteArray) : mn 60 (s.size : Int) = ((cut60 s : Nat) : Int) := by unfold cut60 mn; (try split) <;> omega
theorem size0 {s : ByteArray} : s.toList = ([] : List UInt8) ↔ s.size = 0 := by
  rw [toList_nil, ← bytesOf_length s]
  exact List.length_eq_zero_iff.symm
theorem drops_loop {d : List Fl} {n : ByteArray} (hd : d.length ≤ 1000) (hs : ∀ f ∈ d, SnapFile f) (hn : ∀ f ∈ d, f.f0 ≠ n) : ∀ (m j : Nat) (acc : List Ac), d.length - j = m → j ≤ d.length → acc.length ≤ 100000 + j →
    Ev (fun k => impl_SnapActs.l1 k acc n d (d.length : Int) (j : Int)) (acc ++ (d.drop j).map dropA, true) := by
  intro m
  induction m with
  | zero =>
    intro j acc hm hj _
    rw [List.drop_of_length_le (by omega), List.map_nil, List.append_nil]
    exact Ev.here (f := fun _ => some (acc, true)) (fun k => by simp only [impl_SnapActs.l1]; rw [if_neg (by omega)]) (fun _ => rfl)
  | succ m ih =>
    intro j acc hm hj ha
    have hjl : j < d.length := by omega
    have hmem := List.getElem_mem hjl
    refine Ev.step (fun k => by simp only [impl_SnapActs.l1]; rw [if_pos (show (j : Int) < (d.length : Int) by omega), if_pos (show (0 : Int) ≤ (j : Int) by omega)]) ?_
    simp only [if_pos (show (j : Int) < (d.length : Int) by omega), rdF_at hjl]
    have hs1 : Ev (fun k => impl_isSnap.f k d[j].f0 d[j].f1 d[j].f2) true := by
      obtain ⟨i, t, c, b, hi, _, e⟩ := hs _ hmem
      rw [e]
      exact isSnap (by omega) _ _
    refine Ev.bind hs1 ?_
    simp only [if_true, toList_iff, if_neg (hn _ hmem), if_pos (show acc.length < 2513169434916 by omega), w64 (x := (j : Int) + 1) (by omega) (by omega)]
    have := ih (j + 1) (acc ++ [dropA d[j]]) (by omega) (by omega) (by rw [List.length_append, List.length_singleton]; omega)
    rw [List.append_assoc] at this
    rw [List.drop_eq_getElem_cons hjl, List.map_cons]
    exact this
theorem chunk_loop {d : List Fl} {i : Nat} {t : Int} {c : List Int} {b : ByteArray} (hi : i < 18) (hd : d.length ≤ 1000) (hs : ∀ f ∈ d, SnapFile f) (hn : ∀ f ∈ d, f.f0 ≠ nm i) : ∀ (m : Nat) (s : ByteArray) (acc : List Ac), s.size ≤ m → acc.length + m ≤ 90000 →
    Ev (fun k => impl_SnapActs.l0 k s acc d (i : Int) t c b) (acc ++ chunks m s ++ lastA (nm i) ++ d.map dropA, true) := by
  have last : ∀ (s : ByteArray) (acc : List Ac), s.size = 0 → acc.length ≤ 90000 → Ev (fun k => impl_SnapActs.l0 k s acc d (i : Int) t c b) (acc ++ lastA (nm i) ++ d.map dropA, true) := by
    intro s acc h0 hl
    refine Ev.step (fun k => by simp only [impl_SnapActs.l0, if_pos (size0.2 h0), snapName hi, Option.bind_some]; rfl) ?_
    simp only [List.length_cons, List.length_nil, if_pos (show acc.length + (0 + 1 + 1) < 2513169434916 by omega)]
    exact drops_loop hd hs hn d.length 0 _ (by omega) (by omega) (by simp only [List.length_append, List.length_cons, List.length_nil]; omega)
  intro m
  induction m with
  | zero =>
    intro s acc hm hl
    have := last s acc (by omega) (by omega)
    simp only [chunks, List.append_nil]
    exact this
  | succ m ih =>
    intro s acc hm hl
    unfold chunks
    by_cases h0 : s.size = 0
    · rw [if_pos h0, List.append_nil]
      exact last s acc h0 (by omega)
    · rw [if_neg h0]
      have hc : 1 ≤ cut60 s ∧ cut60 s ≤ s.size := by unfold cut60; omega
      refine Ev.step (fun k => by simp only [impl_SnapActs.l0, if_neg (fun e => h0 (size0.1 e)), mn60]; rfl) ?_
      simp only [if_pos (show (0 : Int) ≤ ((cut60 s : Nat) : Int) by omega), if_pos (show ((cut60 s : Nat) : Int) ≤ (s.size : Int) by omega), if_pos (show acc.length < 2513169434916 by omega), Int.toNat_natCast]
      have := ih (s.extract (cut60 s) s.size) (acc ++ [(⟨1, sp, s.extract 0 (cut60 s), mt⟩ : Ac)]) (by rw [ByteArray.size_extract]; omega) (by rw [List.length_append, List.length_singleton]; omega)
      simp only [List.append_assoc, List.cons_append, List.nil_append] at this ⊢
      exact this
def theActs (d : List Fl) (i : Nat) (s : ByteArray) : List Ac := chunks 3000 s ++ lastA (nm i) ++ d.map dropA
theorem drawn_ne {d : List Fl} {i : Nat} (hs : ∀ f ∈ d, SnapFile f) (h9 : 9 ≤ i) (h : i < 18) : ∀ f ∈ d, f.f0 ≠ nm i := by
  intro f hf e
  obtain ⟨j, t, c, b, hj, _, rfl⟩ := hs f hf
  have := nm_inj (show j < 18 by omega) h e
  omega
theorem drawn_sp {d : List Fl} (hs : ∀ f ∈ d, SnapFile f) : ∀ f ∈ d, lt sp f.f0 = true := by
  intro f hf
  obtain ⟨j, t, c, b, hj, _, rfl⟩ := hs f hf
  exact sp_lt (by omega)
theorem drawn_nosp {d : List Fl} (hs : ∀ f ∈ d, SnapFile f) : ∀ f ∈ d, f.f0 ≠ sp := fun f hf e => lt_ne (drawn_sp hs f hf) e.symm
theorem snapActs {d : List Fl} {i : Nat} {t : Int} {c : List Int} {b : ByteArray} (hd : Drawn d) (hl : d.length ≤ 2) (h9 : 9 ≤ i) (h : i < 18) (hg : GoodSnap i t c b) :
    Ev (fun k => impl_SnapActs.f k d (i : Int) t c b) (theActs d i (snapT i t c b), true) := by
  have hz := snapT_size hg
  unfold impl_SnapActs.f
  refine Ev.bind (impl_snaptext hg) ?_
  refine Ev.bind (impl_disk hd.g) ?_
  simp only [if_true, Bool.not_true]
  refine Ev.step (fun k => by simp only [impl_SnapActs.j0, Bool.false_eq_true, if_false, Option.bind_some]; rfl) ?_
  refine Ev.bind (hasFile_no (by omega) (drawn_nosp hd.s)) ?_
  simp only [Bool.false_eq_true, if_false]
  refine Ev.step (fun k => by simp only [impl_SnapActs.j1]; rfl) ?_
  have := chunk_loop (t := t) (c := c) (b := b) h (show d.length ≤ 1000 by omega) hd.s (drawn_ne hd.s h9 h) 3000 (snapT i t c b) [] (by omega) (by simp)
  rw [List.nil_append] at this
  exact this
theorem snapActs_len {d : List Fl} {i : Nat} {t : Int} {c : List Int} {b : ByteArray} (hl : d.length ≤ 2) (hg : GoodSnap i t c b) : (theActs d i (snapT i t c b)).length ≤ 1000000 := by
  have := chunks_len 3000 (snapT i t c b)
  unfold theActs lastA
  simp only [List.length_append, List.length_map, List.length_cons, List.length_nil]
  omega
theorem front_put {d : List Fl} {p t : ByteArray} {v u : Int} (h : ∀ f ∈ d, lt sp f.f0 = true) : put ((⟨sp, p, u⟩ : Fl) :: d) sp t v = (⟨sp, t, v⟩ : Fl) :: d := by
  unfold put
  rw [List.filter_cons_of_neg (by show ¬ lt sp sp = true; rw [lt_irrefl]; simp), List.filter_cons_of_neg (by show ¬ lt sp sp = true; rw [lt_irrefl]; simp)]
  rw [List.filter_eq_self.2 h, List.filter_eq_nil_iff.2 (fun f hf e => by have := lt_trans (h f hf) e; rw [lt_irrefl] at this; cases this)]
  rfl
theorem new_put {d : List Fl} {t : ByteArray} {v : Int} (h : ∀ f ∈ d, lt sp f.f0 = true) : put d sp t v = (⟨sp, t, v⟩ : Fl) :: d := by
  unfold put
  rw [List.filter_eq_self.2 h, List.filter_eq_nil_iff.2 (fun f hf e => by have := lt_trans (h f hf) e; rw [lt_irrefl] at this; cases this)]
  rfl
theorem good_front {d : List Fl} {t : ByteArray} {v : Int} (hd : GoodDisk d) (hl : d.length ≤ 29) (h : ∀ f ∈ d, lt sp f.f0 = true) (ht : t.size ≤ 20000) (hv : 0 ≤ v ∧ v ≤ (t.size : Int)) : GoodDisk ((⟨sp, t, v⟩ : Fl) :: d) :=
  ⟨by simp only [List.length_cons]; omega, fun f hf => by
    rcases List.mem_cons.1 hf with rfl | hf
    · exact ⟨⟨by show 1 ≤ 2; omega, by show 2 ≤ 8; omega⟩, ht, hv⟩
    · exact hd.hf f hf, List.pairwise_cons.2 ⟨h, hd.hp⟩⟩
theorem runs_chunks {d : List Fl} (hd : GoodDisk d) (hl : d.length ≤ 29) (h : ∀ f ∈ d, lt sp f.f0 = true) : ∀ (m : Nat) (s p : ByteArray), s.size ≤ m → p.size + s.size ≤ 20000 → Runs ((⟨sp, p, 0⟩ : Fl) :: d) (chunks m s) ((⟨sp, p ++ s, 0⟩ : Fl) :: d) := by
  have e0 : ∀ (s p : ByteArray), s.size = 0 → p ++ s = p := by
    intro s p hs
    have : s = mt := bl_inj (by rw [show bytesOf mt = [] from rfl]; exact List.length_eq_zero_iff.1 (by rw [bytesOf_length]; exact hs))
    rw [this]
    exact app_empty p
  intro m
  induction m with
  | zero =>
    intro s p hs _
    rw [e0 s p (by omega)]
    exact .nil _
  | succ m ih =>
    intro s p hs hz
    unfold chunks
    by_cases h0 : s.size = 0
    · rw [if_pos h0, e0 s p h0]
      exact .nil _
    · rw [if_neg h0]
      have hc : 1 ≤ cut60 s ∧ cut60 s ≤ s.size := by unfold cut60; omega
      have z1 : (s.extract 0 (cut60 s)).size = cut60 s := by rw [ByteArray.size_extract]; omega
      have z2 : (s.extract (cut60 s) s.size).size = s.size - cut60 s := by rw [ByteArray.size_extract]; omega
      have hg0 : GoodDisk ((⟨sp, p, 0⟩ : Fl) :: d) := good_front hd hl h (by omega) ⟨by omega, by omega⟩
      have ep := front_put (p := p) (u := 0) (t := p ++ s.extract 0 (cut60 s)) (v := 0) h
      have hg1 : GoodDisk ((⟨sp, p ++ s.extract 0 (cut60 s), 0⟩ : Fl) :: d) := good_front hd hl h (by rw [ByteArray.size_append]; omega) ⟨by omega, by omega⟩
      have ha := act_add (n := sp) (t := s.extract 0 (cut60 s)) hg0 (f := (⟨sp, p, 0⟩ : Fl)) (List.mem_cons_self) rfl (by show GoodDisk (put _ sp (p ++ s.extract 0 (cut60 s)) 0); rw [ep]; exact hg1) (by omega)
      have ha' : Ev (fun k => spec_DoAct.f k ((⟨sp, p, 0⟩ : Fl) :: d) 1 sp (s.extract 0 (cut60 s)) mt) ((⟨sp, p ++ s.extract 0 (cut60 s), 0⟩ : Fl) :: d, true) := by
        have e1 : put ((⟨sp, p, 0⟩ : Fl) :: d) sp ((⟨sp, p, 0⟩ : Fl).f1 ++ s.extract 0 (cut60 s)) (⟨sp, p, 0⟩ : Fl).f2 = (⟨sp, p ++ s.extract 0 (cut60 s), 0⟩ : Fl) :: d := ep
        rw [e1] at ha
        exact ha
      have hr := ih (s.extract (cut60 s) s.size) (p ++ s.extract 0 (cut60 s)) (by omega) (by rw [ByteArray.size_append]; omega)
      rw [ByteArray.append_assoc, split_at s (cut60 s) hc.2] at hr
      exact .cons ha' hr
theorem runs_new {d : List Fl} (hd : GoodDisk d) (hl : d.length ≤ 29) (h : ∀ f ∈ d, lt sp f.f0 = true) (m : Nat) (s : ByteArray) (hs : s.size ≤ m + 1) (h1 : 0 < s.size) (hz : s.size ≤ 20000) : Runs d (chunks (m + 1) s) ((⟨sp, s, 0⟩ : Fl) :: d) := by
  have hc : 1 ≤ cut60 s ∧ cut60 s ≤ s.size := by unfold cut60; omega
  have z1 : (s.extract 0 (cut60 s)).size = cut60 s := by rw [ByteArray.size_extract]; omega
  have z2 : (s.extract (cut60 s) s.size).size = s.size - cut60 s := by rw [ByteArray.size_extract]; omega
  have ep := new_put (t := s.extract 0 (cut60 s)) (v := 0) h
  have ha := act_new (n := sp) (t := s.extract 0 (cut60 s)) hd ⟨by decide, by decide⟩ (fun f hf e => lt_ne (h f hf) e.symm) (by rw [ep]; exact good_front hd hl h (by omega) ⟨by omega, by omega⟩) (by omega)
  rw [ep] at ha
  have hr := runs_chunks hd hl h m (s.extract (cut60 s) s.size) (s.extract 0 (cut60 s)) (by omega) (by omega)
  rw [split_at s (cut60 s) hc.2] at hr
  unfold chunks
  rw [if_neg (by omega)]
  exact .cons ha hr
theorem wout_front {d : List Fl} {p : ByteArray} {u : Int} (h : ∀ f ∈ d, lt sp f.f0 = true) : wout ((⟨sp, p, u⟩ : Fl) :: d) sp = d := by
  unfold wout
  rw [List.filter_cons_of_neg (by simp), List.filter_eq_self.2 (fun f hf => by
    have := lt_ne (h f hf)
    simp only [Bool.not_eq_true', decide_eq_false_iff_not]
    exact fun e => this e.symm)]
theorem runs_last {d : List Fl} (hd : GoodDisk d) (hl : d.length ≤ 28) (h : ∀ f ∈ d, lt sp f.f0 = true) {n t : ByteArray} (hn : 1 ≤ n.size ∧ n.size ≤ 8) (hne : n ≠ sp) (ht : t.size ≤ 20000) : Runs ((⟨sp, t, 0⟩ : Fl) :: d) (lastA n) (put d n t (t.size : Int)) := by
  have hg0 : GoodDisk ((⟨sp, t, 0⟩ : Fl) :: d) := good_front hd (by omega) h ht ⟨by omega, by omega⟩
  have ep := front_put (p := t) (u := 0) (t := t) (v := (t.size : Int)) h
  have hg1 : GoodDisk ((⟨sp, t, (t.size : Int)⟩ : Fl) :: d) := good_front hd (by omega) h ht ⟨by omega, by omega⟩
  have ha := act_keep (n := sp) hg0 (f := (⟨sp, t, 0⟩ : Fl)) (List.mem_cons_self) rfl (by show GoodDisk (put _ sp t (t.size : Int)); rw [ep]; exact hg1)
  have e1 : put ((⟨sp, t, 0⟩ : Fl) :: d) sp (⟨sp, t, 0⟩ : Fl).f1 (((⟨sp, t, 0⟩ : Fl).f1.size : Nat) : Int) = (⟨sp, t, (t.size : Int)⟩ : Fl) :: d := ep
  rw [e1] at ha
  have ew := wout_front (p := t) (u := (t.size : Int)) h
  have hg2 : GoodDisk (put d n t (t.size : Int)) := good_put hd ⟨hn, ht, by show (0 : Int) ≤ (t.size : Int); omega, by show (t.size : Int) ≤ (t.size : Int); omega⟩ (by have := put_len d n t (t.size : Int); omega)
  have hm := act_move (n := sp) (u := n) hg1 (f := (⟨sp, t, (t.size : Int)⟩ : Fl)) (List.mem_cons_self) rfl rfl hn hne (by rw [ew]; exact hg2)
  rw [ew] at hm
  exact .cons ha (.cons hm (.nil _))
theorem wout_put {d : List Fl} {n m t : ByteArray} {v : Int} (h : n ≠ m) : wout (put d n t v) m = put (wout d m) n t v := by
  unfold wout put
  rw [List.filter_append, List.filter_cons_of_pos (by simp [h])]
  simp only [List.filter_filter, Bool.and_comm]
theorem mem_put {d : List Fl} {f : Fl} {n t : ByteArray} {v : Int} (hm : f ∈ d) (h : lt f.f0 n = true ∨ lt n f.f0 = true) : f ∈ put d n t v := by
  unfold put
  rcases h with h | h
  · exact List.mem_append.2 (.inl (List.mem_filter.2 ⟨hm, h⟩))
  · exact List.mem_append.2 (.inr (List.mem_cons_of_mem _ (List.mem_filter.2 ⟨hm, h⟩)))
theorem runs_drops {n t : ByteArray} {v : Int} (hf : GoodFile (⟨n, t, v⟩ : Fl)) : ∀ (d : List Fl), GoodDisk d → d.length ≤ 28 → (∀ f ∈ d, lt f.f0 n = true ∨ lt n f.f0 = true) → Runs (put d n t v) (d.map dropA) (put [] n t v) := by
  intro d
  induction d with
  | nil => intro _ _ _; exact .nil _
  | cons f d ih =>
    intro hd hl h
    have ht := good_tail hd
    have hp := (List.pairwise_cons.1 hd.hp).1
    have hne : n ≠ f.f0 := by
      rcases h f (List.mem_cons_self) with h1 | h1
      · exact (lt_ne h1).symm
      · exact lt_ne h1
    have hg := good_put hd hf (by have := put_len (f :: d) n t v; omega)
    have ha := act_drop hg (mem_put (t := t) (v := v) (List.mem_cons_self) (h f (List.mem_cons_self))) rfl
    have e1 : wout (f :: d) f.f0 = d := by
      unfold wout
      rw [List.filter_cons_of_neg (by simp), List.filter_eq_self.2 (fun x hx => by
        have := lt_ne (hp x hx)
        simp only [Bool.not_eq_true', decide_eq_false_iff_not]
        exact fun e => this e.symm)]
    rw [wout_put hne, e1] at ha
    simp only [List.length_cons] at hl
    exact .cons ha (ih ht (by omega) (fun x hx => h x (List.mem_cons_of_mem _ hx)))
theorem nm_tot {i j : Nat} (hi : i < 18) (hj : j < 18) (h : i ≠ j) : lt (nm i) (nm j) = true ∨ lt (nm j) (nm i) = true := by
  rw [nm_lt, nm_lt]
  have h2 : ∀ i : Nat, i < 18 → ∀ j : Nat, j < 18 → i ≠ j → Op.bytesLess (115 :: dg i) (115 :: dg j) = true ∨ Op.bytesLess (115 :: dg j) (115 :: dg i) = true := by decide
  exact h2 i hi j hj h
theorem snapRuns {d : List Fl} {i : Nat} {t : Int} {c : List Int} {b : ByteArray} (hd : Drawn d) (hl : d.length ≤ 2) (h9 : 9 ≤ i) (h : i < 18) (hg : GoodSnap i t c b) :
    Runs d (theActs d i (snapT i t c b)) [(⟨nm i, snapT i t c b, ((snapT i t c b).size : Int)⟩ : Fl)] := by
  have hz := snapT_size hg
  have hs := drawn_sp hd.s
  have hn := nm_size i
  unfold theActs
  refine Runs.app (Runs.app (runs_new hd.g (by omega) hs 2999 _ (by omega) (by omega) (by omega)) (runs_last hd.g (by omega) hs (n := nm i) ⟨by omega, by omega⟩ (fun e => by have := sp_lt h; rw [e, lt_irrefl] at this; cases this) (by omega))) ?_
  refine runs_drops ⟨⟨by show 1 ≤ (nm i).size; omega, by show (nm i).size ≤ 8; omega⟩, by show (snapT i t c b).size ≤ 20000; omega, by show (0 : Int) ≤ ((snapT i t c b).size : Int); omega, by show ((snapT i t c b).size : Int) ≤ ((snapT i t c b).size : Int); omega⟩ d hd.g (by omega) fun f hf => ?_
  obtain ⟨j, _, _, _, hj, _, rfl⟩ := hd.s f hf
  exact nm_tot (by omega) h (by omega)
def oneD (i : Nat) (s : ByteArray) : List Fl := [(⟨nm i, s, (s.size : Int)⟩ : Fl)]
theorem oneD_good {i : Nat} {s : ByteArray} (hs : s.size ≤ 20000) : GoodDisk (oneD i s) := by
  have hn := nm_size i
  exact ⟨by show 1 ≤ 30; omega, fun f hf => by
    rw [oneD, List.mem_singleton] at hf
    subst hf
    exact ⟨⟨by show 1 ≤ (nm i).size; omega, by show (nm i).size ≤ 8; omega⟩, hs, by show (0 : Int) ≤ (s.size : Int); omega, by show (s.size : Int) ≤ (s.size : Int); omega⟩, List.pairwise_singleton _ _⟩
theorem newest_one {i : Nat} {t : Int} {c : List Int} {b : ByteArray} (h : i < 18) (hg : GoodSnap i t c b) : Ev (fun k => impl_NewestSnap.f k (oneD i (snapT i t c b))) ((i : Int), t, c, b, true) := by
  have hz := snapT_size hg
  have w1 : wrap64 ((0 : Int) + 1) = 1 := w64 (by omega) (by omega)
  unfold impl_NewestSnap.f
  refine Ev.bind (impl_disk (oneD_good (by omega))) ?_
  simp only [if_true]
  have e0 : rd_T57 (oneD i (snapT i t c b)) 0 = (⟨nm i, snapT i t c b, ((snapT i t c b).size : Int)⟩ : Fl) := rfl
  have el : ((oneD i (snapT i t c b)).length : Int) = 1 := rfl
  rw [el]
  refine Ev.step (fun k => by simp only [impl_NewestSnap.l0]; rw [if_pos (by omega), if_pos (by omega), el, if_pos (by omega), e0]) ?_
  refine Ev.bind (numberOf h) ?_
  refine Ev.bind (snap_back hg) ?_
  simp only [if_pos (show (i : Int) ≥ 0 by omega), if_true, decide_eq_true (show (i : Int) > -1 by omega)]
  refine Ev.step (fun k => by simp only [impl_NewestSnap.j1, if_true, w1]; rfl) ?_
  exact Ev.here (f := fun _ => some ((i : Int), t, c, b, true)) (fun k => by simp only [impl_NewestSnap.l0]; rw [if_neg (by omega), if_neg (by omega)]) (fun _ => rfl)
theorem shed_one {i : Nat} {t : Int} {c : List Int} {b : ByteArray} (h : i < 18) (hg : GoodSnap i t c b) : Ev (fun k => impl_ShedActs.f k (oneD i (snapT i t c b))) ([] : List Ac) := by
  have w1 : wrap64 ((0 : Int) + 1) = 1 := w64 (by omega) (by omega)
  unfold impl_ShedActs.f
  simp only [Option.bind_some]
  refine Ev.bind (newest_one h hg) ?_
  simp only [if_true]
  have e0 : rd_T57 (oneD i (snapT i t c b)) 0 = (⟨nm i, snapT i t c b, ((snapT i t c b).size : Int)⟩ : Fl) := rfl
  have el : ((oneD i (snapT i t c b)).length : Int) = 1 := rfl
  have hne : ¬ (nm i).toList = ([115, 43] : List UInt8) := fun e => by
    have h1 : (nm i).toList = sp.toList := by rw [e, toL]; rfl
    have h2 := toList_iff.1 h1
    have := sp_lt h
    rw [h2, lt_irrefl] at this
    cases this
  rw [el]
  refine Ev.step (fun k => by simp only [impl_ShedActs.l0]; rw [if_pos (by omega), if_pos (by omega), el, if_pos (by omega), e0]) ?_
  simp only [if_neg hne]
  refine Ev.bind (isSnap h _ _) ?_
  simp only [if_true, snapName h, Option.bind_some, bne_self_eq_false]
  refine Ev.step (fun k => by simp only [impl_ShedActs.j1, Bool.false_eq_true, if_false, w1]; rfl) ?_
  exact Ev.here (f := fun _ => some []) (fun k => by simp only [impl_ShedActs.l0]; rw [if_neg (by omega)]) (fun _ => rfl)

/-! ### FnSnaps -/
theorem sameInts_ev (c : List Int) (hc : c.length ≤ 1000) : Ev (fun k => laws_sameInts.f k c c) true := by
  unfold laws_sameInts.f
  simp only [if_true]
  have : ∀ (m j : Nat), c.length - j = m → j ≤ c.length → Ev (fun k => laws_sameInts.l0 k c c (j : Int)) true := by
    intro m
    induction m with
    | zero =>
      intro j hm hj
      exact Ev.here (f := fun _ => some true) (fun k => by simp only [laws_sameInts.l0]; rw [if_neg (by omega)]) (fun _ => rfl)
    | succ m ih =>
      intro j hm hj
      refine Ev.step (fun k => by simp only [laws_sameInts.l0]; rw [if_pos (show (j : Int) < (c.length : Int) by omega), if_pos (show (0 : Int) ≤ (j : Int) by omega)]) ?_
      simp only [if_pos (show (j : Int) < (c.length : Int) by omega), if_true, w64 (x := (j : Int) + 1) (by omega) (by omega)]
      exact ih (j + 1) (by omega) (by omega)
  exact this c.length 0 (by omega) (by omega)
theorem FnSnaps : StFnSnaps.Pure := by
  intro b
  intros
  refine Ev.ex ?_
  unfold laws_FnSnaps.f
  rw [big_eq]
  simp only [Option.bind_some]
  by_cases hb : (b.length : Int) > 1048576
  · simp only [decide_eq_true hb, if_true]
    exact Ev.now _
  · simp only [decide_eq_false hb, Bool.false_eq_true, if_false]
    obtain ⟨⟨d, i, t, c, s⟩, e0, hd, hl, hn⟩ := tDrawS (b := b) (by omega)
    obtain ⟨j, rfl, h9, h18⟩ := hn.n
    have hg := hn.g
    have hcl := conf_len hg.hc
    refine Ev.bind e0 ?_
    refine Ev.bind (impl_snaptext hg) ?_
    refine Ev.bind (snap_back hg) ?_
    simp only [if_true]
    refine Ev.bind (sameInts_ev c (by have : c.length ≤ 4 := hcl.2; omega)) ?_
    simp only [Bool.not_true]
    refine Ev.step (fun k => by simp only [laws_FnSnaps.j0, Bool.false_eq_true, if_false]; rfl) ?_
    refine Ev.bind (snapActs hd hl h9 h18 hg) ?_
    refine Ev.bind (runs_ev (snapRuns hd hl h9 h18 hg) hd.g.hl (snapActs_len hl hg)) ?_
    refine Ev.bind (newest_one h18 hg) ?_
    simp only [if_true]
    refine Ev.bind (shed_one h18 hg) ?_
    simp only [List.length_nil, Int.natCast_zero, if_true, snapName h18, Option.bind_some]
    refine Ev.from_ 0 fun k _ => ?_
    have : (nm j).toList ≠ [] := by rw [toL, nm_data]; simp
    simp [this]

end Go.Proofs.YtfikaimmclgajaaGreatDoor.Pure
