/- Functions that a law reaches, as functions of Lean, and the walks that show that the calls come to their answers: by hand. No condition. -/
import Derived.Test.YtmknnoeggkgkgaaQFnBitsx0
import Derived.Test.YtmknnoeggkgkgaaQFnBitsx1
import Derived.Test.YtmknnoeggkgkgaaQFnBitsx2
import Derived.Test.YtmknnoeggkgkgaaQFnBitsx3
import Derived.Test.YtmknnoeggkgkgaaQFnBitsx4
import Derived.Test.YtmknnoeggkgkgaaQFnBitsx5
import Derived.Test.YtmknnoeggkgkgaaQFnBitsx6
import Derived.Test.YtmknnoeggkgkgaaSq
import Derived.Test.YtmknnoeggkgkgaaSq2
import Derived.Test.YtmknnoeggkgkgaaVFnBitsShort2
import Derived.Test.YtmknnoeggkgkgaaVFnBitshort4
import Derived.Test.YtmknnoeggkgkgaaVFnBitshort3
import Derived.Test.YtmknnoeggkgkgaaVFnBitsShort
import Derived.Test.YtmknnoeggkgkgaaVFnBitshort5
namespace Go.Proofs.Ytmknnoeggkgkgaa.QFnBits
open Go.RowKit Go.Proofs.YtmknnoeggkgkgaaW.PrintWords Go.Proofs.YtmknnoeggkgkgaaW.PrintLast Go.Proofs.YtmknnoeggkgkgaaW.PrintMore Go.Proofs.Ytmknnoeggkgkgaa.Short Go.Proofs.Ytmknnoeggkgkgaa.Sq
set_option linter.unusedVariables false
set_option linter.unusedSimpArgs false

attribute [local go_sem] max2_int min2_int max_two min_two max_three min_three max_four min_four   -- for this text's walks alone
theorem BJ7x2_ {p : Prop} (h : p := by first | (rw [add_block]; exact (fun e_ => ((HL301_3.out.1 _ e_.symm).2) rfl)) | (show some (Addr.add _ _).block ≠ _; rw [add_block]; exact (fun e_ => ((HL301_3.out.1 _ e_.symm).2) rfl)) | exact (fun e_ => ((HL301_3.out.1 _ e_.symm).2) rfl)) : p := h
theorem BJ7x3_ {p : Prop} (h : p := by first | (rw [add_block]; exact (fun e_ => ((HL306_2.out.1 _ e_.symm).2) rfl)) | (show some (Addr.add _ _).block ≠ _; rw [add_block]; exact (fun e_ => ((HL306_2.out.1 _ e_.symm).2) rfl)) | exact (fun e_ => ((HL306_2.out.1 _ e_.symm).2) rfl)) : p := h
theorem BJ7x5_ {p : Prop} (h : p := by rw [hw]; exact (by (with_reducible repeat (first | apply Kd.S_alloc | apply Kd.S_drewN | apply Kd.S_drew)); exact Kd.S_mono (Kd.S_far (p := ⟨gb275, 5, none⟩) (Kd.S_far (p := ⟨gb275, 4, none⟩) (Kd.S_far (p := ⟨gb275, 3, none⟩) (Kd.S_far (p := ⟨gb275, 2, none⟩) (Kd.S_far (p := ⟨gb275, 1, none⟩) (Kd.S_far (p := ⟨gb275, 0, none⟩) (Kd.S_types HO_9.out BK275.out (by decide)) (fun _ hk => hk.2) (.int .i64 0)) (fun _ hk => hk.2) (.int .i64 0)) (fun _ hk => hk.2) (.int .i64 0)) (fun _ hk => hk.2) (.int .i64 0)) (fun _ hk => hk.2) (.bool false)) (fun _ hk => hk.2) (.string (⟨#[]⟩ : ByteArray))) (fun _ hk => trivial))) : p := h
theorem B7q5_ {p : Prop} (h : p := by rw [hw]; exact (by (with_reducible repeat (first | apply KQ.S_alloc | apply KQ.S_drewN | apply KQ.S_drew)); exact KQ.S_mono (KQ.S_far (p := ⟨gb275, 5, none⟩) (KQ.S_far (p := ⟨gb275, 4, none⟩) (KQ.S_far (p := ⟨gb275, 3, none⟩) (KQ.S_far (p := ⟨gb275, 2, none⟩) (KQ.S_far (p := ⟨gb275, 1, none⟩) (KQ.S_far (p := ⟨gb275, 0, none⟩) (KQ.S_types HO_9.out BK275.out (by decide)) (fun _ hk => hk.2) (.int .i64 0)) (fun _ hk => hk.2) (.int .i64 0)) (fun _ hk => hk.2) (.int .i64 0)) (fun _ hk => hk.2) (.int .i64 0)) (fun _ hk => hk.2) (.bool false)) (fun _ hk => hk.2) (.string (⟨#[]⟩ : ByteArray))) (fun _ hk => trivial))) : p := h
theorem BJ7x7_ {p : Prop} (h : p := by first | (rw [add_block]; exact Kd.S_lt HO_9.out _ rfl) | (show (Addr.add _ _).block < _; rw [add_block]; exact Kd.S_lt HO_9.out _ rfl) | exact Kd.S_lt HO_9.out _ rfl) : p := h
theorem B7q7_ {p : Prop} (h : p := by first | (rw [add_block]; exact KQ.S_lt HO_9.out _ rfl) | (show (Addr.add _ _).block < _; rw [add_block]; exact KQ.S_lt HO_9.out _ rfl) | exact KQ.S_lt HO_9.out _ rfl) : p := h
theorem BJ7x24_ {p : Prop} (h : p := by first | rfl | (simp [errW_none, errW_some] <;> rfl) | (simp [*, errW_none, errW_some] <;> rfl)) : p := h
theorem BJ7x26_ {p : Prop} (h : p := by (with_reducible repeat (first | apply Kd.S_alloc | apply Kd.S_drewN | apply Kd.S_drew)); exact Kd.S_mono HO_9.out (fun k_ hk => ⟨trivial, fun e_ => e_⟩)) : p := h
theorem B7q26_ {p : Prop} (h : p := by (with_reducible repeat (first | apply KQ.S_alloc | apply KQ.S_drewN | apply KQ.S_drew)); exact KQ.S_mono HO_9.out (fun k_ hk => ⟨trivial, fun e_ => e_⟩)) : p := h
theorem BJ7x37_ {p : Prop} (h : p := by first | exact q285 | exact dga | (have e_ := (Kd.S_reads' HO_9.out).1; omega)) : p := h
theorem B7q37_ {p : Prop} (h : p := by first | exact q285 | exact dga | (have e_ := (KQ.S_reads' HO_9.out).1; omega)) : p := h
theorem BJ7x45_ {p : Prop} (h : p := by first | exact q287 | exact dga | (have e_ := (Kd.S_reads' HO_9.out).1; omega)) : p := h
theorem B7q45_ {p : Prop} (h : p := by first | exact q287 | exact dga | (have e_ := (KQ.S_reads' HO_9.out).1; omega)) : p := h
theorem BJ7x46_ {p : Prop} (h : p := by first | exact q313 | exact dga | (have e_ := (Kd.S_reads' HO_9.out).1; omega)) : p := h
theorem B7q46_ {p : Prop} (h : p := by first | exact q313 | exact dga | (have e_ := (KQ.S_reads' HO_9.out).1; omega)) : p := h
theorem BJ7x47_ {p : Prop} (h : p := by first | exact q327 | exact dga | (have e_ := (Kd.S_reads' HO_9.out).1; omega)) : p := h
theorem B7q47_ {p : Prop} (h : p := by first | exact q327 | exact dga | (have e_ := (KQ.S_reads' HO_9.out).1; omega)) : p := h
theorem BJ7x48_ {p : Prop} (h : p := by have := HJ4.out; have := HJ21.out; have := HJ36.out; first | omega | exact Nat.le_refl _) : p := h
theorem BJ7x49_ {p : Prop} (h : p := by have := HJ4.out; have := HJ21.out; first | omega | exact Nat.le_refl _) : p := h
theorem BJ7x50_ {p : Prop} (h : p := by have := (Kd.S_reads' ho).1; omega) : p := h
theorem B7q50_ {p : Prop} (h : p := by have := (KQ.S_reads' ho).1; omega) : p := h
theorem BJ7x51_ {p : Prop} (h : p := by rw [hw]; exact (te2 HB.out GE274.out GE275.out)) : p := h
theorem BJ7x52_ {p : Prop} (h : p := by rw [hw]; exact (tp0 BK275.out)) : p := h
theorem BJ7x53_ {p : Prop} (h : p := by have := HJ4.out; first | omega | exact Nat.le_refl _) : p := h
theorem BJ7x54_ {p : Prop} (h : p := by exact (below_size (te2 HB.out GE274.out GE275.out))) : p := h
theorem tsq {p q : Prop} (x : q) (h : q → p := by intro q_; (with_reducible repeat (first | apply KQ.S_alloc | apply KQ.S_drewN | apply KQ.S_drew)); exact q_) : p := h x
/-! ### impl_JoinBits: function 39 -/
mutual
def impl_JoinBits.j0 : Nat → Int → List (S82) → Bool → Int → Int → Int → Int → Bool → ByteArray → Option ((List (S82)) × Int × Int × Int × Int × Bool × ByteArray × Bool)
 | 0, _, _, _, _, _, _, _, _, _ => none
 | k + 1, x2, x9, x23, x275000, x275001, x275002, x275003, x275004, x275005 => if x23 = true then (some (x9, 0, 0, 0, 0, false, (⟨#[]⟩ : ByteArray), false)) else (if x275003 = 0 then (impl_JoinBits.j1 k x2 x9 (!x275004) x275000 x275001 x275002 x275003 x275004 x275005) else (impl_JoinBits.j1 k x2 x9 false x275000 x275001 x275002 x275003 x275004 x275005))
def impl_JoinBits.j1 : Nat → Int → List (S82) → Bool → Int → Int → Int → Int → Bool → ByteArray → Option ((List (S82)) × Int × Int × Int × Int × Bool × ByteArray × Bool)
 | 0, _, _, _, _, _, _, _, _, _ => none
 | k + 1, x2, x9, x33, x275000, x275001, x275002, x275003, x275004, x275005 => if x33 = true then (some (x9, x275000, x275001, x275002, x275003, x275004, x275005, true)) else ((impl_Bits_99.f k x9 x275000 x275001 x275002 x275003 x275004 x275005).bind fun t281 => (if t281 < 0 then (if x9.length < 1759218604441 then ((some (x9 ++ [(⟨x275000, x275002, ([] : List ByteArray), ([] : List Int), 0, wrap64 (x2 + 10)⟩ : S82)] : List (S82))).bind fun y282 => (impl_JoinBits.j2 k (y282.drop (mx 0 (wrap64 ((y282.length : Int) - 3))).toNat) (wrap64 (((y282.drop (mx 0 (wrap64 ((y282.length : Int) - 3))).toNat).length : Int) - 1)) x275000 x275001 x275002 x275003 x275004 x275005)) else (none)) else (impl_JoinBits.j2 k x9 t281 x275000 x275001 x275002 x275003 x275004 x275005)))
def impl_JoinBits.j2 : Nat → List (S82) → Int → Int → Int → Int → Int → Bool → ByteArray → Option ((List (S82)) × Int × Int × Int × Int × Bool × ByteArray × Bool)
 | 0, _, _, _, _, _, _, _, _ => none
 | k + 1, x9, x10, x275000, x275001, x275002, x275003, x275004, x275005 => if 0 ≤ x10 then (if x10 < (x9.length : Int) then ((slices_Contains_int_int.f k ((rd_T82 x9 x10).f3) x275003).bind fun t286 => (if t286 = true then ((impl_whole.f k ((rd_T82 x9 x10).f0) ((rd_T82 x9 x10).f1) ((rd_T82 x9 x10).f2) ((rd_T82 x9 x10).f3) ((rd_T82 x9 x10).f4) ((rd_T82 x9 x10).f5)).bind fun bt288 => (if bt288.2 = true then (if x10 ≤ (x9.length : Int) then (if 0 ≤ (wrap64 (x10 + 1)) then (if (wrap64 (x10 + 1)) ≤ (x9.length : Int) then (some ((x9.eraseIdx (x10 : Int).toNat), x275000, x275001, x275002, 0, false, bt288.1, true)) else (none)) else (none)) else (none)) else (some (x9, 0, 0, 0, 0, false, (⟨#[]⟩ : ByteArray), false)))) else (if ((rd_T82 x9 x10).f3).length < 17592186044416 then ((some (x9.set (x10 : Int).toNat (⟨(rd_T82 x9 x10).f0, (rd_T82 x9 x10).f1, (rd_T82 x9 x10).f2, (((rd_T82 x9 x10).f3) ++ [x275003]), (rd_T82 x9 x10).f4, (rd_T82 x9 x10).f5⟩ : S82) : List (S82))).bind fun y305 => (if ((rd_T82 y305 x10).f2).length < 8796093022208 then ((some (y305.set (x10 : Int).toNat (⟨(rd_T82 y305 x10).f0, (rd_T82 y305 x10).f1, (((rd_T82 y305 x10).f2) ++ [x275005]), (rd_T82 y305 x10).f3, (rd_T82 y305 x10).f4, (rd_T82 y305 x10).f5⟩ : S82) : List (S82))).bind fun y310 => (if x275004 = true then (impl_JoinBits.j3 k y310 x10 false x275000 x275001 x275002 x275003 x275004 x275005) else (impl_JoinBits.j3 k y310 x10 (((rd_T82 y310 x10).f4) == 0) x275000 x275001 x275002 x275003 x275004 x275005))) else (none))) else (none)))) else (none)) else (none)
def impl_JoinBits.j3 : Nat → List (S82) → Int → Bool → Int → Int → Int → Int → Bool → ByteArray → Option ((List (S82)) × Int × Int × Int × Int × Bool × ByteArray × Bool)
 | 0, _, _, _, _, _, _, _, _, _ => none
 | k + 1, x9, x10, x102, x275000, x275001, x275002, x275003, x275004, x275005 => if x102 = true then (if 0 ≤ x10 then (if x10 < (x9.length : Int) then ((some (x9.set (x10 : Int).toNat (⟨(rd_T82 x9 x10).f0, (rd_T82 x9 x10).f1, (rd_T82 x9 x10).f2, (rd_T82 x9 x10).f3, wrap64 (x275003 + (x275005.size : Int)), (rd_T82 x9 x10).f5⟩ : S82) : List (S82))).bind fun y312 => ((impl_whole.f k ((rd_T82 y312 x10).f0) ((rd_T82 y312 x10).f1) ((rd_T82 y312 x10).f2) ((rd_T82 y312 x10).f3) ((rd_T82 y312 x10).f4) ((rd_T82 y312 x10).f5)).bind fun bt314 => (if bt314.2 = true then (if x10 ≤ (x9.length : Int) then (if 0 ≤ (wrap64 (x10 + 1)) then (if (wrap64 (x10 + 1)) ≤ (x9.length : Int) then (some ((y312.eraseIdx (x10 : Int).toNat), x275000, x275001, x275002, 0, false, bt314.1, true)) else (none)) else (none)) else (none)) else (some (y312, 0, 0, 0, 0, false, (⟨#[]⟩ : ByteArray), false))))) else (none)) else (none)) else (if 0 ≤ x10 then (if x10 < (x9.length : Int) then ((impl_whole.f k ((rd_T82 x9 x10).f0) ((rd_T82 x9 x10).f1) ((rd_T82 x9 x10).f2) ((rd_T82 x9 x10).f3) ((rd_T82 x9 x10).f4) ((rd_T82 x9 x10).f5)).bind fun bt328 => (if bt328.2 = true then (if x10 ≤ (x9.length : Int) then (if 0 ≤ (wrap64 (x10 + 1)) then (if (wrap64 (x10 + 1)) ≤ (x9.length : Int) then (some ((x9.eraseIdx (x10 : Int).toNat), x275000, x275001, x275002, 0, false, bt328.1, true)) else (none)) else (none)) else (none)) else (some (x9, 0, 0, 0, 0, false, (⟨#[]⟩ : ByteArray), false)))) else (none)) else (none))
end
def impl_JoinBits.f (k : Nat) (l0 : List (S82)) (a1_0 : Int) (a1_1 : Int) (a1_2 : Int) (a1_3 : Int) (a1_4 : Bool) (a1_5 : ByteArray) (a2 : Int) : Option ((List (S82)) × Int × Int × Int × Int × Bool × ByteArray × Bool) := (impl_copyBits.f k l0).bind fun t276 => ((impl_DgramOk.f a1_0 a1_1 a1_2 a1_3 a1_4 a1_5).bind fun t279 => (if t279 = true then ((impl_within.f a2 0 999999990).bind fun t280 => (impl_JoinBits.j0 k a2 t276 (!t280) a1_0 a1_1 a1_2 a1_3 a1_4 a1_5)) else (impl_JoinBits.j0 k a2 t276 true a1_0 a1_1 a1_2 a1_3 a1_4 a1_5)))
def impl_JoinBits.T12 : Bool × List (List Nat × List Nat) := (true, [([], []), ([0], [0]), ([1], [1]), ([2], [2]), ([], []), ([4], [4]), ([3, 5], [3, 5]), ([6], [6])])
def impl_JoinBits.B12 : List Nat := [0, 1, 3, 7, 0, 16, 63, 127]
theorem impl_JoinBits.tab12 : rtab .any (opsOf Try.f39 12) = impl_JoinBits.T12 := by kernel_rfl
theorem impl_JoinBits.bits12 : waitsOk impl_JoinBits.T12.2 impl_JoinBits.B12 = true := by kernel_rfl
def impl_JoinBits.T13 : Bool × List (List Nat × List Nat) := (true, [([], []), ([], []), ([1], [1]), ([2], [2]), ([3], [3]), ([], []), ([5], [5]), ([6], [6]), ([4, 7], [4, 7]), ([0, 0, 1, 2, 3, 4, 5, 6, 7, 8], [0]), ([9, 0, 1, 2, 3, 4, 5, 6, 7, 8], [9]), ([10, 8, 8, 0, 1, 2, 3, 4, 5, 6, 7, 8], [8, 10])])
def impl_JoinBits.B13 : List Nat := [0, 0, 2, 6, 14, 0, 32, 96, 254, 511, 1023, 2047]
theorem impl_JoinBits.tab13 : rtab .any (opsOf Try.f39 13) = impl_JoinBits.T13 := by kernel_rfl
theorem impl_JoinBits.bits13 : waitsOk impl_JoinBits.T13.2 impl_JoinBits.B13 = true := by kernel_rfl
def impl_JoinBits.T14 : Bool × List (List Nat × List Nat) := (true, [([], []), ([], []), ([1], [1]), ([2], [2]), ([3], [3]), ([], []), ([5], [5]), ([6], [6]), ([4, 7], [4, 7]), ([0, 0, 1, 2, 3, 4, 5, 6, 7, 8], [0]), ([9, 0, 1, 2, 3, 4, 5, 6, 7, 8], [9]), ([10, 8, 8, 0, 1, 2, 3, 4, 5, 6, 7, 8], [8, 10])])
def impl_JoinBits.B14 : List Nat := [0, 0, 2, 6, 14, 0, 32, 96, 254, 511, 1023, 2047]
theorem impl_JoinBits.tab14 : rtab .any (opsOf Try.f39 14) = impl_JoinBits.T14 := by kernel_rfl
theorem impl_JoinBits.bits14 : waitsOk impl_JoinBits.T14.2 impl_JoinBits.B14 = true := by kernel_rfl
def impl_JoinBits.T20 : Bool × List (List Nat × List Nat) := (true, [([], []), ([], []), ([0, 1], [0, 1]), ([], []), ([], []), ([4], [4]), ([3, 5], [3, 5]), ([2, 6], [2, 6]), ([], []), ([8], [8]), ([], []), ([10], [10]), ([], []), ([12], [12]), ([], []), ([9, 11, 13, 14], [9, 11, 13, 14]), ([7, 7, 0, 1, 2, 3, 4, 5, 6, 7], [7]), ([15, 16, 0, 1, 2, 3, 4, 5, 6, 7, 8, 9, 10, 11, 12, 13, 14, 15, 16], [15]), ([17, 0, 1, 2, 3, 4, 5, 6, 7, 8, 9, 10, 11, 12, 13, 14, 15, 16, 17], [])])
def impl_JoinBits.B20 : List Nat := [0, 0, 3, 0, 0, 16, 56, 127, 0, 256, 0, 1024, 0, 4096, 0, 32512, 255, 131071, 262143]
theorem impl_JoinBits.tab20 : rtab .any (opsOf Try.f39 20) = impl_JoinBits.T20 := by kernel_rfl
theorem impl_JoinBits.bits20 : waitsOk impl_JoinBits.T20.2 impl_JoinBits.B20 = true := by kernel_rfl
set_option maxHeartbeats 8000000 in
set_option maxRecDepth 100000 in
theorem impl_JoinBits.calls (k : Nat) (A0 : Option Addr) (c0 : Nat) (l0 : List (S82)) (a1_0 : Int) (a1_1 : Int) (a1_2 : Int) (a1_3 : Int) (a1_4 : Bool) (a1_5 : ByteArray) (a2 : Int) (r1 : List (S82)) (r2 : Int) (r3 : Int) (r4 : Int) (r5 : Int) (r6 : Bool) (r7 : ByteArray) (r8 : Bool) (w : World) (hr0 : Kd.C k82 w A0 l0.length l0) (hc0 : l0.length ≤ c0) (h : impl_JoinBits.f k l0 a1_0 a1_1 a1_2 a1_3 a1_4 a1_5 a2 = some (r1, r2, r3, r4, r5, r6, r7, r8)) :
  Calls Try.prog 39 #[.slice A0 l0.length c0, .agg #[.int .i64 a1_0, .int .i64 a1_1, .int .i64 a1_2, .int .i64 a1_3, .bool a1_4, .string a1_5], .int .i64 a2] w fun e w' => ∃ v0_ : Value, e = .returned (.tuple #[v0_, .agg #[.int .i64 r2, .int .i64 r3, .int .i64 r4, .int .i64 r5, .bool r6, .string r7], .bool r8]) ∧ SQ k82 82 w' w.heap.size (fun _ => True) v0_ r1 ∧ Below w.heap.size w w' := by
 have hu62 := Try.underlying62
 have hu82 := Try.underlying82
 have HR0 := am hr0
 have HC0 := am hc0
 clear hr0 hc0
 have HB := am (Below.refl w.heap.size w)
 have H : ((impl_copyBits.f k l0).bind fun t276 => ((impl_DgramOk.f a1_0 a1_1 a1_2 a1_3 a1_4 a1_5).bind fun t279 => (if t279 = true then ((impl_within.f a2 0 999999990).bind fun t280 => (impl_JoinBits.j0 k a2 t276 (!t280) a1_0 a1_1 a1_2 a1_3 a1_4 a1_5)) else (impl_JoinBits.j0 k a2 t276 true a1_0 a1_1 a1_2 a1_3 a1_4 a1_5)))) = some (r1, r2, r3, r4, r5, r6, r7, r8) := h
 clear h
 replace H := bsi H
 obtain ⟨t276, A4, H⟩ := H
 (try dsimp only at H)
 have HC5 := am H
 clear H
 go_enter Try.func39, Try.ntmps39
 go_upto_region 2 with (first | ((with_reducible refine gate_dst (N := 4) rfl ?_); refine bx (N := 4) (cs := #[.int .i64 a1_0, .int .i64 a1_1, .int .i64 a1_2, .int .i64 a1_3, .bool a1_4, .string a1_5]) (t := 62) ?_; intro gb274 hg w6 hbox hb; have BK274 := am (hbox); have GW274 := am ((bs hg (below_size HB.out))); have GE274 := am ((bs hg (below_size HB.out))); replace HB := am (below_step (te0 HB.out) hb); clear hb hbox hg) | ((with_reducible refine gate_dst (N := 7) rfl ?_); refine bx (N := 7) (cs := #[.int .i64 0, .int .i64 0, .int .i64 0, .int .i64 0, .bool false, .string (⟨#[]⟩ : ByteArray)]) (t := 62) ?_; intro gb275 hg w7 hbox hb; have BK275 := am (hbox); have GW275 := am ((bs hg (below_size HB.out))); have GE275 := am ((bs hg (below_size HB.out))); replace HB := am (below_step (te1 HB.out GE274.out) hb); have NB274_275 := am ((nl hg (blk_lt BK274.out))); have NB275_274 := am ((ng hg (blk_lt BK274.out))); replace BK274 := am (bb BK274.out hb); clear hb hbox hg) | ((with_reducible refine gate_callee (f := 98) rfl ?_); refine goesL_ (some 15) rfl rfl Try.func98 gk_ rfl #[.slice A0 l0.length c0] rfl gm_ ?_; (with_reducible refine (impl_copyBits.calls k _ _ l0 t276 _ ?side1 ?side2 A4.out).mono ?_); (case side1 => repeat (first | exact (Kd.C_below HR0.out HB.out) | (with_reducible refine Kd.C_alloc ?_ _) | (with_reducible refine Kd.C_drewN ?_ _) | (with_reducible refine Kd.C_drew ?_))); (case side2 => exact HC0.out); rintro e w8 ⟨v277, rfl, ho0, hb⟩; refine ⟨_, rfl, ?_⟩; have HO278 := am (Kd.S_lower ho0 (below_size (te2 HB.out GE274.out GE275.out))); replace BK274 := am (bb BK274.out hb); replace BK275 := am (bb BK275.out hb); replace HB := am (below_step (te2 HB.out GE274.out GE275.out) hb); (try clear hb); (try clear hl); (try clear ho0)))
 (try simp only [Act.put, List.setIfInBounds_toArray, List.set_cons_zero, List.set_cons_succ])
 go_cut [23] (fun v23 wc => ∃ (kq : Nat) (x23_4 : Bool), v23 = .bool x23_4 ∧ Aside0 (impl_JoinBits.j0 kq a2 t276 x23_4 a1_0 a1_1 a1_2 a1_3 a1_4 a1_5 = some (r1, r2, r3, r4, r5, r6, r7, r8)) ∧ Aside0 (kq ≤ k) ∧ Aside0 (Kd.S k82 82 wc w.heap.size (fun _ => True) v277 t276) ∧ Aside0 (wc.heap[gb274]? = some (.cells #[.int .i64 a1_0, .int .i64 a1_1, .int .i64 a1_2, .int .i64 a1_3, .bool a1_4, .string a1_5] 62 (0, 0))) ∧ Aside0 (wc.heap[gb275]? = some (.cells #[.int .i64 0, .int .i64 0, .int .i64 0, .int .i64 0, .bool false, .string (⟨#[]⟩ : ByteArray)] 62 (0, 0))) ∧ Aside0 (Below w.heap.size w wc))
 case first =>
  have H := HC5.out; clear HC5; replace H := bsi H; obtain ⟨t279, A9, H⟩ := H; (try dsimp only at H)
  by_cases c10 : t279 = true
  ·subst c10; rw [if_pos rfl] at H; replace H := bsi H; obtain ⟨t280, A11, H⟩ := H; (try dsimp only at H)
   have H' := am H
   clear H; have hnb12 := NB274_275.out; have hnc12 := NB275_274.out; obtain ⟨hcz13_0, hcz13_1, hcz13_2, hcz13_3, hcz13_4, hcz13_5⟩ := cl6 BK274.out; obtain ⟨hfz13_0, hfz13_1, hfz13_2, hfz13_3, hfz13_4, hfz13_5⟩ := fr6 BK274.out
   go_wp2_with (first | ((with_reducible refine gate_callee (f := 38) rfl ?_); refine goesL_ (some 17) rfl rfl Try.func38 gk_ rfl #[.agg #[.int .i64 a1_0, .int .i64 a1_1, .int .i64 a1_2, .int .i64 a1_3, .bool a1_4, .string a1_5]] rfl gm_ ?_; (with_reducible refine (impl_DgramOk.calls a1_0 a1_1 a1_2 a1_3 a1_4 a1_5 true _ A9.out).mono ?_); rintro e w14 ⟨rfl, hb⟩; refine ⟨_, rfl, ?_⟩; replace HO278 := am (Kd.S_below (ts HO278.out) hb); replace BK274 := am (bb BK274.out hb); replace BK275 := am (bb BK275.out hb); replace HB := am (below_step (te2 HB.out GE274.out GE275.out) hb); (try clear hb); (try clear hl)) | (go_at_call 74; (with_reducible refine (impl_within.calls a2 0 999999990 t280 _ A11.out).mono ?_); rintro e w' ⟨rfl, ⟨nd, rfl⟩⟩))
   go_meet
   case rel => exact ⟨_, (!t280), (be_), H', ⟨gl_⟩, ⟨(ts HO278.out)⟩, ⟨(tb BK274.out)⟩, ⟨(tb BK275.out)⟩, ⟨(te2 HB.out GE274.out GE275.out)⟩⟩
  ·replace c10 := Bool.eq_false_iff.mpr c10; subst c10; rw [if_neg (show ¬ (false = true) by decide)] at H
   have H' := am H
   clear H; have hnb15 := NB274_275.out; have hnc15 := NB275_274.out; obtain ⟨hcz16_0, hcz16_1, hcz16_2, hcz16_3, hcz16_4, hcz16_5⟩ := cl6 BK274.out; obtain ⟨hfz16_0, hfz16_1, hfz16_2, hfz16_3, hfz16_4, hfz16_5⟩ := fr6 BK274.out
   go_wp2_with (first | ((with_reducible refine gate_callee (f := 38) rfl ?_); refine goesL_ (some 17) rfl rfl Try.func38 gk_ rfl #[.agg #[.int .i64 a1_0, .int .i64 a1_1, .int .i64 a1_2, .int .i64 a1_3, .bool a1_4, .string a1_5]] rfl gm_ ?_; (with_reducible refine (impl_DgramOk.calls a1_0 a1_1 a1_2 a1_3 a1_4 a1_5 false _ A9.out).mono ?_); rintro e w17 ⟨rfl, hb⟩; refine ⟨_, rfl, ?_⟩; replace HO278 := am (Kd.S_below (ts HO278.out) hb); replace BK274 := am (bb BK274.out hb); replace BK275 := am (bb BK275.out hb); replace HB := am (below_step (te2 HB.out GE274.out GE275.out) hb); (try clear hb); (try clear hl)))
   go_meet
   case rel => exact ⟨_, (true), (be_), H', ⟨gl_⟩, ⟨(ts HO278.out)⟩, ⟨(tb BK274.out)⟩, ⟨(tb BK275.out)⟩, ⟨(te2 HB.out GE274.out GE275.out)⟩⟩
 case rest =>
  clear HC5; obtain ⟨kq, x23_4, rfl, HA, HJ4, HO_9, BK274, BK275, HB⟩ := hcut
  cases kq with
  | zero => exact absurd HA.out (by simp [impl_JoinBits.j0])
  | succ kj4 =>
   have H := HA.out; clear HA; simp only [impl_JoinBits.j0] at H
   by_cases c18 : x23_4 = true
   ·subst c18; rw [if_pos rfl] at H; simp only [Option.some.injEq, Prod.mk.injEq] at H; obtain ⟨rfl, rfl, rfl, rfl, rfl, rfl, rfl, rfl⟩ := H; have hnb19 := NB275_274.out; have hnc19 := NB274_275.out; obtain ⟨hcz20_0, hcz20_1, hcz20_2, hcz20_3, hcz20_4, hcz20_5⟩ := cl6 BK275.out; obtain ⟨hfz20_0, hfz20_1, hfz20_2, hfz20_3, hfz20_4, hfz20_5⟩ := fr6 BK275.out
    go_wp2_with (first | ((with_reducible refine gate_store (t := 62) (p := 7) rfl ?_); refine store_event (t := 62) (p := 7) (v := ?vo_w21) (w1 := ((((((wc.setCell ⟨gb275, 0, none⟩ (.int .i64 0)).setCell ⟨gb275, 1, none⟩ (.int .i64 0)).setCell ⟨gb275, 2, none⟩ (.int .i64 0)).setCell ⟨gb275, 3, none⟩ (.int .i64 0)).setCell ⟨gb275, 4, none⟩ (.bool false)).setCell ⟨gb275, 5, none⟩ (.string (⟨#[]⟩ : ByteArray)))) ?hg ?ho ?hn ?hr ?_; (case ho => rfl); (case hg => rfl); (case hn => rfl); (case hr => exact gs_); intro w21 hw; replace HO_9 : Aside0 (Kd.S k82 82 w21 w.heap.size (fun _ => True) v277 t276) := ⟨BJ7x5_⟩; replace BK274 : Aside0 (w21.heap[gb274]? = some (.cells #[.int .i64 a1_0, .int .i64 a1_1, .int .i64 a1_2, .int .i64 a1_3, .bool a1_4, .string a1_5] 62 (0, 0))) := ⟨(wtp1 BK274.out NB274_275.out)⟩; replace BK275 : Aside0 (w21.heap[gb275]? = some (.cells #[.int .i64 0, .int .i64 0, .int .i64 0, .int .i64 0, .bool false, .string (⟨#[]⟩ : ByteArray)] 62 (0, 0))) := ⟨BJ7x52_⟩; replace HB : Aside0 (Below w.heap.size w w21) := ⟨BJ7x51_⟩; clear hw))
    refine bodyPost_ret (results_list (rs := [.tmp 6, .cell 7 62, .tmp 8]) rfl (by simp) (.tmp (.cell gb275 62 #[.int .i64 0, .int .i64 0, .int .i64 0, .int .i64 0, .bool false, .string (⟨#[]⟩ : ByteArray)] (0, 0) _ rfl (tb BK275.out) Try.underlying62 rfl gk_ (.tmp .nil)))) rfl ?_; exact ⟨_, BJ7x24_, SQ_of (ts HO_9.out), (te2 HB.out GE274.out GE275.out)⟩
   ·replace c18 := Bool.eq_false_iff.mpr c18; subst c18; rw [if_neg (show ¬ (false = true) by decide)] at H; have HC22 := am H; clear H
    go_upto_region 4 with (fail)
    go_cut [33] (fun v33 wc => ∃ (kq : Nat) (x33_21 : Bool), v33 = .bool x33_21 ∧ Aside0 (impl_JoinBits.j1 kq a2 t276 x33_21 a1_0 a1_1 a1_2 a1_3 a1_4 a1_5 = some (r1, r2, r3, r4, r5, r6, r7, r8)) ∧ Aside0 (kq ≤ kj4) ∧ Aside0 (Kd.S k82 82 wc w.heap.size (fun _ => True) v277 t276) ∧ Aside0 (wc.heap[gb274]? = some (.cells #[.int .i64 a1_0, .int .i64 a1_1, .int .i64 a1_2, .int .i64 a1_3, .bool a1_4, .string a1_5] 62 (0, 0))) ∧ Aside0 (wc.heap[gb275]? = some (.cells #[.int .i64 0, .int .i64 0, .int .i64 0, .int .i64 0, .bool false, .string (⟨#[]⟩ : ByteArray)] 62 (0, 0))) ∧ Aside0 (Below w.heap.size w wc))
    case first =>
     have H := HC22.out; clear HC22
     by_cases c23 : a1_3 = 0
     ·rw [if_pos c23] at H; have c23b0 := beq_iff_eq.mpr c23; have c23b1 := bne_eq_false_iff_eq.mpr c23; clear c23
      (first | rw [c23b0] | (simp only [i64_w, i32_w]; rw [c23b0]) | skip)
      have H' := am H
      clear H; have hnb24 := NB274_275.out; have hnc24 := NB275_274.out; obtain ⟨hcz25_0, hcz25_1, hcz25_2, hcz25_3, hcz25_4, hcz25_5⟩ := cl6 BK274.out; obtain ⟨hfz25_0, hfz25_1, hfz25_2, hfz25_3, hfz25_4, hfz25_5⟩ := fr6 BK274.out
      go_wp2
      go_meet
      case rel => exact ⟨_, (!a1_4), (be_), H', ⟨BJ7x53_⟩, ⟨(ts HO_9.out)⟩, ⟨(tb BK274.out)⟩, ⟨(tb BK275.out)⟩, ⟨(te2 HB.out GE274.out GE275.out)⟩⟩
     ·rw [if_neg c23] at H; have c23b0 := beq_eq_false_iff_ne.mpr c23; have c23b1 := bne_iff_ne.mpr c23
      (first | rw [c23b0] | (simp only [i64_w, i32_w]; rw [c23b0]) | skip)
      have H' := am H
      clear H; have hnb26 := NB274_275.out; have hnc26 := NB275_274.out; obtain ⟨hcz27_0, hcz27_1, hcz27_2, hcz27_3, hcz27_4, hcz27_5⟩ := cl6 BK274.out; obtain ⟨hfz27_0, hfz27_1, hfz27_2, hfz27_3, hfz27_4, hfz27_5⟩ := fr6 BK274.out
      go_wp2
      go_meet
      case rel => exact ⟨_, (false), (be_), H', ⟨BJ7x53_⟩, ⟨(ts HO_9.out)⟩, ⟨(tb BK274.out)⟩, ⟨(tb BK275.out)⟩, ⟨(te2 HB.out GE274.out GE275.out)⟩⟩
    case rest =>
     clear HC22
     try clear c18
     obtain ⟨kq, x33_21, rfl, HA, HJ21, HO_9, BK274, BK275, HB⟩ := hcut
     cases kq with
     | zero => exact absurd HA.out (by simp [impl_JoinBits.j1])
     | succ kj21 =>
      have H := HA.out; clear HA; simp only [impl_JoinBits.j1] at H
      by_cases c28 : x33_21 = true
      ·subst c28; rw [if_pos rfl] at H; simp only [Option.some.injEq, Prod.mk.injEq] at H; obtain ⟨rfl, rfl, rfl, rfl, rfl, rfl, rfl, rfl⟩ := H
       try go_wp2
       replace HO_9 := am (Kd.S_drew HO_9.out); replace BK274 := am (blk_drew BK274.out); replace BK275 := am (blk_drew BK275.out); replace HB := am (below_drew1 HB.out); refine start_ (n := 5) (S := fun w' => w'.cell? ⟨gb274, 0, none⟩ = some (.int .i64 a1_0) ∧ w'.cell? ⟨gb274, 1, none⟩ = some (.int .i64 a1_1) ∧ w'.cell? ⟨gb274, 2, none⟩ = some (.int .i64 a1_2) ∧ w'.cell? ⟨gb274, 3, none⟩ = some (.int .i64 a1_3) ∧ w'.cell? ⟨gb274, 4, none⟩ = some (.bool a1_4) ∧ w'.cell? ⟨gb274, 5, none⟩ = some (.string a1_5)) (ds := []) #[false, false, false, false, false] gk_ rfl rfl ⟨(blk_cell BK274.out 0).trans rfl, (blk_cell BK274.out 1).trans rfl, (blk_cell BK274.out 2).trans rfl, (blk_cell BK274.out 3).trans rfl, (blk_cell BK274.out 4).trans rfl, (blk_cell BK274.out 5).trans rfl⟩ (fun hHeld => ?_); generalize wc.drew = w29 at HO_9 BK274 BK275 HB hHeld ⊢; refine pure_ (i := 0) (N := some 34) (v := ?_) (a' := ?_) #[true, false, false, false, false] rfl rfl gk_ (fun _ _ _ h => h) (Or.inl ⟨(by rfl), ?_⟩) ?_ ?_; rotate_left
       ·intro w'; go_simp; with_reducible rfl
       rotate_left
       ·simp only [Act.put, List.setIfInBounds_toArray, List.set_cons_zero, List.set_cons_succ, i64_w, i32_w]; rfl
       refine pure_ (i := 2) (N := some 6) (v := ?_) (a' := ?_) #[true, false, true, false, false] rfl rfl gk_ (fun _ _ _ h => h) (Or.inl ⟨(by rfl), ?_⟩) ?_ ?_; rotate_left
       ·intro w'; go_simp; with_reducible rfl
       rotate_left
       ·simp only [Act.put, List.setIfInBounds_toArray, List.set_cons_zero, List.set_cons_succ, i64_w, i32_w]; rfl
       refine take_ (i := 1) (N := some 35) (v := ?_) (a' := ?_) #[true, true, true, false, false] rfl rfl gk_ (fun _ _ _ h => h) (Or.inl ⟨(by rfl), ?_⟩) hHeld ?_ ?_; rotate_left
       ·rintro w' ⟨s0, s1, s2, s3, s4, s5⟩; go_simp; with_reducible rfl
       rotate_left
       ·simp only [Act.put, List.setIfInBounds_toArray, List.set_cons_zero, List.set_cons_succ, i64_w, i32_w]; rfl
       refine one_ (i := 3) (N := none) #[true, true, true, true, false] rfl rfl gk_ (by decide) (fun K hK => ?_)
       have hs30 : w29.cell? ⟨gb275, 0, none⟩ = some (.int .i64 0) := (blk_cell BK275.out 0).trans rfl
       have hfs30 := blk_frozen BK275.out 0; have hns30_0 := NB274_275.out; have hms30_0 := NB275_274.out
       have hs31 : w29.cell? ⟨gb275, 1, none⟩ = some (.int .i64 0) := (blk_cell BK275.out 1).trans rfl
       have hfs31 := blk_frozen BK275.out 1; have hns31_0 := NB274_275.out; have hms31_0 := NB275_274.out
       have hs32 : w29.cell? ⟨gb275, 2, none⟩ = some (.int .i64 0) := (blk_cell BK275.out 2).trans rfl
       have hfs32 := blk_frozen BK275.out 2; have hns32_0 := NB274_275.out; have hms32_0 := NB275_274.out
       have hs33 : w29.cell? ⟨gb275, 3, none⟩ = some (.int .i64 0) := (blk_cell BK275.out 3).trans rfl
       have hfs33 := blk_frozen BK275.out 3; have hns33_0 := NB274_275.out; have hms33_0 := NB275_274.out
       have hs34 : w29.cell? ⟨gb275, 4, none⟩ = some (.bool false) := (blk_cell BK275.out 4).trans rfl
       have hfs34 := blk_frozen BK275.out 4; have hns34_0 := NB274_275.out; have hms34_0 := NB275_274.out
       have hs35 : w29.cell? ⟨gb275, 5, none⟩ = some (.string (⟨#[]⟩ : ByteArray)) := (blk_cell BK275.out 5).trans rfl
       have hfs35 := blk_frozen BK275.out 5; have hns35_0 := NB274_275.out; have hms35_0 := NB275_274.out; refine skip_ (w1 := ?_) (by rfl) rfl ?_ ?_; rotate_left
       ·go_simp; rfl
       refine hK.out _ _ ⟨((cell_far (p := ⟨gb275, _, none⟩) NB274_275.out _).trans (((cell_far (p := ⟨gb275, _, none⟩) NB274_275.out _).trans (((cell_far (p := ⟨gb275, _, none⟩) NB274_275.out _).trans (((cell_far (p := ⟨gb275, _, none⟩) NB274_275.out _).trans (((cell_far (p := ⟨gb275, _, none⟩) NB274_275.out _).trans (((cell_far (p := ⟨gb275, _, none⟩) NB274_275.out _).trans (hHeld.1)))))))))))), ((cell_far (p := ⟨gb275, _, none⟩) NB274_275.out _).trans (((cell_far (p := ⟨gb275, _, none⟩) NB274_275.out _).trans (((cell_far (p := ⟨gb275, _, none⟩) NB274_275.out _).trans (((cell_far (p := ⟨gb275, _, none⟩) NB274_275.out _).trans (((cell_far (p := ⟨gb275, _, none⟩) NB274_275.out _).trans (((cell_far (p := ⟨gb275, _, none⟩) NB274_275.out _).trans (hHeld.2.1)))))))))))), ((cell_far (p := ⟨gb275, _, none⟩) NB274_275.out _).trans (((cell_far (p := ⟨gb275, _, none⟩) NB274_275.out _).trans (((cell_far (p := ⟨gb275, _, none⟩) NB274_275.out _).trans (((cell_far (p := ⟨gb275, _, none⟩) NB274_275.out _).trans (((cell_far (p := ⟨gb275, _, none⟩) NB274_275.out _).trans (((cell_far (p := ⟨gb275, _, none⟩) NB274_275.out _).trans (hHeld.2.2.1)))))))))))), ((cell_far (p := ⟨gb275, _, none⟩) NB274_275.out _).trans (((cell_far (p := ⟨gb275, _, none⟩) NB274_275.out _).trans (((cell_far (p := ⟨gb275, _, none⟩) NB274_275.out _).trans (((cell_far (p := ⟨gb275, _, none⟩) NB274_275.out _).trans (((cell_far (p := ⟨gb275, _, none⟩) NB274_275.out _).trans (((cell_far (p := ⟨gb275, _, none⟩) NB274_275.out _).trans (hHeld.2.2.2.1)))))))))))), ((cell_far (p := ⟨gb275, _, none⟩) NB274_275.out _).trans (((cell_far (p := ⟨gb275, _, none⟩) NB274_275.out _).trans (((cell_far (p := ⟨gb275, _, none⟩) NB274_275.out _).trans (((cell_far (p := ⟨gb275, _, none⟩) NB274_275.out _).trans (((cell_far (p := ⟨gb275, _, none⟩) NB274_275.out _).trans (((cell_far (p := ⟨gb275, _, none⟩) NB274_275.out _).trans (hHeld.2.2.2.2.1)))))))))))), ((cell_far (p := ⟨gb275, _, none⟩) NB274_275.out _).trans (((cell_far (p := ⟨gb275, _, none⟩) NB274_275.out _).trans (((cell_far (p := ⟨gb275, _, none⟩) NB274_275.out _).trans (((cell_far (p := ⟨gb275, _, none⟩) NB274_275.out _).trans (((cell_far (p := ⟨gb275, _, none⟩) NB274_275.out _).trans (((cell_far (p := ⟨gb275, _, none⟩) NB274_275.out _).trans (hHeld.2.2.2.2.2))))))))))))⟩ (fun hHeld => ?_); clear hK K; refine pure_ (i := 4) (N := some 8) (v := ?_) (a' := ?_) #[true, true, true, true, true] rfl rfl gk_ (fun _ _ _ h => h) (Or.inl ⟨(by rfl), ?_⟩) ?_ ?_; rotate_left
       ·intro w'; go_simp; with_reducible rfl
       rotate_left
       ·simp only [Act.put, List.setIfInBounds_toArray, List.set_cons_zero, List.set_cons_succ, i64_w, i32_w]; rfl
       refine done_ gk_ ?_
       try go_wp2
       refine bodyPost_ret (results_list (rs := [.tmp 6, .cell 7 62, .tmp 8]) rfl (by simp) (.tmp (.cell gb275 62 #[.int .i64 a1_0, .int .i64 a1_1, .int .i64 a1_2, .int .i64 a1_3, .bool a1_4, .string a1_5] (0, 0) _ rfl (tp0 BK275.out) Try.underlying62 rfl gk_ (.tmp .nil)))) rfl ?_; exact ⟨_, BJ7x24_, SQ_of (by (with_reducible repeat (first | apply Kd.S_alloc | apply Kd.S_drewN | apply Kd.S_drew)); exact Kd.S_mono (Kd.S_far (p := ⟨gb275, 5, none⟩) (Kd.S_far (p := ⟨gb275, 4, none⟩) (Kd.S_far (p := ⟨gb275, 3, none⟩) (Kd.S_far (p := ⟨gb275, 2, none⟩) (Kd.S_far (p := ⟨gb275, 1, none⟩) (Kd.S_far (p := ⟨gb275, 0, none⟩) (Kd.S_types HO_9.out BK275.out (by decide)) (fun _ hk => hk.2) (.int .i64 a1_0)) (fun _ hk => hk.2) (.int .i64 a1_1)) (fun _ hk => hk.2) (.int .i64 a1_2)) (fun _ hk => hk.2) (.int .i64 a1_3)) (fun _ hk => hk.2) (.bool a1_4)) (fun _ hk => hk.2) (.string a1_5)) (fun _ hk => trivial)), (te2 HB.out GE274.out GE275.out)⟩
      ·replace c28 := Bool.eq_false_iff.mpr c28; subst c28; rw [if_neg (show ¬ (false = true) by decide)] at H; replace H := bsi H; obtain ⟨t281, A36, H⟩ := H; (try dsimp only at H); have HC37 := am H; clear H; obtain ⟨Ao38, co38, eo38⟩ := Kd.S_slice HO_9.out; subst eo38
       go_upto_if 40 with (first | ((with_reducible refine gate_callee (f := 99) rfl ?_); refine goesL_ (some 38) rfl rfl Try.func99 gk_ rfl #[.slice Ao38 t276.length co38, .func (.func 100) #[] #[.pointer (some ⟨gb274, 0, none⟩)]] rfl gm_ ?_; (with_reducible refine (impl_Bits_99.calls kj21 _ _ t276 gb274 a1_0 a1_1 a1_2 a1_3 a1_4 a1_5 t281 _ ?side1 ?side2 ?side3 A36.out).mono ?_); (case side1 => repeat (first | exact (Kd.S_reads' HO_9.out).2.2 | (with_reducible refine Kd.C_alloc ?_ _) | (with_reducible refine Kd.C_drewN ?_ _) | (with_reducible refine Kd.C_drew ?_))); (case side2 => exact (Kd.S_reads' HO_9.out).2.1); (case side3 => exact by (with_reducible repeat (first | refine blk_drewN ?_ _ | refine blk_drew ?_ | refine blk_alloc ?_ _)); exact BK274.out); rintro e w39 ⟨rfl, hb⟩; refine ⟨_, rfl, ?_⟩; replace HO_9 := am (Kd.S_below (ts HO_9.out) hb); replace BK274 := am (bb BK274.out hb); replace BK275 := am (bb BK275.out hb); replace HB := am (below_step (te2 HB.out GE274.out GE275.out) hb); (try clear hb); (try clear hl)))
       (try simp only [Act.put, List.setIfInBounds_toArray, List.set_cons_zero, List.set_cons_succ])
       go_cut [9, 10] (fun v9 v10 wc => ∃ (kq : Nat) (x9_36 : List (S82)) (x10_36 : Int), v10 = .int .i64 x10_36 ∧ Aside0 (impl_JoinBits.j2 kq x9_36 x10_36 a1_0 a1_1 a1_2 a1_3 a1_4 a1_5 = some (r1, r2, r3, r4, r5, r6, r7, r8)) ∧ Aside0 (kq ≤ kj21) ∧ Aside0 (SQ k82 82 wc w.heap.size (fun _ => True) v9 x9_36) ∧ Aside0 (wc.heap[gb274]? = some (.cells #[.int .i64 a1_0, .int .i64 a1_1, .int .i64 a1_2, .int .i64 a1_3, .bool a1_4, .string a1_5] 62 (0, 0))) ∧ Aside0 (wc.heap[gb275]? = some (.cells #[.int .i64 0, .int .i64 0, .int .i64 0, .int .i64 0, .bool false, .string (⟨#[]⟩ : ByteArray)] 62 (0, 0))) ∧ Aside0 (Below w.heap.size w wc))
       case first =>
        have H := HC37.out; clear HC37
        by_cases c40 : t281 < 0
        ·rw [if_pos c40] at H
         have c40b0 : decide (t281 < 0) = true := decide_eq_true c40
         clear c40
         (first | rw [c40b0] | (simp only [i64_w, i32_w]; rw [c40b0]) | skip)
         by_cases c41 : t276.length < 1759218604441
         rotate_left
         ·rw [if_neg c41] at H; exact absurd H (by simp)
         rw [if_pos c41] at H; have LMc41 := am c41; clear c41; obtain ⟨y282, hy282⟩ : ∃ y_ : List (S82), y_ = (t276 ++ [(⟨a1_0, a1_2, ([] : List ByteArray), ([] : List Int), 0, wrap64 (a2 + 10)⟩ : S82)]) := ⟨_, rfl⟩
         replace H : (impl_JoinBits.j2 kj21 (y282.drop (mx 0 (wrap64 ((y282.length : Int) - 3))).toNat) (wrap64 (((y282.drop (mx 0 (wrap64 ((y282.length : Int) - 3))).toNat).length : Int) - 1)) a1_0 a1_1 a1_2 a1_3 a1_4 a1_5) = some (r1, r2, r3, r4, r5, r6, r7, r8) := by rw [hy282]; exact (Option.bind_some _ _).symm.trans H
         have hyl : y282.length = t276.length + 1 := by rw [hy282, List.length_append]; rfl
         have YL := am hyl; have Ny282 := am hy282; clear hy282; obtain ⟨ji42, hji42⟩ : ∃ j_ : Int, (mx 0 (wrap64 ((y282.length : Int) - 3))) = j_ := ⟨_, rfl⟩
         replace H : (impl_JoinBits.j2 kj21 (y282.drop (ji42).toNat) (wrap64 (((y282.drop (ji42).toNat).length : Int) - 1)) a1_0 a1_1 a1_2 a1_3 a1_4 a1_5) = some (r1, r2, r3, r4, r5, r6, r7, r8) := by rw [hji42] at H; exact H
         have hji42l : 0 ≤ ji42 ∧ ji42 < (y282.length : Int) := by
          have hl_ := LMc41.out
          have hw_ : wrap64 ((y282.length : Int) - 3) = (y282.length : Int) - 3 := by unfold wrap64; omega
          rw [hw_] at hji42
          rw [← hji42]; unfold mx; split <;> omega
         have hji42_ : (if 0 < (wrap64 ((y282.length : Int) - 3)) then (wrap64 ((y282.length : Int) - 3)) else 0) = ji42 := hji42
         have JI := am hji42l
         obtain ⟨z42, hz42⟩ : ∃ z_ : List S82, z_ = y282.drop (ji42).toNat := ⟨_, rfl⟩
         have hzl : z42.length = y282.length - ji42.toNat := by rw [hz42, List.length_drop]
         rw [← hz42] at H
         have c43b0 : decide (ji42 ≤ (y282.length : Int)) = true := decide_eq_true (by omega)
         have c43b1 : decide (0 ≤ ji42) = true := decide_eq_true (by omega)
         have Nz42 := am hz42; have ZL := am hzl; clear hz42 hzl hyl hji42l hji42
         have H' := am H
         clear H; have hnb44 := NB274_275.out; have hnc44 := NB275_274.out; obtain ⟨hcz45_0, hcz45_1, hcz45_2, hcz45_3, hcz45_4, hcz45_5⟩ := cl6 BK274.out; obtain ⟨hfz45_0, hfz45_1, hfz45_2, hfz45_3, hfz45_4, hfz45_5⟩ := fr6 BK274.out
         go_wp2_with (first | ((with_reducible refine gate_builtin (b := .append) (xs := #[.tmp 41, .tmp 49]) rfl ?_); at_builtin; refine Kd.S_append k82 (w0 := w) w.heap.size rfl (.tmp 41) (.tmp 49) 68 82 (.agg #[(.int .i64 0), (.int .i64 0), (.slice none 0 0), (.slice none 0 0), (.int .i64 0), (.int .i64 0)]) 80 rfl Try.underlying68 info82 rfl (by decide) (by omega) (.slice Ao38 t276.length co38) t276 (⟨a1_0, a1_2, ([] : List ByteArray), ([] : List Int), 0, wrap64 (a2 + 10)⟩ : S82) [.int .i64 a1_0, .int .i64 a1_2, .slice none 0 0, .slice none 0 0, .int .i64 0, .int .i64 (wrap64 (a2 + 10))] (fun _ => True) (fun _ => False) rfl rfl ?aP (fun k_ hk_ => hk_.elim) ?aF ?aO ?aB ?aS ?aL ?_; (case aP => exact k82_mkM _ _ _ (⟨a1_0, a1_2, ([] : List ByteArray), ([] : List Int), 0, wrap64 (a2 + 10)⟩ : S82) (Kd.R_nil _ _ _ _ _) (Kd.R_nil _ _ _ _ _)); (case aB => exact (te2 HB.out GE274.out GE275.out)); (case aF => exact (fun _ _ => trivial)); (case aO => exact BJ7x26_); (case aS => exact BJ7x54_); (case aL => have := LMc41.out; omega); intro v283 w46 ho hb hg hat; rw [← Ny282.out] at ho; replace BK274 := am (blk_grown (g := gb274) (o := .cells #[.int .i64 a1_0, .int .i64 a1_1, .int .i64 a1_2, .int .i64 a1_3, .bool a1_4, .string a1_5] 62 (0, 0)) (tb BK274.out) hg (Kd.S_ne HO_9.out BK274.out (by decide))); replace BK275 := am (blk_grown (g := gb275) (o := .cells #[.int .i64 0, .int .i64 0, .int .i64 0, .int .i64 0, .bool false, .string (⟨#[]⟩ : ByteArray)] 62 (0, 0)) (tb BK275.out) hg (Kd.S_ne HO_9.out BK275.out (by decide))); replace HB := am (hb); have HO284 := am (ho); clear HO_9; clear ho hb hg hat; obtain ⟨Ao47, co47, eo47⟩ := Kd.S_slice HO284.out; subst eo47; obtain ⟨i048, hi048, _, hsz48, _⟩ := info_parts info82; have hcut48 := cut_from (P := Try.prog) 68 82 .i64 Try.underlying68 hi048 6 hsz48 Ao47 y282.length co47 (ji42) JI.out.1 (Int.le_of_lt JI.out.2); have hq48 := SQ_drop (j := ji42.toNat) HO284.out (by have := JI.out; omega) (by decide); rw [← Nz42.out, show (if co47 = ji42.toNat then Ao47 else Ao47.map (·.add (ji42.toNat * k82.sz))) = (if co47 = ji42.toNat then Ao47 else Ao47.map (·.add (ji42.toNat * 6))) from rfl] at hq48; obtain ⟨Aq48, hAq48⟩ : ∃ A_, A_ = (if co47 = ji42.toNat then Ao47 else Ao47.map (·.add (ji42.toNat * 6))) := ⟨_, rfl⟩; obtain ⟨cq48, hcq48⟩ : ∃ c_, c_ = co47 - ji42.toNat := ⟨_, rfl⟩; rw [← hAq48, ← hcq48, ← ZL.out] at hcut48 hq48; have HQ48 := am hq48; clear hq48 hAq48 hcq48 hi048 hsz48 HO284))
         go_meet
         case rel => exact ⟨_, (z42), (wrap64 ((z42.length : Int) - 1)), (be_), H', ⟨BJ7x49_⟩, ⟨HQ48.out⟩, ⟨(tb BK274.out)⟩, ⟨(tb BK275.out)⟩, ⟨(te2 HB.out GE274.out GE275.out)⟩⟩
        ·rw [if_neg c40] at H
         have c40b0 : decide (t281 < 0) = false := decide_eq_false c40
         clear c40
         (first | rw [c40b0] | (simp only [i64_w, i32_w]; rw [c40b0]) | skip)
         have H' := am H
         clear H
         go_wp2
         go_meet
         case rel => exact ⟨_, (t276), (t281), (be_), H', ⟨BJ7x49_⟩, ⟨SQ_of (ts HO_9.out)⟩, ⟨(tb BK274.out)⟩, ⟨(tb BK275.out)⟩, ⟨(te2 HB.out GE274.out GE275.out)⟩⟩
       case rest =>
        clear HC37
        try clear c18
        try clear c28
        obtain ⟨kq, x9_36, x10_36, rfl, HA, HJ36, HO_9, BK274, BK275, HB⟩ := hcut
        cases kq with
        | zero => exact absurd HA.out (by simp [impl_JoinBits.j2])
        | succ kj36 =>
         have H := HA.out; clear HA; simp only [impl_JoinBits.j2] at H
         by_cases c49 : 0 ≤ x10_36
         rotate_left
         ·rw [if_neg c49] at H; exact absurd H (by simp)
         rw [if_pos c49] at H
         have c49b0 : decide (0 ≤ x10_36) = true := decide_eq_true c49
         clear c49
         by_cases c50 : x10_36 < (x9_36.length : Int)
         rotate_left
         ·rw [if_neg c50] at H; exact absurd H (by simp)
         rw [if_pos c50] at H
         have c50b0 : decide (x10_36 < (x9_36.length : Int)) = true := decide_eq_true c50
         clear c50; replace H := bsi H; obtain ⟨t286, A52, H⟩ := H; (try dsimp only at H)
         by_cases c53 : t286 = true
         ·subst c53; rw [if_pos rfl] at H; replace H := bsi H; obtain ⟨⟨t288, t289⟩, A54, H⟩ := H; (try dsimp only at H)
          by_cases c55 : t289 = true
          ·subst c55; rw [if_pos rfl] at H; have c56b0 := eq_true (dga : 0 ≤ x10_36)
           by_cases c57 : x10_36 ≤ (x9_36.length : Int)
           rotate_left
           ·rw [if_neg c57] at H; exact absurd H (by simp)
           rw [if_pos c57] at H; have c57b0 := eq_true c57
           have c57b1 : decide (x10_36 ≤ (x9_36.length : Int)) = true := decide_eq_true c57
           clear c57; obtain ⟨y290, hy290⟩ : ∃ y_ : List (S82), y_ = (x9_36.take (x10_36 : Int).toNat) := ⟨_, rfl⟩
           replace H : (if 0 ≤ (wrap64 (x10_36 + 1)) then (if (wrap64 (x10_36 + 1)) ≤ (x9_36.length : Int) then (some ((x9_36.eraseIdx (x10_36 : Int).toNat), a1_0, a1_1, a1_2, 0, false, t288, true)) else (none)) else (none)) = some (r1, r2, r3, r4, r5, r6, r7, r8) := by first | (rw [hy290]; with_reducible exact H) | (have H2_ := (Option.bind_some _ _).symm.trans H; rw [hy290]; with_reducible exact H2_) | (have H2_ := (Option.bind_some _ _).symm.trans H; with_reducible exact H2_) | with_reducible exact H | (rw [hy290]; exact H) | exact H
           have Ny290 := am hy290; clear hy290; obtain ⟨ji58, hji58⟩ : ∃ j_ : Int, (wrap64 (x10_36 + 1)) = j_ := ⟨_, rfl⟩
           replace H : (if 0 ≤ (ji58) then (if (ji58) ≤ (x9_36.length : Int) then (some ((x9_36.eraseIdx (x10_36 : Int).toNat), a1_0, a1_1, a1_2, 0, false, t288, true)) else (none)) else (none)) = some (r1, r2, r3, r4, r5, r6, r7, r8) := by first | (rw [hji58] at H; exact H) | (simp only [hji58] at H ⊢; exact H)
           (try rw [hji58] at A52); (try rw [hji58] at A54)
           have hji58w : (IntKind.i64.wrap (x10_36 + 1)) = ji58 := (i64_w _).trans hji58
           by_cases c59 : 0 ≤ (ji58)
           rotate_left
           ·rw [if_neg c59] at H; exact absurd H (by simp)
           rw [if_pos c59] at H; have c59b0 := eq_true c59
           have c59b1 : decide (0 ≤ (ji58)) = true := decide_eq_true c59
           clear c59
           by_cases c60 : (ji58) ≤ (x9_36.length : Int)
           rotate_left
           ·rw [if_neg c60] at H; exact absurd H (by simp)
           rw [if_pos c60] at H; have c60b0 := eq_true c60
           have c60b1 : decide ((ji58) ≤ (x9_36.length : Int)) = true := decide_eq_true c60
           clear c60; obtain ⟨y294, hy294⟩ : ∃ y_ : List (S82), y_ = (x9_36.drop ((ji58) : Int).toNat) := ⟨_, rfl⟩
           replace H : (some ((x9_36.eraseIdx (x10_36 : Int).toNat), a1_0, a1_1, a1_2, 0, false, t288, true)) = some (r1, r2, r3, r4, r5, r6, r7, r8) := by first | (rw [hy294]; with_reducible exact H) | (have H2_ := (Option.bind_some _ _).symm.trans H; rw [hy294]; with_reducible exact H2_) | (have H2_ := (Option.bind_some _ _).symm.trans H; with_reducible exact H2_) | with_reducible exact H | (rw [hy294]; exact H) | exact H
           have Ny294 := am hy294; clear hy294; obtain ⟨y298, hy298⟩ : ∃ y_ : List (S82), y_ = (x9_36.eraseIdx (x10_36 : Int).toNat) := ⟨_, rfl⟩
           replace H : (some (y298, a1_0, a1_1, a1_2, 0, false, t288, true)) = some (r1, r2, r3, r4, r5, r6, r7, r8) := by first | (rw [hy298]; with_reducible exact H) | (have H2_ := (Option.bind_some _ _).symm.trans H; rw [hy298]; with_reducible exact H2_) | (have H2_ := (Option.bind_some _ _).symm.trans H; with_reducible exact H2_) | with_reducible exact H | (rw [hy298]; exact H) | exact H
           have Ny298 := am hy298; clear hy298; simp only [Option.some.injEq, Prod.mk.injEq] at H; obtain ⟨rfl, rfl, rfl, rfl, rfl, rfl, rfl, rfl⟩ := H
           have p51 : 0 ≤ (x10_36 : Int) := dga
           have q51 : (x10_36 : Int) < ((x9_36.length : Int) : Int) := dga
           obtain ⟨go51, of51, co51, eo51, gb51, gl51, cl51, HG51⟩ := KQ.S_form HO_9.out (by omega)
           (first | cases eo51 | (injection eo51 with ea_ en_ ec_; (first | subst ea_ | (injection ea_ with ea_; subst ea_)); subst ec_; clear en_))
           have GB51 := am gb51; have GG51 := am HG51; clear gb51 gl51 HG51; obtain ⟨_, ce51, hcl51, hM51, hcc51, hfr51, _, _⟩ := KQ.S_elem HO_9.out z82 (x10_36 : Int) p51 q51; obtain ⟨ve51_2, ve51_3, rfl, ge51_2, ge51_3⟩ := k82_openM hM51
           have hx51_0 : wc.cell? ⟨go51, of51 + (x10_36 : Int).toNat * 6, none⟩ = some (.int .i64 ((rd_T82 x9_36 x10_36).f0)) := hcc51 0 _ rfl
           have hx51_1 : wc.cell? ⟨go51, of51 + (x10_36 : Int).toNat * 6 + 1, none⟩ = some (.int .i64 ((rd_T82 x9_36 x10_36).f1)) := hcc51 1 _ rfl
           have hx51_2 : wc.cell? ⟨go51, of51 + (x10_36 : Int).toNat * 6 + 2, none⟩ = some (ve51_2) := hcc51 2 _ rfl
           have hx51_3 : wc.cell? ⟨go51, of51 + (x10_36 : Int).toNat * 6 + 3, none⟩ = some (ve51_3) := hcc51 3 _ rfl
           have hx51_4 : wc.cell? ⟨go51, of51 + (x10_36 : Int).toNat * 6 + 4, none⟩ = some (.int .i64 ((rd_T82 x9_36 x10_36).f4)) := hcc51 4 _ rfl
           have hx51_5 : wc.cell? ⟨go51, of51 + (x10_36 : Int).toNat * 6 + 5, none⟩ = some (.int .i64 ((rd_T82 x9_36 x10_36).f5)) := hcc51 5 _ rfl
           have hf51_0 : wc.frozen? ⟨go51, of51 + (x10_36 : Int).toNat * 6, none⟩ = false := hfr51 0
           have hf51_1 : wc.frozen? ⟨go51, of51 + (x10_36 : Int).toNat * 6 + 1, none⟩ = false := hfr51 1
           have hf51_2 : wc.frozen? ⟨go51, of51 + (x10_36 : Int).toNat * 6 + 2, none⟩ = false := hfr51 2
           have hf51_3 : wc.frozen? ⟨go51, of51 + (x10_36 : Int).toNat * 6 + 3, none⟩ = false := hfr51 3
           have hf51_4 : wc.frozen? ⟨go51, of51 + (x10_36 : Int).toNat * 6 + 4, none⟩ = false := hfr51 4
           have hf51_5 : wc.frozen? ⟨go51, of51 + (x10_36 : Int).toNat * 6 + 5, none⟩ = false := hfr51 5
           clear hcl51 hcc51 hfr51 hM51; replace p51 := eq_true p51; replace q51 := eq_true q51
           try go_wp2
           replace HO_9 := am (KQ.S_drew HO_9.out); replace BK274 := am (blk_drew BK274.out); replace BK275 := am (blk_drew BK275.out); replace HB := am (below_drew1 HB.out)
           have p285 : 0 ≤ (x10_36 : Int) := dga
           have q285 : x10_36 < (x9_36.length : Int) := dga
           obtain ⟨ad285, A285_2, c285_2, A285_3, c285_3, e285, hx285_0, hx285_1, hx285_2, hx285_3, hx285_4, hx285_5, hl285_2, hi285_2, hl285_3, hi285_3⟩ := at_T82 (KQ.S_reads' HO_9.out).2.2 x10_36 p285 q285; obtain rfl : (⟨go51, of51, none⟩ : Addr) = ad285 := (by injection e285); obtain ⟨ce285, hce285, hMe285, hcc285⟩ := KQ.S_get HO_9.out z82 x10_36 p285 B7q37_; obtain ⟨ve285_2, ve285_3, rfl, ge285_2, ge285_3⟩ := k82_openM hMe285; have hv285_2 := hcc285 2 _ rfl; rw [add_field _ _ 2 (by omega)] at hv285_2; replace hv285_2 := Option.some.inj (hv285_2.symm.trans hx285_2); rw [hv285_2] at ge285_2; have HL285_2 := am (show Kd.R Kd.string 9 _ _ _ _ ((rd_T82 x9_36 x10_36).f2) from ge285_2); clear hv285_2 ge285_2; have HX285_2 := am hx285_2; have hv285_3 := hcc285 3 _ rfl; rw [add_field _ _ 3 (by omega)] at hv285_3; replace hv285_3 := Option.some.inj (hv285_3.symm.trans hx285_3); rw [hv285_3] at ge285_3; have HL285_3 := am (show Kd.R (Kd.int .i64) 3 _ _ _ _ ((rd_T82 x9_36 x10_36).f3) from ge285_3); clear hv285_3 ge285_3; have HX285_3 := am hx285_3; clear hcc285 hce285
           (first | simp only [add_plain] at hx285_0 | simp only [add_at] at hx285_0 | simp only [Addr.add, Nat.zero_add] at hx285_0 | skip)
           (first | simp only [add_plain] at hx285_1 | simp only [add_at] at hx285_1 | simp only [Addr.add, Nat.zero_add] at hx285_1 | skip)
           (first | simp only [add_plain] at hx285_2 | simp only [add_at] at hx285_2 | simp only [Addr.add, Nat.zero_add] at hx285_2 | skip)
           (first | simp only [add_plain] at hx285_3 | simp only [add_at] at hx285_3 | simp only [Addr.add, Nat.zero_add] at hx285_3 | skip)
           (first | simp only [add_plain] at hx285_4 | simp only [add_at] at hx285_4 | simp only [Addr.add, Nat.zero_add] at hx285_4 | skip)
           (first | simp only [add_plain] at hx285_5 | simp only [add_at] at hx285_5 | simp only [Addr.add, Nat.zero_add] at hx285_5 | skip)
           have HR285_2 := am hi285_2; have HC285_2 := am hl285_2; clear hi285_2 hl285_2; have HR285_3 := am hi285_3; have HC285_3 := am hl285_3; clear hi285_3 hl285_3; replace p285 := eq_true p285; replace q285 := eq_true q285; refine start_ (n := 8) (S := fun w' => w'.cell? ⟨gb274, 0, none⟩ = some (.int .i64 a1_0) ∧ w'.cell? ⟨gb274, 1, none⟩ = some (.int .i64 a1_1) ∧ w'.cell? ⟨gb274, 2, none⟩ = some (.int .i64 a1_2) ∧ w'.cell? ⟨gb274, 3, none⟩ = some (.int .i64 a1_3) ∧ w'.cell? ⟨gb274, 4, none⟩ = some (.bool a1_4) ∧ w'.cell? ⟨gb274, 5, none⟩ = some (.string a1_5) ∧ w'.cell? ⟨go51, of51 + (x10_36).toNat * 6, none⟩ = some (.int .i64 ((rd_T82 x9_36 x10_36).f0)) ∧ w'.cell? ⟨go51, of51 + (x10_36).toNat * 6 + 1, none⟩ = some (.int .i64 ((rd_T82 x9_36 x10_36).f1)) ∧ w'.cell? ⟨go51, of51 + (x10_36).toNat * 6 + 2, none⟩ = some (.slice A285_2 ((rd_T82 x9_36 x10_36).f2).length c285_2) ∧ w'.cell? ⟨go51, of51 + (x10_36).toNat * 6 + 3, none⟩ = some (.slice A285_3 ((rd_T82 x9_36 x10_36).f3).length c285_3) ∧ w'.cell? ⟨go51, of51 + (x10_36).toNat * 6 + 4, none⟩ = some (.int .i64 ((rd_T82 x9_36 x10_36).f4)) ∧ w'.cell? ⟨go51, of51 + (x10_36).toNat * 6 + 5, none⟩ = some (.int .i64 ((rd_T82 x9_36 x10_36).f5))) (ds := []) #[false, false, false, false, false, false, false, false] gk_ rfl rfl ⟨(blk_cell BK274.out 0).trans rfl, (blk_cell BK274.out 1).trans rfl, (blk_cell BK274.out 2).trans rfl, (blk_cell BK274.out 3).trans rfl, (blk_cell BK274.out 4).trans rfl, (blk_cell BK274.out 5).trans rfl, hx285_0, hx285_1, hx285_2, hx285_3, hx285_4, hx285_5⟩ (fun hHeld => ?_); refine with_tabW impl_JoinBits.tab12 impl_JoinBits.bits12 (fun HT_ HW_ => ?_); generalize wc.drew = w61 at HO_9 BK274 BK275 HB HL285_2 HL285_3 HR285_2 HR285_3 HX285_2 HX285_3 hx285_0 hx285_1 hx285_2 hx285_3 hx285_4 hx285_5 hHeld ⊢; refine pu_ 0 63 HT_ ?_; refine pu_ 1 64 HT_ ?_; refine pu_ 2 65 HT_ ?_; refine pu_ 4 67 HT_ ?_; refine ta_ 3 66 HT_ HW_ hHeld ?_; refine ta_ 5 68 HT_ HW_ hHeld ?_; refine one_ (i := 6) (N := some 69) #[true, true, true, true, true, true, true, false] rfl rfl (one_of HT_.out gk_) (by decide) (fun K hK => ?_); refine goes_ Try.func101 gk_ rfl #[.slice A285_3 ((rd_T82 x9_36 x10_36).f3).length c285_3, .int .i64 a1_3] (by rfl) rfl rfl gm_ ?_
           with_reducible refine (slices_Contains_int_int.calls kj36 _ _ ((rd_T82 x9_36 x10_36).f3) a1_3 true _ ?side1 ?side2 A52.out).mono ?_
           (case side1 => exact (tc (td HR285_3.out)))
           (case side2 => exact HC285_3.out)
           rintro e w' ⟨rfl, ⟨nd, rfl⟩⟩; refine ⟨_, rfl, ?_⟩; refine hK.out _ _ ⟨(blk_cell BK274.out 0).trans rfl, (blk_cell BK274.out 1).trans rfl, (blk_cell BK274.out 2).trans rfl, (blk_cell BK274.out 3).trans rfl, (blk_cell BK274.out 4).trans rfl, (blk_cell BK274.out 5).trans rfl, hHeld.2.2.2.2.2.2.1, hHeld.2.2.2.2.2.2.2.1, hHeld.2.2.2.2.2.2.2.2.1, hHeld.2.2.2.2.2.2.2.2.2.1, hHeld.2.2.2.2.2.2.2.2.2.2.1, hHeld.2.2.2.2.2.2.2.2.2.2.2⟩ (fun hHeld => ?_); clear hK K; refine norm_ (a' := ?_) ?_ ?_; rotate_left
           ·show Act.put _ (some 69) _ = _; simp only [Act.put, List.setIfInBounds_toArray, List.set_cons_zero, List.set_cons_succ, i64_w, i32_w]; rfl
           refine pu_ 7 70 HT_ ?_; refine done_ (done_of HT_.out gk_) ?_
           have p287 : 0 ≤ (x10_36 : Int) := dga
           have q287 : x10_36 < (x9_36.length : Int) := dga
           obtain ⟨ad287, A287_2, c287_2, A287_3, c287_3, e287, hx287_0, hx287_1, hx287_2, hx287_3, hx287_4, hx287_5, hl287_2, hi287_2, hl287_3, hi287_3⟩ := at_T82 (KQ.S_reads' HO_9.out).2.2 x10_36 p287 q287; obtain rfl : (⟨go51, of51, none⟩ : Addr) = ad287 := (by injection e287); obtain ⟨ce287, hce287, hMe287, hcc287⟩ := KQ.S_get HO_9.out z82 x10_36 p287 B7q45_; obtain ⟨ve287_2, ve287_3, rfl, ge287_2, ge287_3⟩ := k82_openM hMe287; have hv287_2 := hcc287 2 _ rfl; rw [add_field _ _ 2 (by omega)] at hv287_2; replace hv287_2 := Option.some.inj (hv287_2.symm.trans hx287_2); rw [hv287_2] at ge287_2; have HL287_2 := am (show Kd.R Kd.string 9 _ _ _ _ ((rd_T82 x9_36 x10_36).f2) from ge287_2); clear hv287_2 ge287_2; have HX287_2 := am hx287_2; have hv287_3 := hcc287 3 _ rfl; rw [add_field _ _ 3 (by omega)] at hv287_3; replace hv287_3 := Option.some.inj (hv287_3.symm.trans hx287_3); rw [hv287_3] at ge287_3; have HL287_3 := am (show Kd.R (Kd.int .i64) 3 _ _ _ _ ((rd_T82 x9_36 x10_36).f3) from ge287_3); clear hv287_3 ge287_3; have HX287_3 := am hx287_3; clear hcc287 hce287
           (first | simp only [add_plain] at hx287_0 | simp only [add_at] at hx287_0 | simp only [Addr.add, Nat.zero_add] at hx287_0 | skip)
           (first | simp only [add_plain] at hx287_1 | simp only [add_at] at hx287_1 | simp only [Addr.add, Nat.zero_add] at hx287_1 | skip)
           (first | simp only [add_plain] at hx287_2 | simp only [add_at] at hx287_2 | simp only [Addr.add, Nat.zero_add] at hx287_2 | skip)
           (first | simp only [add_plain] at hx287_3 | simp only [add_at] at hx287_3 | simp only [Addr.add, Nat.zero_add] at hx287_3 | skip)
           (first | simp only [add_plain] at hx287_4 | simp only [add_at] at hx287_4 | simp only [Addr.add, Nat.zero_add] at hx287_4 | skip)
           (first | simp only [add_plain] at hx287_5 | simp only [add_at] at hx287_5 | simp only [Addr.add, Nat.zero_add] at hx287_5 | skip)
           have HR287_2 := am hi287_2; have HC287_2 := am hl287_2; clear hi287_2 hl287_2; have HR287_3 := am hi287_3; have HC287_3 := am hl287_3; clear hi287_3 hl287_3; replace p287 := eq_true p287; replace q287 := eq_true q287; have ea_ := Option.some.inj (hx285_2.symm.trans hx287_2)
           injection ea_ with ea_ en_ ec_
           subst ea_; subst ec_; clear en_; have ea_ := Option.some.inj (hx285_3.symm.trans hx287_3)
           injection ea_ with ea_ en_ ec_
           subst ea_; subst ec_; clear en_
           try go_wp2_with (first | ((with_reducible refine gate_callee (f := 102) rfl ?_); refine goesL_ (some 116) rfl rfl Try.func102 gk_ rfl #[.agg #[.int .i64 ((rd_T82 x9_36 x10_36).f0), .int .i64 ((rd_T82 x9_36 x10_36).f1), .slice A285_2 ((rd_T82 x9_36 x10_36).f2).length c285_2, .slice A285_3 ((rd_T82 x9_36 x10_36).f3).length c285_3, .int .i64 ((rd_T82 x9_36 x10_36).f4), .int .i64 ((rd_T82 x9_36 x10_36).f5)]] rfl gm_ ?_; (with_reducible refine (impl_whole.calls kj36 ((rd_T82 x9_36 x10_36).f0) ((rd_T82 x9_36 x10_36).f1) _ _ ((rd_T82 x9_36 x10_36).f2) _ _ ((rd_T82 x9_36 x10_36).f3) ((rd_T82 x9_36 x10_36).f4) ((rd_T82 x9_36 x10_36).f5) t288 true _ ?side1 ?side2 ?side3 ?side4 A54.out).mono ?_); (case side1 => exact (tc (td HR287_2.out))); (case side2 => exact HC287_2.out); (case side3 => exact (tc (td HR287_3.out))); (case side4 => exact HC287_3.out); rintro e w62 ⟨rfl, hb⟩; refine ⟨_, rfl, ?_⟩; replace HO_9 := am (KQ.S_below (tsq HO_9.out) hb); replace HL285_2 := am (Kd.R_below (tr HL285_2.out) hb); replace HL285_3 := am (Kd.R_below (tr HL285_3.out) hb); replace HL287_2 := am (Kd.R_below (tr HL287_2.out) hb); replace HL287_3 := am (Kd.R_below (tr HL287_3.out) hb); replace BK274 := am (bb BK274.out hb); replace BK275 := am (bb BK275.out hb); replace HR285_2 := am (cb HR285_2.out hb); replace HX285_2 := am (pw_cell_below hb HX285_2.out); replace HR285_3 := am (cb HR285_3.out hb); replace HX285_3 := am (pw_cell_below hb HX285_3.out); replace HR287_2 := am (cb HR287_2.out hb); replace HX287_2 := am (pw_cell_below hb HX287_2.out); replace HR287_3 := am (cb HR287_3.out hb); replace HX287_3 := am (pw_cell_below hb HX287_3.out); replace HB := am (below_step (te2 HB.out GE274.out GE275.out) hb); (try clear hb); (try clear hl)))
           replace HO_9 := am (KQ.S_drew HO_9.out); replace HL285_2 := am (Kd.R_drew HL285_2.out); replace HL285_3 := am (Kd.R_drew HL285_3.out); replace HL287_2 := am (Kd.R_drew HL287_2.out); replace HL287_3 := am (Kd.R_drew HL287_3.out); replace BK274 := am (blk_drew BK274.out); replace BK275 := am (blk_drew BK275.out); replace HR285_2 := am (Kd.C_drew HR285_2.out); replace HR285_3 := am (Kd.C_drew HR285_3.out); replace HR287_2 := am (Kd.C_drew HR287_2.out); replace HR287_3 := am (Kd.C_drew HR287_3.out); replace HB := am (below_drew1 HB.out)
           have q64 : (x10_36 : Int) ≤ ((x9_36.length : Int) : Int) := dga
           obtain ⟨i064, hi064, _, hsz64, _⟩ := info_parts info82
           have hroom64 : x9_36.length ≤ co51 := (KQ.S_reads' HO_9.out).2.1
           have hC64 : Kd.C k82 _ (some ⟨go51, of51, none⟩) x9_36.length x9_36 := (KQ.S_reads' HO_9.out).2.2
           have hcut64 := cut_to (P := Try.prog) 68 82 .i64 Try.underlying68 hi064 (some ⟨go51, of51, none⟩) x9_36.length co51 x10_36 (dga) q64 hroom64; have hr64 := Kd.C_take (m := (x10_36 : Int).toNat) hC64 (by omega)
           have hy64 : y290.length = (x10_36 : Int).toNat := (by rw [Ny290.out, List.length_take]; omega)
           rw [← Ny290.out] at hr64; rw [← hy64] at hcut64; have HR293 := am hr64; have HC293 := am (show y290.length ≤ co51 from (by omega)); clear hr64 hC64 hroom64 hi064 hsz64; have KY64 := am hy64; clear hy64; have KL64 := am (show (x10_36 : Int).toNat ≤ x9_36.length from (by omega)); replace q64 := eq_true q64
           have q65 : ((ji58) : Int) ≤ ((x9_36.length : Int) : Int) := dga
           obtain ⟨i065, hi065, _, hsz65, _⟩ := info_parts info82
           have hroom65 : x9_36.length ≤ co51 := (KQ.S_reads' HO_9.out).2.1
           have hC65 : Kd.C k82 _ (some ⟨go51, of51, none⟩) x9_36.length x9_36 := (KQ.S_reads' HO_9.out).2.2
           have q065 : (0 : Int) ≤ ((ji58) : Int) := dga
           have hcut65 := cut_from (P := Try.prog) 68 82 .i64 Try.underlying68 hi065 6 hsz65 (some ⟨go51, of51, none⟩) x9_36.length co51 (ji58) q065 q65; have hr65 := Kd.C_drop (m := ((ji58) : Int).toNat) (c := co51) hC65 (by omega) hroom65; obtain ⟨A65, hA65⟩ : ∃ A1, A1 = (if co51 = ((ji58) : Int).toNat then (some ⟨go51, of51, none⟩) else ((some ⟨go51, of51, none⟩) : Option Addr).map (·.add (((ji58) : Int).toNat * 6))) := ⟨_, rfl⟩; obtain ⟨c65, hc65⟩ : ∃ c1, c1 = co51 - ((ji58) : Int).toNat := ⟨_, rfl⟩
           have hy65 : y294.length = x9_36.length - ((ji58) : Int).toNat := (by rw [Ny294.out, List.length_drop] <;> omega)
           rw [show (x9_36).drop ((ji58) : Int).toNat = y294 from Ny294.out.symm] at hr65
           replace hr65 : Kd.C k82 _ A65 y294.length y294 := (by rw [hA65]; exact hr65)
           rw [← hy65, ← hA65, ← hc65] at hcut65; have HR297 := am hr65; have HC297 := am (show y294.length ≤ c65 from (by rw [hy65, hc65]; exact Nat.sub_le_sub_right hroom65 _)); clear hr65 hC65 hroom65 hi065 hsz65 hc65; have KY65 := am hy65; have KA65 := am hA65; clear hy65 hA65; have KL65 := am (show ((ji58) : Int).toNat ≤ x9_36.length from (by omega)); replace q65 := eq_true q65; refine start_ (n := 19) (S := fun w' => w'.cell? ⟨gb274, 0, none⟩ = some (.int .i64 a1_0) ∧ w'.cell? ⟨gb274, 1, none⟩ = some (.int .i64 a1_1) ∧ w'.cell? ⟨gb274, 2, none⟩ = some (.int .i64 a1_2) ∧ w'.cell? ⟨gb274, 3, none⟩ = some (.int .i64 a1_3) ∧ w'.cell? ⟨gb274, 4, none⟩ = some (.bool a1_4) ∧ w'.cell? ⟨gb274, 5, none⟩ = some (.string a1_5)) (ds := []) #[false, false, false, false, false, false, false, false, false, false, false, false, false, false, false, false, false, false, false] gk_ rfl rfl ⟨(blk_cell BK274.out 0).trans rfl, (blk_cell BK274.out 1).trans rfl, (blk_cell BK274.out 2).trans rfl, (blk_cell BK274.out 3).trans rfl, (blk_cell BK274.out 4).trans rfl, (blk_cell BK274.out 5).trans rfl⟩ (fun hHeld => ?_); refine with_tabW impl_JoinBits.tab20 impl_JoinBits.bits20 (fun HT_ HW_ => ?_); generalize w62.drew = w63 at HO_9 HL285_2 HL285_3 HL287_2 HL287_3 BK274 BK275 HR285_2 HR285_3 HR287_2 HR287_3 HB HR293 HR297 hHeld ⊢; refine pu_ 0 123 HT_ ?_; refine pu_ 1 124 HT_ ?_; refine pu_ 2 125 HT_ ?_; refine pu_ 3 126 HT_ ?_; refine pu_ 4 127 HT_ ?_; refine pu_ 5 128 HT_ ?_; refine pu_ 6 129 HT_ ?_; refine pu_ 8 131 HT_ ?_; refine pu_ 10 133 HT_ ?_; refine pu_ 12 135 HT_ ?_; refine pu_ 14 137 HT_ ?_; refine ta_ 9 132 HT_ HW_ hHeld ?_; refine ta_ 11 134 HT_ HW_ hHeld ?_; refine ta_ 13 136 HT_ HW_ hHeld ?_; refine pu_ 15 138 HT_ ?_; refine one_ (i := 7) (N := some 130) #[true, true, true, true, true, true, true, true, true, true, true, true, true, true, true, true, false, false, false] rfl rfl (one_of HT_.out gk_) (by decide) (fun K hK => ?_)
           have hj_ : 0 ≤ (x10_36 : Int) := dga
           have hl_ : (ji58 : Int) ≤ (x9_36.length : Int) := dga
           have hh_ : (x10_36 : Int) ≤ (x9_36.length : Int) := dga
           have hb_ := (KQ.S_reads' HO_9.out).2.2.2.1
           have h0_ : (0 : Int) ≤ (ji58 : Int) := dga
           have hy1_ := KY64.out
           have hk_ : (ji58 : Int).toNat = y290.length + 1 := (by (try (have hsy305_ := congrArg List.length Ny305.out; rw [List.length_set] at hsy305_)); (try (have hsy310_ := congrArg List.length Ny310.out; rw [List.length_set] at hsy310_)); (try (have hsy312_ := congrArg List.length Ny312.out; rw [List.length_set] at hsy312_)); have hw_ : (ji58 : Int) = x10_36 + 1 := (by have h00_ := h0_; rw [← hji58] at h00_ ⊢; unfold wrap64 at h00_ ⊢; omega); rw [hw_]; omega)
           refine KQ.S_delete_step k82 (w0 := w) w.heap.size (by rfl) (.tmp 125) (.tmp 129) 68 82 rfl Try.underlying68 gk_ (g := go51) (n := x9_36.length) (c := co51) (k := y290.length) rfl rfl ?hA ?hm (tsq HO_9.out) ?hk (te2 HB.out GE274.out GE275.out) (below_size (te2 HB.out GE274.out GE275.out)) ?_
           (case hA => have ha_ := KA65.out; rw [hk_] at ha_; exact ha_)
           (case hm => have ha_ := KY65.out; omega)
           (case hk => omega)
           intro w66 ho hb hg; clear hj_ hl_ hh_ hb_ hk_ h0_; rw [hy1_, ← Ny298.out] at ho; clear hy1_
           have hn_ : x9_36.length - 1 = y298.length := B7q50_
           rw [hn_] at ho ⊢; clear hn_; replace BK274 := am (blk_grown (g := gb274) (o := .cells #[.int .i64 a1_0, .int .i64 a1_1, .int .i64 a1_2, .int .i64 a1_3, .bool a1_4, .string a1_5] 62 (0, 0)) (tb BK274.out) hg (KQ.S_ne HO_9.out BK274.out (by decide))); replace BK275 := am (blk_grown (g := gb275) (o := .cells #[.int .i64 0, .int .i64 0, .int .i64 0, .int .i64 0, .bool false, .string (⟨#[]⟩ : ByteArray)] 62 (0, 0)) (tb BK275.out) hg (KQ.S_ne HO_9.out BK275.out (by decide))); replace HO_9 := am (ho); replace HL285_2 := am (Kd.R_after (v := (.slice (some ⟨go51, of51, none⟩) x9_36.length co51)) (v1 := .slice (some ⟨go51, of51, none⟩) y298.length co51) (ok := (fun _ => True)) (tr HL285_2.out) hg (.inl rfl)); replace HL285_3 := am (Kd.R_after (v := (.slice (some ⟨go51, of51, none⟩) x9_36.length co51)) (v1 := .slice (some ⟨go51, of51, none⟩) y298.length co51) (ok := (fun _ => True)) (tr HL285_3.out) hg (.inl rfl)); replace HL287_2 := am (Kd.R_after (v := (.slice (some ⟨go51, of51, none⟩) x9_36.length co51)) (v1 := .slice (some ⟨go51, of51, none⟩) y298.length co51) (ok := (fun _ => True)) (tr HL287_2.out) hg (.inl rfl)); replace HL287_3 := am (Kd.R_after (v := (.slice (some ⟨go51, of51, none⟩) x9_36.length co51)) (v1 := .slice (some ⟨go51, of51, none⟩) y298.length co51) (ok := (fun _ => True)) (tr HL287_3.out) hg (.inl rfl)); replace HB := am (hb); clear ho hb hg; refine hK.out _ _ ⟨(blk_cell BK274.out 0).trans rfl, (blk_cell BK274.out 1).trans rfl, (blk_cell BK274.out 2).trans rfl, (blk_cell BK274.out 3).trans rfl, (blk_cell BK274.out 4).trans rfl, (blk_cell BK274.out 5).trans rfl⟩ (fun hHeld => ?_); clear hK K; refine norm_ (a' := ?_) ?_ ?_; rotate_left
           ·show Act.put _ (some 130) _ = _; simp only [Act.put, List.setIfInBounds_toArray, List.set_cons_zero, List.set_cons_succ, i64_w, i32_w]; rfl
           refine pu_ 16 6 HT_ ?_; refine one_ (i := 17) (N := none) #[true, true, true, true, true, true, true, true, true, true, true, true, true, true, true, true, true, true, false] rfl rfl (one_of HT_.out gk_) (by decide) (fun K hK => ?_)
           have hs68 : w66.cell? ⟨gb275, 0, none⟩ = some (.int .i64 0) := (blk_cell BK275.out 0).trans rfl
           have hfs68 := blk_frozen BK275.out 0; have hns68_0 := NB274_275.out; have hms68_0 := NB275_274.out
           have hs69 : w66.cell? ⟨gb275, 1, none⟩ = some (.int .i64 0) := (blk_cell BK275.out 1).trans rfl
           have hfs69 := blk_frozen BK275.out 1; have hns69_0 := NB274_275.out; have hms69_0 := NB275_274.out
           have hs70 : w66.cell? ⟨gb275, 2, none⟩ = some (.int .i64 0) := (blk_cell BK275.out 2).trans rfl
           have hfs70 := blk_frozen BK275.out 2; have hns70_0 := NB274_275.out; have hms70_0 := NB275_274.out
           have hs71 : w66.cell? ⟨gb275, 3, none⟩ = some (.int .i64 0) := (blk_cell BK275.out 3).trans rfl
           have hfs71 := blk_frozen BK275.out 3; have hns71_0 := NB274_275.out; have hms71_0 := NB275_274.out
           have hs72 : w66.cell? ⟨gb275, 4, none⟩ = some (.bool false) := (blk_cell BK275.out 4).trans rfl
           have hfs72 := blk_frozen BK275.out 4; have hns72_0 := NB274_275.out; have hms72_0 := NB275_274.out
           have hs73 : w66.cell? ⟨gb275, 5, none⟩ = some (.string (⟨#[]⟩ : ByteArray)) := (blk_cell BK275.out 5).trans rfl
           have hfs73 := blk_frozen BK275.out 5; have hns73_0 := NB274_275.out; have hms73_0 := NB275_274.out; refine skip_ (w1 := ?_) (by rfl) rfl ?_ ?_; rotate_left
           ·go_simp; rfl
           refine hK.out _ _ ⟨((cell_far (p := ⟨gb275, _, none⟩) NB274_275.out _).trans (((cell_far (p := ⟨gb275, _, none⟩) NB274_275.out _).trans (((cell_far (p := ⟨gb275, _, none⟩) NB274_275.out _).trans (((cell_far (p := ⟨gb275, _, none⟩) NB274_275.out _).trans (((cell_far (p := ⟨gb275, _, none⟩) NB274_275.out _).trans (((cell_far (p := ⟨gb275, _, none⟩) NB274_275.out _).trans (hHeld.1)))))))))))), ((cell_far (p := ⟨gb275, _, none⟩) NB274_275.out _).trans (((cell_far (p := ⟨gb275, _, none⟩) NB274_275.out _).trans (((cell_far (p := ⟨gb275, _, none⟩) NB274_275.out _).trans (((cell_far (p := ⟨gb275, _, none⟩) NB274_275.out _).trans (((cell_far (p := ⟨gb275, _, none⟩) NB274_275.out _).trans (((cell_far (p := ⟨gb275, _, none⟩) NB274_275.out _).trans (hHeld.2.1)))))))))))), ((cell_far (p := ⟨gb275, _, none⟩) NB274_275.out _).trans (((cell_far (p := ⟨gb275, _, none⟩) NB274_275.out _).trans (((cell_far (p := ⟨gb275, _, none⟩) NB274_275.out _).trans (((cell_far (p := ⟨gb275, _, none⟩) NB274_275.out _).trans (((cell_far (p := ⟨gb275, _, none⟩) NB274_275.out _).trans (((cell_far (p := ⟨gb275, _, none⟩) NB274_275.out _).trans (hHeld.2.2.1)))))))))))), ((cell_far (p := ⟨gb275, _, none⟩) NB274_275.out _).trans (((cell_far (p := ⟨gb275, _, none⟩) NB274_275.out _).trans (((cell_far (p := ⟨gb275, _, none⟩) NB274_275.out _).trans (((cell_far (p := ⟨gb275, _, none⟩) NB274_275.out _).trans (((cell_far (p := ⟨gb275, _, none⟩) NB274_275.out _).trans (((cell_far (p := ⟨gb275, _, none⟩) NB274_275.out _).trans (hHeld.2.2.2.1)))))))))))), ((cell_far (p := ⟨gb275, _, none⟩) NB274_275.out _).trans (((cell_far (p := ⟨gb275, _, none⟩) NB274_275.out _).trans (((cell_far (p := ⟨gb275, _, none⟩) NB274_275.out _).trans (((cell_far (p := ⟨gb275, _, none⟩) NB274_275.out _).trans (((cell_far (p := ⟨gb275, _, none⟩) NB274_275.out _).trans (((cell_far (p := ⟨gb275, _, none⟩) NB274_275.out _).trans (hHeld.2.2.2.2.1)))))))))))), ((cell_far (p := ⟨gb275, _, none⟩) NB274_275.out _).trans (((cell_far (p := ⟨gb275, _, none⟩) NB274_275.out _).trans (((cell_far (p := ⟨gb275, _, none⟩) NB274_275.out _).trans (((cell_far (p := ⟨gb275, _, none⟩) NB274_275.out _).trans (((cell_far (p := ⟨gb275, _, none⟩) NB274_275.out _).trans (((cell_far (p := ⟨gb275, _, none⟩) NB274_275.out _).trans (hHeld.2.2.2.2.2))))))))))))⟩ (fun hHeld => ?_); clear hK K; refine pu_ 18 8 HT_ ?_; refine done_ (done_of HT_.out gk_) ?_
           try go_wp2
           refine bodyPost_ret (results_list (rs := [.tmp 6, .cell 7 62, .tmp 8]) rfl (by simp) (.tmp (.cell gb275 62 #[.int .i64 a1_0, .int .i64 a1_1, .int .i64 a1_2, .int .i64 0, .bool false, .string t288] (0, 0) _ rfl (tp0 BK275.out) Try.underlying62 rfl gk_ (.tmp .nil)))) rfl ?_
           exact ⟨_, (by first | rfl | (simp [errW_none, errW_some] <;> rfl) | (simp only [← hji58]; first | rfl | (simp [errW_none, errW_some] <;> rfl)) | (simp [*, errW_none, errW_some] <;> rfl)), (by (with_reducible repeat (first | apply KQ.S_alloc | apply KQ.S_drewN | apply KQ.S_drew)); exact KQ.S_mono (KQ.S_far (p := ⟨gb275, 5, none⟩) (KQ.S_far (p := ⟨gb275, 4, none⟩) (KQ.S_far (p := ⟨gb275, 3, none⟩) (KQ.S_far (p := ⟨gb275, 2, none⟩) (KQ.S_far (p := ⟨gb275, 1, none⟩) (KQ.S_far (p := ⟨gb275, 0, none⟩) (KQ.S_types HO_9.out BK275.out (by decide)) (fun _ hk => hk.2) (.int .i64 a1_0)) (fun _ hk => hk.2) (.int .i64 a1_1)) (fun _ hk => hk.2) (.int .i64 a1_2)) (fun _ hk => hk.2) (.int .i64 0)) (fun _ hk => hk.2) (.bool false)) (fun _ hk => hk.2) (.string t288)) (fun _ hk => trivial)), (te2 HB.out GE274.out GE275.out)⟩
          ·replace c55 := Bool.eq_false_iff.mpr c55; subst c55; rw [if_neg (show ¬ (false = true) by decide)] at H; simp only [Option.some.injEq, Prod.mk.injEq] at H; obtain ⟨rfl, rfl, rfl, rfl, rfl, rfl, rfl, rfl⟩ := H
           have p51 : 0 ≤ (x10_36 : Int) := dga
           have q51 : (x10_36 : Int) < ((x9_36.length : Int) : Int) := dga
           obtain ⟨go51, of51, co51, eo51, gb51, gl51, cl51, HG51⟩ := KQ.S_form HO_9.out (by omega)
           (first | cases eo51 | (injection eo51 with ea_ en_ ec_; (first | subst ea_ | (injection ea_ with ea_; subst ea_)); subst ec_; clear en_))
           have GB51 := am gb51; have GG51 := am HG51; clear gb51 gl51 HG51; obtain ⟨_, ce51, hcl51, hM51, hcc51, hfr51, _, _⟩ := KQ.S_elem HO_9.out z82 (x10_36 : Int) p51 q51; obtain ⟨ve51_2, ve51_3, rfl, ge51_2, ge51_3⟩ := k82_openM hM51
           have hx51_0 : wc.cell? ⟨go51, of51 + (x10_36 : Int).toNat * 6, none⟩ = some (.int .i64 ((rd_T82 x9_36 x10_36).f0)) := hcc51 0 _ rfl
           have hx51_1 : wc.cell? ⟨go51, of51 + (x10_36 : Int).toNat * 6 + 1, none⟩ = some (.int .i64 ((rd_T82 x9_36 x10_36).f1)) := hcc51 1 _ rfl
           have hx51_2 : wc.cell? ⟨go51, of51 + (x10_36 : Int).toNat * 6 + 2, none⟩ = some (ve51_2) := hcc51 2 _ rfl
           have hx51_3 : wc.cell? ⟨go51, of51 + (x10_36 : Int).toNat * 6 + 3, none⟩ = some (ve51_3) := hcc51 3 _ rfl
           have hx51_4 : wc.cell? ⟨go51, of51 + (x10_36 : Int).toNat * 6 + 4, none⟩ = some (.int .i64 ((rd_T82 x9_36 x10_36).f4)) := hcc51 4 _ rfl
           have hx51_5 : wc.cell? ⟨go51, of51 + (x10_36 : Int).toNat * 6 + 5, none⟩ = some (.int .i64 ((rd_T82 x9_36 x10_36).f5)) := hcc51 5 _ rfl
           have hf51_0 : wc.frozen? ⟨go51, of51 + (x10_36 : Int).toNat * 6, none⟩ = false := hfr51 0
           have hf51_1 : wc.frozen? ⟨go51, of51 + (x10_36 : Int).toNat * 6 + 1, none⟩ = false := hfr51 1
           have hf51_2 : wc.frozen? ⟨go51, of51 + (x10_36 : Int).toNat * 6 + 2, none⟩ = false := hfr51 2
           have hf51_3 : wc.frozen? ⟨go51, of51 + (x10_36 : Int).toNat * 6 + 3, none⟩ = false := hfr51 3
           have hf51_4 : wc.frozen? ⟨go51, of51 + (x10_36 : Int).toNat * 6 + 4, none⟩ = false := hfr51 4
           have hf51_5 : wc.frozen? ⟨go51, of51 + (x10_36 : Int).toNat * 6 + 5, none⟩ = false := hfr51 5
           clear hcl51 hcc51 hfr51 hM51; replace p51 := eq_true p51; replace q51 := eq_true q51
           try go_wp2
           replace HO_9 := am (KQ.S_drew HO_9.out); replace BK274 := am (blk_drew BK274.out); replace BK275 := am (blk_drew BK275.out); replace HB := am (below_drew1 HB.out)
           have p285 : 0 ≤ (x10_36 : Int) := dga
           have q285 : x10_36 < (x9_36.length : Int) := dga
           obtain ⟨ad285, A285_2, c285_2, A285_3, c285_3, e285, hx285_0, hx285_1, hx285_2, hx285_3, hx285_4, hx285_5, hl285_2, hi285_2, hl285_3, hi285_3⟩ := at_T82 (KQ.S_reads' HO_9.out).2.2 x10_36 p285 q285; obtain rfl : (⟨go51, of51, none⟩ : Addr) = ad285 := (by injection e285); obtain ⟨ce285, hce285, hMe285, hcc285⟩ := KQ.S_get HO_9.out z82 x10_36 p285 B7q37_; obtain ⟨ve285_2, ve285_3, rfl, ge285_2, ge285_3⟩ := k82_openM hMe285; have hv285_2 := hcc285 2 _ rfl; rw [add_field _ _ 2 (by omega)] at hv285_2; replace hv285_2 := Option.some.inj (hv285_2.symm.trans hx285_2); rw [hv285_2] at ge285_2; have HL285_2 := am (show Kd.R Kd.string 9 _ _ _ _ ((rd_T82 x9_36 x10_36).f2) from ge285_2); clear hv285_2 ge285_2; have HX285_2 := am hx285_2; have hv285_3 := hcc285 3 _ rfl; rw [add_field _ _ 3 (by omega)] at hv285_3; replace hv285_3 := Option.some.inj (hv285_3.symm.trans hx285_3); rw [hv285_3] at ge285_3; have HL285_3 := am (show Kd.R (Kd.int .i64) 3 _ _ _ _ ((rd_T82 x9_36 x10_36).f3) from ge285_3); clear hv285_3 ge285_3; have HX285_3 := am hx285_3; clear hcc285 hce285
           (first | simp only [add_plain] at hx285_0 | simp only [add_at] at hx285_0 | simp only [Addr.add, Nat.zero_add] at hx285_0 | skip)
           (first | simp only [add_plain] at hx285_1 | simp only [add_at] at hx285_1 | simp only [Addr.add, Nat.zero_add] at hx285_1 | skip)
           (first | simp only [add_plain] at hx285_2 | simp only [add_at] at hx285_2 | simp only [Addr.add, Nat.zero_add] at hx285_2 | skip)
           (first | simp only [add_plain] at hx285_3 | simp only [add_at] at hx285_3 | simp only [Addr.add, Nat.zero_add] at hx285_3 | skip)
           (first | simp only [add_plain] at hx285_4 | simp only [add_at] at hx285_4 | simp only [Addr.add, Nat.zero_add] at hx285_4 | skip)
           (first | simp only [add_plain] at hx285_5 | simp only [add_at] at hx285_5 | simp only [Addr.add, Nat.zero_add] at hx285_5 | skip)
           have HR285_2 := am hi285_2; have HC285_2 := am hl285_2; clear hi285_2 hl285_2; have HR285_3 := am hi285_3; have HC285_3 := am hl285_3; clear hi285_3 hl285_3; replace p285 := eq_true p285; replace q285 := eq_true q285; refine start_ (n := 8) (S := fun w' => w'.cell? ⟨gb274, 0, none⟩ = some (.int .i64 a1_0) ∧ w'.cell? ⟨gb274, 1, none⟩ = some (.int .i64 a1_1) ∧ w'.cell? ⟨gb274, 2, none⟩ = some (.int .i64 a1_2) ∧ w'.cell? ⟨gb274, 3, none⟩ = some (.int .i64 a1_3) ∧ w'.cell? ⟨gb274, 4, none⟩ = some (.bool a1_4) ∧ w'.cell? ⟨gb274, 5, none⟩ = some (.string a1_5) ∧ w'.cell? ⟨go51, of51 + (x10_36).toNat * 6, none⟩ = some (.int .i64 ((rd_T82 x9_36 x10_36).f0)) ∧ w'.cell? ⟨go51, of51 + (x10_36).toNat * 6 + 1, none⟩ = some (.int .i64 ((rd_T82 x9_36 x10_36).f1)) ∧ w'.cell? ⟨go51, of51 + (x10_36).toNat * 6 + 2, none⟩ = some (.slice A285_2 ((rd_T82 x9_36 x10_36).f2).length c285_2) ∧ w'.cell? ⟨go51, of51 + (x10_36).toNat * 6 + 3, none⟩ = some (.slice A285_3 ((rd_T82 x9_36 x10_36).f3).length c285_3) ∧ w'.cell? ⟨go51, of51 + (x10_36).toNat * 6 + 4, none⟩ = some (.int .i64 ((rd_T82 x9_36 x10_36).f4)) ∧ w'.cell? ⟨go51, of51 + (x10_36).toNat * 6 + 5, none⟩ = some (.int .i64 ((rd_T82 x9_36 x10_36).f5))) (ds := []) #[false, false, false, false, false, false, false, false] gk_ rfl rfl ⟨(blk_cell BK274.out 0).trans rfl, (blk_cell BK274.out 1).trans rfl, (blk_cell BK274.out 2).trans rfl, (blk_cell BK274.out 3).trans rfl, (blk_cell BK274.out 4).trans rfl, (blk_cell BK274.out 5).trans rfl, hx285_0, hx285_1, hx285_2, hx285_3, hx285_4, hx285_5⟩ (fun hHeld => ?_); refine with_tabW impl_JoinBits.tab12 impl_JoinBits.bits12 (fun HT_ HW_ => ?_); generalize wc.drew = w74 at HO_9 BK274 BK275 HB HL285_2 HL285_3 HR285_2 HR285_3 HX285_2 HX285_3 hx285_0 hx285_1 hx285_2 hx285_3 hx285_4 hx285_5 hHeld ⊢; refine pu_ 0 63 HT_ ?_; refine pu_ 1 64 HT_ ?_; refine pu_ 2 65 HT_ ?_; refine pu_ 4 67 HT_ ?_; refine ta_ 3 66 HT_ HW_ hHeld ?_; refine ta_ 5 68 HT_ HW_ hHeld ?_; refine one_ (i := 6) (N := some 69) #[true, true, true, true, true, true, true, false] rfl rfl (one_of HT_.out gk_) (by decide) (fun K hK => ?_); refine goes_ Try.func101 gk_ rfl #[.slice A285_3 ((rd_T82 x9_36 x10_36).f3).length c285_3, .int .i64 a1_3] (by rfl) rfl rfl gm_ ?_
           with_reducible refine (slices_Contains_int_int.calls kj36 _ _ ((rd_T82 x9_36 x10_36).f3) a1_3 true _ ?side1 ?side2 A52.out).mono ?_
           (case side1 => exact (tc (td HR285_3.out)))
           (case side2 => exact HC285_3.out)
           rintro e w' ⟨rfl, ⟨nd, rfl⟩⟩; refine ⟨_, rfl, ?_⟩; refine hK.out _ _ ⟨(blk_cell BK274.out 0).trans rfl, (blk_cell BK274.out 1).trans rfl, (blk_cell BK274.out 2).trans rfl, (blk_cell BK274.out 3).trans rfl, (blk_cell BK274.out 4).trans rfl, (blk_cell BK274.out 5).trans rfl, hHeld.2.2.2.2.2.2.1, hHeld.2.2.2.2.2.2.2.1, hHeld.2.2.2.2.2.2.2.2.1, hHeld.2.2.2.2.2.2.2.2.2.1, hHeld.2.2.2.2.2.2.2.2.2.2.1, hHeld.2.2.2.2.2.2.2.2.2.2.2⟩ (fun hHeld => ?_); clear hK K; refine norm_ (a' := ?_) ?_ ?_; rotate_left
           ·show Act.put _ (some 69) _ = _; simp only [Act.put, List.setIfInBounds_toArray, List.set_cons_zero, List.set_cons_succ, i64_w, i32_w]; rfl
           refine pu_ 7 70 HT_ ?_; refine done_ (done_of HT_.out gk_) ?_
           have p287 : 0 ≤ (x10_36 : Int) := dga
           have q287 : x10_36 < (x9_36.length : Int) := dga
           obtain ⟨ad287, A287_2, c287_2, A287_3, c287_3, e287, hx287_0, hx287_1, hx287_2, hx287_3, hx287_4, hx287_5, hl287_2, hi287_2, hl287_3, hi287_3⟩ := at_T82 (KQ.S_reads' HO_9.out).2.2 x10_36 p287 q287; obtain rfl : (⟨go51, of51, none⟩ : Addr) = ad287 := (by injection e287); obtain ⟨ce287, hce287, hMe287, hcc287⟩ := KQ.S_get HO_9.out z82 x10_36 p287 B7q45_; obtain ⟨ve287_2, ve287_3, rfl, ge287_2, ge287_3⟩ := k82_openM hMe287; have hv287_2 := hcc287 2 _ rfl; rw [add_field _ _ 2 (by omega)] at hv287_2; replace hv287_2 := Option.some.inj (hv287_2.symm.trans hx287_2); rw [hv287_2] at ge287_2; have HL287_2 := am (show Kd.R Kd.string 9 _ _ _ _ ((rd_T82 x9_36 x10_36).f2) from ge287_2); clear hv287_2 ge287_2; have HX287_2 := am hx287_2; have hv287_3 := hcc287 3 _ rfl; rw [add_field _ _ 3 (by omega)] at hv287_3; replace hv287_3 := Option.some.inj (hv287_3.symm.trans hx287_3); rw [hv287_3] at ge287_3; have HL287_3 := am (show Kd.R (Kd.int .i64) 3 _ _ _ _ ((rd_T82 x9_36 x10_36).f3) from ge287_3); clear hv287_3 ge287_3; have HX287_3 := am hx287_3; clear hcc287 hce287
           (first | simp only [add_plain] at hx287_0 | simp only [add_at] at hx287_0 | simp only [Addr.add, Nat.zero_add] at hx287_0 | skip)
           (first | simp only [add_plain] at hx287_1 | simp only [add_at] at hx287_1 | simp only [Addr.add, Nat.zero_add] at hx287_1 | skip)
           (first | simp only [add_plain] at hx287_2 | simp only [add_at] at hx287_2 | simp only [Addr.add, Nat.zero_add] at hx287_2 | skip)
           (first | simp only [add_plain] at hx287_3 | simp only [add_at] at hx287_3 | simp only [Addr.add, Nat.zero_add] at hx287_3 | skip)
           (first | simp only [add_plain] at hx287_4 | simp only [add_at] at hx287_4 | simp only [Addr.add, Nat.zero_add] at hx287_4 | skip)
           (first | simp only [add_plain] at hx287_5 | simp only [add_at] at hx287_5 | simp only [Addr.add, Nat.zero_add] at hx287_5 | skip)
           have HR287_2 := am hi287_2; have HC287_2 := am hl287_2; clear hi287_2 hl287_2; have HR287_3 := am hi287_3; have HC287_3 := am hl287_3; clear hi287_3 hl287_3; replace p287 := eq_true p287; replace q287 := eq_true q287; have ea_ := Option.some.inj (hx285_2.symm.trans hx287_2)
           injection ea_ with ea_ en_ ec_
           subst ea_; subst ec_; clear en_; have ea_ := Option.some.inj (hx285_3.symm.trans hx287_3)
           injection ea_ with ea_ en_ ec_
           subst ea_; subst ec_; clear en_
           try go_wp2_with (first | ((with_reducible refine gate_callee (f := 102) rfl ?_); refine goesL_ (some 116) rfl rfl Try.func102 gk_ rfl #[.agg #[.int .i64 ((rd_T82 x9_36 x10_36).f0), .int .i64 ((rd_T82 x9_36 x10_36).f1), .slice A285_2 ((rd_T82 x9_36 x10_36).f2).length c285_2, .slice A285_3 ((rd_T82 x9_36 x10_36).f3).length c285_3, .int .i64 ((rd_T82 x9_36 x10_36).f4), .int .i64 ((rd_T82 x9_36 x10_36).f5)]] rfl gm_ ?_; (with_reducible refine (impl_whole.calls kj36 ((rd_T82 x9_36 x10_36).f0) ((rd_T82 x9_36 x10_36).f1) _ _ ((rd_T82 x9_36 x10_36).f2) _ _ ((rd_T82 x9_36 x10_36).f3) ((rd_T82 x9_36 x10_36).f4) ((rd_T82 x9_36 x10_36).f5) t288 false _ ?side1 ?side2 ?side3 ?side4 A54.out).mono ?_); (case side1 => exact (tc (td HR287_2.out))); (case side2 => exact HC287_2.out); (case side3 => exact (tc (td HR287_3.out))); (case side4 => exact HC287_3.out); rintro e w75 ⟨rfl, hb⟩; refine ⟨_, rfl, ?_⟩; replace HO_9 := am (KQ.S_below (tsq HO_9.out) hb); replace HL285_2 := am (Kd.R_below (tr HL285_2.out) hb); replace HL285_3 := am (Kd.R_below (tr HL285_3.out) hb); replace HL287_2 := am (Kd.R_below (tr HL287_2.out) hb); replace HL287_3 := am (Kd.R_below (tr HL287_3.out) hb); replace BK274 := am (bb BK274.out hb); replace BK275 := am (bb BK275.out hb); replace HR285_2 := am (cb HR285_2.out hb); replace HX285_2 := am (pw_cell_below hb HX285_2.out); replace HR285_3 := am (cb HR285_3.out hb); replace HX285_3 := am (pw_cell_below hb HX285_3.out); replace HR287_2 := am (cb HR287_2.out hb); replace HX287_2 := am (pw_cell_below hb HX287_2.out); replace HR287_3 := am (cb HR287_3.out hb); replace HX287_3 := am (pw_cell_below hb HX287_3.out); replace HB := am (below_step (te2 HB.out GE274.out GE275.out) hb); (try clear hb); (try clear hl); have hnb76 := NB275_274.out; have hnc76 := NB274_275.out; obtain ⟨hcz77_0, hcz77_1, hcz77_2, hcz77_3, hcz77_4, hcz77_5⟩ := cl6 BK275.out; obtain ⟨hfz77_0, hfz77_1, hfz77_2, hfz77_3, hfz77_4, hfz77_5⟩ := fr6 BK275.out) | ((with_reducible refine gate_store (t := 62) (p := 7) rfl ?_); refine store_event (t := 62) (p := 7) (v := ?vo_w78) (w1 := ((((((w75.setCell ⟨gb275, 0, none⟩ (.int .i64 0)).setCell ⟨gb275, 1, none⟩ (.int .i64 0)).setCell ⟨gb275, 2, none⟩ (.int .i64 0)).setCell ⟨gb275, 3, none⟩ (.int .i64 0)).setCell ⟨gb275, 4, none⟩ (.bool false)).setCell ⟨gb275, 5, none⟩ (.string (⟨#[]⟩ : ByteArray)))) ?hg ?ho ?hn ?hr ?_; (case ho => rfl); (case hg => rfl); (case hn => rfl); (case hr => exact gs_); intro w78 hw; replace HO_9 : Aside0 (KQ.S k82 82 w78 w.heap.size (fun _ => True) (.slice (some ⟨go51, of51, none⟩) x9_36.length co51) x9_36) := ⟨B7q5_⟩; replace HL285_2 : Aside0 (Kd.R Kd.string 9 w78 w.heap.size (fun k_ => some k_ ≠ (.slice (some ⟨go51, of51, none⟩) x9_36.length co51 : Value).ownBlock) (.slice A285_2 ((rd_T82 x9_36 x10_36).f2).length c285_2) ((rd_T82 x9_36 x10_36).f2)) := ⟨(by rw [hw]; exact (by (with_reducible repeat (first | apply Kd.R_alloc | apply Kd.R_drewN | apply Kd.R_drew)); exact Kd.R_mono (Kd.R_far (p := ⟨gb275, 5, none⟩) (Kd.R_far (p := ⟨gb275, 4, none⟩) (Kd.R_far (p := ⟨gb275, 3, none⟩) (Kd.R_far (p := ⟨gb275, 2, none⟩) (Kd.R_far (p := ⟨gb275, 1, none⟩) (Kd.R_far (p := ⟨gb275, 0, none⟩) (Kd.R_types HL285_2.out BK275.out (by decide)) (fun _ hk => hk.2) (.int .i64 0)) (fun _ hk => hk.2) (.int .i64 0)) (fun _ hk => hk.2) (.int .i64 0)) (fun _ hk => hk.2) (.int .i64 0)) (fun _ hk => hk.2) (.bool false)) (fun _ hk => hk.2) (.string (⟨#[]⟩ : ByteArray))) (fun _ hk => hk.1.2)))⟩; replace HL285_3 : Aside0 (Kd.R (Kd.int .i64) 3 w78 w.heap.size (fun k_ => some k_ ≠ (.slice (some ⟨go51, of51, none⟩) x9_36.length co51 : Value).ownBlock) (.slice A285_3 ((rd_T82 x9_36 x10_36).f3).length c285_3) ((rd_T82 x9_36 x10_36).f3)) := ⟨(by rw [hw]; exact (by (with_reducible repeat (first | apply Kd.R_alloc | apply Kd.R_drewN | apply Kd.R_drew)); exact Kd.R_mono (Kd.R_far (p := ⟨gb275, 5, none⟩) (Kd.R_far (p := ⟨gb275, 4, none⟩) (Kd.R_far (p := ⟨gb275, 3, none⟩) (Kd.R_far (p := ⟨gb275, 2, none⟩) (Kd.R_far (p := ⟨gb275, 1, none⟩) (Kd.R_far (p := ⟨gb275, 0, none⟩) (Kd.R_types HL285_3.out BK275.out (by decide)) (fun _ hk => hk.2) (.int .i64 0)) (fun _ hk => hk.2) (.int .i64 0)) (fun _ hk => hk.2) (.int .i64 0)) (fun _ hk => hk.2) (.int .i64 0)) (fun _ hk => hk.2) (.bool false)) (fun _ hk => hk.2) (.string (⟨#[]⟩ : ByteArray))) (fun _ hk => hk.1.2)))⟩; replace HL287_2 : Aside0 (Kd.R Kd.string 9 w78 w.heap.size (fun k_ => some k_ ≠ (.slice (some ⟨go51, of51, none⟩) x9_36.length co51 : Value).ownBlock) (.slice A285_2 ((rd_T82 x9_36 x10_36).f2).length c285_2) ((rd_T82 x9_36 x10_36).f2)) := ⟨(by rw [hw]; exact (by (with_reducible repeat (first | apply Kd.R_alloc | apply Kd.R_drewN | apply Kd.R_drew)); exact Kd.R_mono (Kd.R_far (p := ⟨gb275, 5, none⟩) (Kd.R_far (p := ⟨gb275, 4, none⟩) (Kd.R_far (p := ⟨gb275, 3, none⟩) (Kd.R_far (p := ⟨gb275, 2, none⟩) (Kd.R_far (p := ⟨gb275, 1, none⟩) (Kd.R_far (p := ⟨gb275, 0, none⟩) (Kd.R_types HL287_2.out BK275.out (by decide)) (fun _ hk => hk.2) (.int .i64 0)) (fun _ hk => hk.2) (.int .i64 0)) (fun _ hk => hk.2) (.int .i64 0)) (fun _ hk => hk.2) (.int .i64 0)) (fun _ hk => hk.2) (.bool false)) (fun _ hk => hk.2) (.string (⟨#[]⟩ : ByteArray))) (fun _ hk => hk.1.2)))⟩; replace HL287_3 : Aside0 (Kd.R (Kd.int .i64) 3 w78 w.heap.size (fun k_ => some k_ ≠ (.slice (some ⟨go51, of51, none⟩) x9_36.length co51 : Value).ownBlock) (.slice A285_3 ((rd_T82 x9_36 x10_36).f3).length c285_3) ((rd_T82 x9_36 x10_36).f3)) := ⟨(by rw [hw]; exact (by (with_reducible repeat (first | apply Kd.R_alloc | apply Kd.R_drewN | apply Kd.R_drew)); exact Kd.R_mono (Kd.R_far (p := ⟨gb275, 5, none⟩) (Kd.R_far (p := ⟨gb275, 4, none⟩) (Kd.R_far (p := ⟨gb275, 3, none⟩) (Kd.R_far (p := ⟨gb275, 2, none⟩) (Kd.R_far (p := ⟨gb275, 1, none⟩) (Kd.R_far (p := ⟨gb275, 0, none⟩) (Kd.R_types HL287_3.out BK275.out (by decide)) (fun _ hk => hk.2) (.int .i64 0)) (fun _ hk => hk.2) (.int .i64 0)) (fun _ hk => hk.2) (.int .i64 0)) (fun _ hk => hk.2) (.int .i64 0)) (fun _ hk => hk.2) (.bool false)) (fun _ hk => hk.2) (.string (⟨#[]⟩ : ByteArray))) (fun _ hk => hk.1.2)))⟩; replace BK274 : Aside0 (w78.heap[gb274]? = some (.cells #[.int .i64 a1_0, .int .i64 a1_1, .int .i64 a1_2, .int .i64 a1_3, .bool a1_4, .string a1_5] 62 (0, 0))) := ⟨(wtp1 BK274.out NB274_275.out)⟩; replace BK275 : Aside0 (w78.heap[gb275]? = some (.cells #[.int .i64 0, .int .i64 0, .int .i64 0, .int .i64 0, .bool false, .string (⟨#[]⟩ : ByteArray)] 62 (0, 0))) := ⟨BJ7x52_⟩; replace HB : Aside0 (Below w.heap.size w w78) := ⟨BJ7x51_⟩; clear hw))
           refine bodyPost_ret (results_list (rs := [.tmp 6, .cell 7 62, .tmp 8]) rfl (by simp) (.tmp (.cell gb275 62 #[.int .i64 0, .int .i64 0, .int .i64 0, .int .i64 0, .bool false, .string (⟨#[]⟩ : ByteArray)] (0, 0) _ rfl (tb BK275.out) Try.underlying62 rfl gk_ (.tmp .nil)))) rfl ?_; exact ⟨_, BJ7x24_, (tsq HO_9.out), (te2 HB.out GE274.out GE275.out)⟩
         ·replace c53 := Bool.eq_false_iff.mpr c53; subst c53; rw [if_neg (show ¬ (false = true) by decide)] at H
          by_cases c79 : ((rd_T82 x9_36 x10_36).f3).length < 17592186044416
          rotate_left
          ·rw [if_neg c79] at H; exact absurd H (by simp)
          rw [if_pos c79] at H; have LMc79 := am c79; clear c79; obtain ⟨y302, hy302⟩ : ∃ y_ : List Int, y_ = (((rd_T82 x9_36 x10_36).f3) ++ [a1_3]) := ⟨_, rfl⟩
          replace H : ((some (x9_36.set (x10_36 : Int).toNat (⟨(rd_T82 x9_36 x10_36).f0, (rd_T82 x9_36 x10_36).f1, (rd_T82 x9_36 x10_36).f2, y302, (rd_T82 x9_36 x10_36).f4, (rd_T82 x9_36 x10_36).f5⟩ : S82) : List (S82))).bind fun y305 => (if ((rd_T82 y305 x10_36).f2).length < 8796093022208 then ((some (y305.set (x10_36 : Int).toNat (⟨(rd_T82 y305 x10_36).f0, (rd_T82 y305 x10_36).f1, (((rd_T82 y305 x10_36).f2) ++ [a1_5]), (rd_T82 y305 x10_36).f3, (rd_T82 y305 x10_36).f4, (rd_T82 y305 x10_36).f5⟩ : S82) : List (S82))).bind fun y310 => (if a1_4 = true then (impl_JoinBits.j3 kj36 y310 x10_36 false a1_0 a1_1 a1_2 a1_3 a1_4 a1_5) else (impl_JoinBits.j3 kj36 y310 x10_36 (((rd_T82 y310 x10_36).f4) == 0) a1_0 a1_1 a1_2 a1_3 a1_4 a1_5))) else (none))) = some (r1, r2, r3, r4, r5, r6, r7, r8) := by first | (rw [hy302]; with_reducible exact H) | (have H2_ := (Option.bind_some _ _).symm.trans H; rw [hy302]; with_reducible exact H2_) | (have H2_ := (Option.bind_some _ _).symm.trans H; with_reducible exact H2_) | with_reducible exact H | (rw [hy302]; exact H) | exact H
          have Ny302 := am hy302; clear hy302; obtain ⟨y305, hy305⟩ : ∃ y_ : List (S82), y_ = (x9_36.set (x10_36 : Int).toNat (⟨(rd_T82 x9_36 x10_36).f0, (rd_T82 x9_36 x10_36).f1, (rd_T82 x9_36 x10_36).f2, y302, (rd_T82 x9_36 x10_36).f4, (rd_T82 x9_36 x10_36).f5⟩ : S82)) := ⟨_, rfl⟩
          replace H : (if ((rd_T82 y305 x10_36).f2).length < 8796093022208 then ((some (y305.set (x10_36 : Int).toNat (⟨(rd_T82 y305 x10_36).f0, (rd_T82 y305 x10_36).f1, (((rd_T82 y305 x10_36).f2) ++ [a1_5]), (rd_T82 y305 x10_36).f3, (rd_T82 y305 x10_36).f4, (rd_T82 y305 x10_36).f5⟩ : S82) : List (S82))).bind fun y310 => (if a1_4 = true then (impl_JoinBits.j3 kj36 y310 x10_36 false a1_0 a1_1 a1_2 a1_3 a1_4 a1_5) else (impl_JoinBits.j3 kj36 y310 x10_36 (((rd_T82 y310 x10_36).f4) == 0) a1_0 a1_1 a1_2 a1_3 a1_4 a1_5))) else (none)) = some (r1, r2, r3, r4, r5, r6, r7, r8) := by first | (rw [hy305]; with_reducible exact H) | (have H2_ := (Option.bind_some _ _).symm.trans H; rw [hy305]; with_reducible exact H2_) | (have H2_ := (Option.bind_some _ _).symm.trans H; with_reducible exact H2_) | with_reducible exact H | (rw [hy305]; exact H) | exact H
          have Ny305 := am hy305; clear hy305
          by_cases c81 : ((rd_T82 y305 x10_36).f2).length < 8796093022208
          rotate_left
          ·rw [if_neg c81] at H; exact absurd H (by simp)
          rw [if_pos c81] at H; have LMc81 := am c81; clear c81; obtain ⟨y307, hy307⟩ : ∃ y_ : List ByteArray, y_ = (((rd_T82 y305 x10_36).f2) ++ [a1_5]) := ⟨_, rfl⟩
          replace H : ((some (y305.set (x10_36 : Int).toNat (⟨(rd_T82 y305 x10_36).f0, (rd_T82 y305 x10_36).f1, y307, (rd_T82 y305 x10_36).f3, (rd_T82 y305 x10_36).f4, (rd_T82 y305 x10_36).f5⟩ : S82) : List (S82))).bind fun y310 => (if a1_4 = true then (impl_JoinBits.j3 kj36 y310 x10_36 false a1_0 a1_1 a1_2 a1_3 a1_4 a1_5) else (impl_JoinBits.j3 kj36 y310 x10_36 (((rd_T82 y310 x10_36).f4) == 0) a1_0 a1_1 a1_2 a1_3 a1_4 a1_5))) = some (r1, r2, r3, r4, r5, r6, r7, r8) := by first | (rw [hy307]; with_reducible exact H) | (have H2_ := (Option.bind_some _ _).symm.trans H; rw [hy307]; with_reducible exact H2_) | (have H2_ := (Option.bind_some _ _).symm.trans H; with_reducible exact H2_) | with_reducible exact H | (rw [hy307]; exact H) | exact H
          have Ny307 := am hy307; clear hy307; obtain ⟨y310, hy310⟩ : ∃ y_ : List (S82), y_ = (y305.set (x10_36 : Int).toNat (⟨(rd_T82 y305 x10_36).f0, (rd_T82 y305 x10_36).f1, y307, (rd_T82 y305 x10_36).f3, (rd_T82 y305 x10_36).f4, (rd_T82 y305 x10_36).f5⟩ : S82)) := ⟨_, rfl⟩
          replace H : (if a1_4 = true then (impl_JoinBits.j3 kj36 y310 x10_36 false a1_0 a1_1 a1_2 a1_3 a1_4 a1_5) else (impl_JoinBits.j3 kj36 y310 x10_36 (((rd_T82 y310 x10_36).f4) == 0) a1_0 a1_1 a1_2 a1_3 a1_4 a1_5)) = some (r1, r2, r3, r4, r5, r6, r7, r8) := by first | (rw [hy310]; with_reducible exact H) | (have H2_ := (Option.bind_some _ _).symm.trans H; rw [hy310]; with_reducible exact H2_) | (have H2_ := (Option.bind_some _ _).symm.trans H; with_reducible exact H2_) | with_reducible exact H | (rw [hy310]; exact H) | exact H
          have Ny310 := am hy310; clear hy310; have HC83 := am H; clear H
          have p51 : 0 ≤ (x10_36 : Int) := dga
          have q51 : (x10_36 : Int) < ((x9_36.length : Int) : Int) := dga
          obtain ⟨go51, of51, co51, eo51, gb51, gl51, cl51, HG51⟩ := KQ.S_form HO_9.out (by omega)
          (first | cases eo51 | (injection eo51 with ea_ en_ ec_; (first | subst ea_ | (injection ea_ with ea_; subst ea_)); subst ec_; clear en_))
          have GB51 := am gb51; have GG51 := am HG51; clear gb51 gl51 HG51; obtain ⟨_, ce51, hcl51, hM51, hcc51, hfr51, _, _⟩ := KQ.S_elem HO_9.out z82 (x10_36 : Int) p51 q51; obtain ⟨ve51_2, ve51_3, rfl, ge51_2, ge51_3⟩ := k82_openM hM51
          have hx51_0 : wc.cell? ⟨go51, of51 + (x10_36 : Int).toNat * 6, none⟩ = some (.int .i64 ((rd_T82 x9_36 x10_36).f0)) := hcc51 0 _ rfl
          have hx51_1 : wc.cell? ⟨go51, of51 + (x10_36 : Int).toNat * 6 + 1, none⟩ = some (.int .i64 ((rd_T82 x9_36 x10_36).f1)) := hcc51 1 _ rfl
          have hx51_2 : wc.cell? ⟨go51, of51 + (x10_36 : Int).toNat * 6 + 2, none⟩ = some (ve51_2) := hcc51 2 _ rfl
          have hx51_3 : wc.cell? ⟨go51, of51 + (x10_36 : Int).toNat * 6 + 3, none⟩ = some (ve51_3) := hcc51 3 _ rfl
          have hx51_4 : wc.cell? ⟨go51, of51 + (x10_36 : Int).toNat * 6 + 4, none⟩ = some (.int .i64 ((rd_T82 x9_36 x10_36).f4)) := hcc51 4 _ rfl
          have hx51_5 : wc.cell? ⟨go51, of51 + (x10_36 : Int).toNat * 6 + 5, none⟩ = some (.int .i64 ((rd_T82 x9_36 x10_36).f5)) := hcc51 5 _ rfl
          have hf51_0 : wc.frozen? ⟨go51, of51 + (x10_36 : Int).toNat * 6, none⟩ = false := hfr51 0
          have hf51_1 : wc.frozen? ⟨go51, of51 + (x10_36 : Int).toNat * 6 + 1, none⟩ = false := hfr51 1
          have hf51_2 : wc.frozen? ⟨go51, of51 + (x10_36 : Int).toNat * 6 + 2, none⟩ = false := hfr51 2
          have hf51_3 : wc.frozen? ⟨go51, of51 + (x10_36 : Int).toNat * 6 + 3, none⟩ = false := hfr51 3
          have hf51_4 : wc.frozen? ⟨go51, of51 + (x10_36 : Int).toNat * 6 + 4, none⟩ = false := hfr51 4
          have hf51_5 : wc.frozen? ⟨go51, of51 + (x10_36 : Int).toNat * 6 + 5, none⟩ = false := hfr51 5
          clear hcl51 hcc51 hfr51 hM51; replace p51 := eq_true p51; replace q51 := eq_true q51
          try go_wp2
          replace HO_9 := am (KQ.S_drew HO_9.out); replace BK274 := am (blk_drew BK274.out); replace BK275 := am (blk_drew BK275.out); replace HB := am (below_drew1 HB.out)
          have p285 : 0 ≤ (x10_36 : Int) := dga
          have q285 : x10_36 < (x9_36.length : Int) := dga
          obtain ⟨ad285, A285_2, c285_2, A285_3, c285_3, e285, hx285_0, hx285_1, hx285_2, hx285_3, hx285_4, hx285_5, hl285_2, hi285_2, hl285_3, hi285_3⟩ := at_T82 (KQ.S_reads' HO_9.out).2.2 x10_36 p285 q285; obtain rfl : (⟨go51, of51, none⟩ : Addr) = ad285 := (by injection e285); obtain ⟨ce285, hce285, hMe285, hcc285⟩ := KQ.S_get HO_9.out z82 x10_36 p285 B7q37_; obtain ⟨ve285_2, ve285_3, rfl, ge285_2, ge285_3⟩ := k82_openM hMe285; have hv285_2 := hcc285 2 _ rfl; rw [add_field _ _ 2 (by omega)] at hv285_2; replace hv285_2 := Option.some.inj (hv285_2.symm.trans hx285_2); rw [hv285_2] at ge285_2; have HL285_2 := am (show Kd.R Kd.string 9 _ _ _ _ ((rd_T82 x9_36 x10_36).f2) from ge285_2); clear hv285_2 ge285_2; have HX285_2 := am hx285_2; have hv285_3 := hcc285 3 _ rfl; rw [add_field _ _ 3 (by omega)] at hv285_3; replace hv285_3 := Option.some.inj (hv285_3.symm.trans hx285_3); rw [hv285_3] at ge285_3; have HL285_3 := am (show Kd.R (Kd.int .i64) 3 _ _ _ _ ((rd_T82 x9_36 x10_36).f3) from ge285_3); clear hv285_3 ge285_3; have HX285_3 := am hx285_3; clear hcc285 hce285
          (first | simp only [add_plain] at hx285_0 | simp only [add_at] at hx285_0 | simp only [Addr.add, Nat.zero_add] at hx285_0 | skip)
          (first | simp only [add_plain] at hx285_1 | simp only [add_at] at hx285_1 | simp only [Addr.add, Nat.zero_add] at hx285_1 | skip)
          (first | simp only [add_plain] at hx285_2 | simp only [add_at] at hx285_2 | simp only [Addr.add, Nat.zero_add] at hx285_2 | skip)
          (first | simp only [add_plain] at hx285_3 | simp only [add_at] at hx285_3 | simp only [Addr.add, Nat.zero_add] at hx285_3 | skip)
          (first | simp only [add_plain] at hx285_4 | simp only [add_at] at hx285_4 | simp only [Addr.add, Nat.zero_add] at hx285_4 | skip)
          (first | simp only [add_plain] at hx285_5 | simp only [add_at] at hx285_5 | simp only [Addr.add, Nat.zero_add] at hx285_5 | skip)
          have HR285_2 := am hi285_2; have HC285_2 := am hl285_2; clear hi285_2 hl285_2; have HR285_3 := am hi285_3; have HC285_3 := am hl285_3; clear hi285_3 hl285_3; replace p285 := eq_true p285; replace q285 := eq_true q285; refine start_ (n := 8) (S := fun w' => w'.cell? ⟨gb274, 0, none⟩ = some (.int .i64 a1_0) ∧ w'.cell? ⟨gb274, 1, none⟩ = some (.int .i64 a1_1) ∧ w'.cell? ⟨gb274, 2, none⟩ = some (.int .i64 a1_2) ∧ w'.cell? ⟨gb274, 3, none⟩ = some (.int .i64 a1_3) ∧ w'.cell? ⟨gb274, 4, none⟩ = some (.bool a1_4) ∧ w'.cell? ⟨gb274, 5, none⟩ = some (.string a1_5) ∧ w'.cell? ⟨go51, of51 + (x10_36).toNat * 6, none⟩ = some (.int .i64 ((rd_T82 x9_36 x10_36).f0)) ∧ w'.cell? ⟨go51, of51 + (x10_36).toNat * 6 + 1, none⟩ = some (.int .i64 ((rd_T82 x9_36 x10_36).f1)) ∧ w'.cell? ⟨go51, of51 + (x10_36).toNat * 6 + 2, none⟩ = some (.slice A285_2 ((rd_T82 x9_36 x10_36).f2).length c285_2) ∧ w'.cell? ⟨go51, of51 + (x10_36).toNat * 6 + 3, none⟩ = some (.slice A285_3 ((rd_T82 x9_36 x10_36).f3).length c285_3) ∧ w'.cell? ⟨go51, of51 + (x10_36).toNat * 6 + 4, none⟩ = some (.int .i64 ((rd_T82 x9_36 x10_36).f4)) ∧ w'.cell? ⟨go51, of51 + (x10_36).toNat * 6 + 5, none⟩ = some (.int .i64 ((rd_T82 x9_36 x10_36).f5))) (ds := []) #[false, false, false, false, false, false, false, false] gk_ rfl rfl ⟨(blk_cell BK274.out 0).trans rfl, (blk_cell BK274.out 1).trans rfl, (blk_cell BK274.out 2).trans rfl, (blk_cell BK274.out 3).trans rfl, (blk_cell BK274.out 4).trans rfl, (blk_cell BK274.out 5).trans rfl, hx285_0, hx285_1, hx285_2, hx285_3, hx285_4, hx285_5⟩ (fun hHeld => ?_); refine with_tabW impl_JoinBits.tab12 impl_JoinBits.bits12 (fun HT_ HW_ => ?_); generalize wc.drew = w84 at HO_9 BK274 BK275 HB HL285_2 HL285_3 HR285_2 HR285_3 HX285_2 HX285_3 hx285_0 hx285_1 hx285_2 hx285_3 hx285_4 hx285_5 hHeld ⊢; refine pu_ 0 63 HT_ ?_; refine pu_ 1 64 HT_ ?_; refine pu_ 2 65 HT_ ?_; refine pu_ 4 67 HT_ ?_; refine ta_ 3 66 HT_ HW_ hHeld ?_; refine ta_ 5 68 HT_ HW_ hHeld ?_; refine one_ (i := 6) (N := some 69) #[true, true, true, true, true, true, true, false] rfl rfl (one_of HT_.out gk_) (by decide) (fun K hK => ?_); refine goes_ Try.func101 gk_ rfl #[.slice A285_3 ((rd_T82 x9_36 x10_36).f3).length c285_3, .int .i64 a1_3] (by rfl) rfl rfl gm_ ?_
          with_reducible refine (slices_Contains_int_int.calls kj36 _ _ ((rd_T82 x9_36 x10_36).f3) a1_3 false _ ?side1 ?side2 A52.out).mono ?_
          (case side1 => exact (tc (td HR285_3.out)))
          (case side2 => exact HC285_3.out)
          rintro e w' ⟨rfl, ⟨nd, rfl⟩⟩; refine ⟨_, rfl, ?_⟩; refine hK.out _ _ ⟨(blk_cell BK274.out 0).trans rfl, (blk_cell BK274.out 1).trans rfl, (blk_cell BK274.out 2).trans rfl, (blk_cell BK274.out 3).trans rfl, (blk_cell BK274.out 4).trans rfl, (blk_cell BK274.out 5).trans rfl, hHeld.2.2.2.2.2.2.1, hHeld.2.2.2.2.2.2.2.1, hHeld.2.2.2.2.2.2.2.2.1, hHeld.2.2.2.2.2.2.2.2.2.1, hHeld.2.2.2.2.2.2.2.2.2.2.1, hHeld.2.2.2.2.2.2.2.2.2.2.2⟩ (fun hHeld => ?_); clear hK K; refine norm_ (a' := ?_) ?_ ?_; rotate_left
          ·show Act.put _ (some 69) _ = _; simp only [Act.put, List.setIfInBounds_toArray, List.set_cons_zero, List.set_cons_succ, i64_w, i32_w]; rfl
          refine pu_ 7 70 HT_ ?_; refine done_ (done_of HT_.out gk_) ?_
          try go_wp2
          (try (rw [drewN_self w84]; generalize hq_ : World.drewN w84 _ = w84; have n0_ : Aside0 (Kd.R Kd.string 9 w84 w.heap.size (fun k_ => some k_ ≠ (.slice (some ⟨go51, of51, none⟩) x9_36.length co51 : Value).ownBlock) (.slice A285_2 ((rd_T82 x9_36 x10_36).f2).length c285_2) ((rd_T82 x9_36 x10_36).f2)) := ⟨(by rw [← hq_]; exact (by (with_reducible repeat (first | apply Kd.R_alloc | apply Kd.R_drewN | apply Kd.R_drew)); exact Kd.R_mono HL285_2.out (fun _ hk => hk.2)))⟩; have n1_ : Aside0 (Kd.R (Kd.int .i64) 3 w84 w.heap.size (fun k_ => some k_ ≠ (.slice (some ⟨go51, of51, none⟩) x9_36.length co51 : Value).ownBlock) (.slice A285_3 ((rd_T82 x9_36 x10_36).f3).length c285_3) ((rd_T82 x9_36 x10_36).f3)) := ⟨(by rw [← hq_]; exact (by (with_reducible repeat (first | apply Kd.R_alloc | apply Kd.R_drewN | apply Kd.R_drew)); exact Kd.R_mono HL285_3.out (fun _ hk => hk.2)))⟩; have n2_ : Aside0 (KQ.S k82 82 w84 w.heap.size (fun _ => True) (.slice (some ⟨go51, of51, none⟩) x9_36.length co51) x9_36) := ⟨(by rw [← hq_]; exact (tsq HO_9.out))⟩; have n3_ : Aside0 (w84.heap[gb274]? = some (.cells #[.int .i64 a1_0, .int .i64 a1_1, .int .i64 a1_2, .int .i64 a1_3, .bool a1_4, .string a1_5] 62 (0, 0))) := ⟨(by rw [← hq_]; exact (tb BK274.out))⟩; have n4_ : Aside0 (w84.heap[gb275]? = some (.cells #[.int .i64 0, .int .i64 0, .int .i64 0, .int .i64 0, .bool false, .string (⟨#[]⟩ : ByteArray)] 62 (0, 0))) := ⟨(by rw [← hq_]; exact (tb BK275.out))⟩; have n5_ : Aside0 (Below w.heap.size w w84) := ⟨(by rw [← hq_]; exact (te2 HB.out GE274.out GE275.out))⟩; have n6_ : Aside0 (Kd.C Kd.string w84 A285_2 ((rd_T82 x9_36 x10_36).f2).length ((rd_T82 x9_36 x10_36).f2)) := ⟨(by rw [← hq_]; exact (td HR285_2.out))⟩; have n7_ : Aside0 (Kd.C (Kd.int .i64) w84 A285_3 ((rd_T82 x9_36 x10_36).f3).length ((rd_T82 x9_36 x10_36).f3)) := ⟨(by rw [← hq_]; exact (td HR285_3.out))⟩; clear HL285_2 HL285_3 HO_9 BK274 BK275 HB HR285_2 HR285_3 hq_; have HL285_2 := n0_; have HL285_3 := n1_; have HO_9 := n2_; have BK274 := n3_; have BK275 := n4_; have HB := n5_; have HR285_2 := n6_; have HR285_3 := n7_; clear n0_ n1_ n2_ n3_ n4_ n5_ n6_ n7_)); obtain ⟨hcy274_0, hcy274_1, hcy274_2, hcy274_3, hcy274_4, hcy274_5⟩ := cl6 BK274.out; obtain ⟨hcy275_0, hcy275_1, hcy275_2, hcy275_3, hcy275_4, hcy275_5⟩ := cl6 BK275.out; replace HO_9 := am (KQ.S_drew HO_9.out); replace HL285_2 := am (Kd.R_drew HL285_2.out); replace HL285_3 := am (Kd.R_drew HL285_3.out); replace BK274 := am (blk_drew BK274.out); replace BK275 := am (blk_drew BK275.out); replace HR285_2 := am (Kd.C_drew HR285_2.out); replace HR285_3 := am (Kd.C_drew HR285_3.out); replace HB := am (below_drew1 HB.out)
          have p301 : 0 ≤ (x10_36 : Int) := dga
          have q301 : x10_36 < (x9_36.length : Int) := dga
          obtain ⟨ad301, A301_2, c301_2, A301_3, c301_3, e301, hx301_0, hx301_1, hx301_2, hx301_3, hx301_4, hx301_5, hl301_2, hi301_2, hl301_3, hi301_3⟩ := at_T82 (KQ.S_reads' HO_9.out).2.2 x10_36 p301 q301; obtain rfl : (⟨go51, of51, none⟩ : Addr) = ad301 := (by injection e301); obtain ⟨ce301, hce301, hMe301, hcc301⟩ := KQ.S_get HO_9.out z82 x10_36 p301 (by first | exact q301 | exact dga | (have e_ := (KQ.S_reads' HO_9.out).1; omega)); obtain ⟨ve301_2, ve301_3, rfl, ge301_2, ge301_3⟩ := k82_openM hMe301; have hv301_2 := hcc301 2 _ rfl; rw [add_field _ _ 2 (by omega)] at hv301_2; replace hv301_2 := Option.some.inj (hv301_2.symm.trans hx301_2); rw [hv301_2] at ge301_2; have HL301_2 := am (show Kd.R Kd.string 9 _ _ _ _ ((rd_T82 x9_36 x10_36).f2) from ge301_2); clear hv301_2 ge301_2; have HX301_2 := am hx301_2; have hv301_3 := hcc301 3 _ rfl; rw [add_field _ _ 3 (by omega)] at hv301_3; replace hv301_3 := Option.some.inj (hv301_3.symm.trans hx301_3); rw [hv301_3] at ge301_3; have HL301_3 := am (show Kd.R (Kd.int .i64) 3 _ _ _ _ ((rd_T82 x9_36 x10_36).f3) from ge301_3); clear hv301_3 ge301_3; have HX301_3 := am hx301_3; clear hcc301 hce301
          (first | simp only [add_plain] at hx301_0 | simp only [add_at] at hx301_0 | simp only [Addr.add, Nat.zero_add] at hx301_0 | skip)
          (first | simp only [add_plain] at hx301_1 | simp only [add_at] at hx301_1 | simp only [Addr.add, Nat.zero_add] at hx301_1 | skip)
          (first | simp only [add_plain] at hx301_2 | simp only [add_at] at hx301_2 | simp only [Addr.add, Nat.zero_add] at hx301_2 | skip)
          (first | simp only [add_plain] at hx301_3 | simp only [add_at] at hx301_3 | simp only [Addr.add, Nat.zero_add] at hx301_3 | skip)
          (first | simp only [add_plain] at hx301_4 | simp only [add_at] at hx301_4 | simp only [Addr.add, Nat.zero_add] at hx301_4 | skip)
          (first | simp only [add_plain] at hx301_5 | simp only [add_at] at hx301_5 | simp only [Addr.add, Nat.zero_add] at hx301_5 | skip)
          have HR301_2 := am hi301_2; have HC301_2 := am hl301_2; clear hi301_2 hl301_2; have HR301_3 := am hi301_3; have HC301_3 := am hl301_3; clear hi301_3 hl301_3; replace p301 := eq_true p301; replace q301 := eq_true q301; obtain ⟨oki86, ce86, hcl86, hM86, hcc86, _, _, hH86⟩ := KQ.S_elem HO_9.out z82 (x10_36 : Int) (dga) (by have h_ : (x10_36 : Int) < ((x9_36.length : Int) : Int) := dga; first | exact h_ | (have e_ := (KQ.S_reads' HO_9.out).1; omega) | simpa using h_); obtain ⟨ve86_2, ve86_3, rfl, ge86_2, ge86_3⟩ := k82_openM hM86; have hv86 := hcc86 3 _ rfl; have hX86 := HX301_3.out; (try simp only [add_at] at hX86); (try simp only [Nat.add_zero] at hv86); replace hv86 := Option.some.inj (hv86.symm.trans hX86); subst hv86; clear hX86 hcc86 hcl86; have UU86 := am (show Kd.R (Kd.int .i64) 3 _ w.heap.size oki86 (.slice A301_3 ((rd_T82 x9_36 x10_36).f3).length c301_3) ((rd_T82 x9_36 x10_36).f3) from ge86_3); have HH86 := am hH86; have HN86 := am (KQ.S_reads' HO_9.out).1; have HE86_2 := am ge86_2; clear hH86 ge86_2 ge86_3; refine start_ (n := 12) (S := fun w' => w'.cell? ⟨gb274, 0, none⟩ = some (.int .i64 a1_0) ∧ w'.cell? ⟨gb274, 1, none⟩ = some (.int .i64 a1_1) ∧ w'.cell? ⟨gb274, 2, none⟩ = some (.int .i64 a1_2) ∧ w'.cell? ⟨gb274, 3, none⟩ = some (.int .i64 a1_3) ∧ w'.cell? ⟨gb274, 4, none⟩ = some (.bool a1_4) ∧ w'.cell? ⟨gb274, 5, none⟩ = some (.string a1_5) ∧ w'.cell? ⟨go51, of51 + (x10_36).toNat * 6, none⟩ = some (.int .i64 ((rd_T82 x9_36 x10_36).f0)) ∧ w'.cell? ⟨go51, of51 + (x10_36).toNat * 6 + 1, none⟩ = some (.int .i64 ((rd_T82 x9_36 x10_36).f1)) ∧ w'.cell? ⟨go51, of51 + (x10_36).toNat * 6 + 2, none⟩ = some (.slice A301_2 ((rd_T82 x9_36 x10_36).f2).length c301_2) ∧ w'.cell? ⟨go51, of51 + (x10_36).toNat * 6 + 3, none⟩ = some (.slice A301_3 ((rd_T82 x9_36 x10_36).f3).length c301_3) ∧ w'.cell? ⟨go51, of51 + (x10_36).toNat * 6 + 4, none⟩ = some (.int .i64 ((rd_T82 x9_36 x10_36).f4)) ∧ w'.cell? ⟨go51, of51 + (x10_36).toNat * 6 + 5, none⟩ = some (.int .i64 ((rd_T82 x9_36 x10_36).f5))) (ds := [11]) #[false, false, false, false, false, false, false, false, false, false, false, false] gk_ rfl rfl ⟨(blk_cell BK274.out 0).trans rfl, (blk_cell BK274.out 1).trans rfl, (blk_cell BK274.out 2).trans rfl, (blk_cell BK274.out 3).trans rfl, (blk_cell BK274.out 4).trans rfl, (blk_cell BK274.out 5).trans rfl, hx301_0, hx301_1, hx301_2, hx301_3, hx301_4, hx301_5⟩ (fun hHeld => ?_); refine with_tabW impl_JoinBits.tab13 impl_JoinBits.bits13 (fun HT_ HW_ => ?_); generalize w84.drew = w85 at HO_9 HL285_2 HL285_3 BK274 BK275 HR285_2 HR285_3 HB HE86_2 HH86 HL301_2 HL301_3 HR301_2 HR301_3 HX301_2 HX301_3 UU86 hx301_0 hx301_1 hx301_2 hx301_3 hx301_4 hx301_5 hHeld ⊢; refine pu_ 0 71 HT_ ?_; refine pu_ 1 72 HT_ ?_; refine pu_ 2 73 HT_ ?_; refine pu_ 3 74 HT_ ?_; refine pu_ 5 76 HT_ ?_; refine ta_ 4 75 HT_ HW_ hHeld ?_; refine ta_ 6 77 HT_ HW_ hHeld ?_; refine one_ (i := 7) (N := some 78) #[true, true, true, true, true, true, true, true, false, false, false, false] rfl rfl (one_of HT_.out gk_) (by decide) (fun K hK => ?_); refine value_ (w1 := ?_) (v := ?_) (by rfl) rfl ?_ ?_
          rotate_left 2
          ·go_simp
           constructor
           ·rfl
           ·rfl
          refine hK.out _ _ ⟨(blk_cell (blk_alloc BK274.out _) 0).trans rfl, (blk_cell (blk_alloc BK274.out _) 1).trans rfl, (blk_cell (blk_alloc BK274.out _) 2).trans rfl, (blk_cell (blk_alloc BK274.out _) 3).trans rfl, (blk_cell (blk_alloc BK274.out _) 4).trans rfl, (blk_cell (blk_alloc BK274.out _) 5).trans rfl, (World.cell?_alloc_lt _ _ _ (World.block_lt_of_cell? _ _ (hHeld.2.2.2.2.2.2.1))).trans (hHeld.2.2.2.2.2.2.1), (World.cell?_alloc_lt _ _ _ (World.block_lt_of_cell? _ _ (hHeld.2.2.2.2.2.2.2.1))).trans (hHeld.2.2.2.2.2.2.2.1), (World.cell?_alloc_lt _ _ _ (World.block_lt_of_cell? _ _ (hHeld.2.2.2.2.2.2.2.2.1))).trans (hHeld.2.2.2.2.2.2.2.2.1), (World.cell?_alloc_lt _ _ _ (World.block_lt_of_cell? _ _ (hHeld.2.2.2.2.2.2.2.2.2.1))).trans (hHeld.2.2.2.2.2.2.2.2.2.1), (World.cell?_alloc_lt _ _ _ (World.block_lt_of_cell? _ _ (hHeld.2.2.2.2.2.2.2.2.2.2.1))).trans (hHeld.2.2.2.2.2.2.2.2.2.2.1), (World.cell?_alloc_lt _ _ _ (World.block_lt_of_cell? _ _ (hHeld.2.2.2.2.2.2.2.2.2.2.2))).trans (hHeld.2.2.2.2.2.2.2.2.2.2.2)⟩ (fun hHeld => ?_); clear hK K; refine norm_ (a' := ?_) ?_ ?_; rotate_left
          ·show Act.put _ (some 78) _ = _; simp only [Act.put, List.setIfInBounds_toArray, List.set_cons_zero, List.set_cons_succ, i64_w, i32_w]; rfl
          refine one_ (i := 8) (N := some 79) #[true, true, true, true, true, true, true, true, true, false, false, false] rfl rfl (one_of HT_.out gk_) (by decide) (fun K hK => ?_); refine Kd.R_append_step (Kd.int .i64) (w0 := w) w.heap.size (by rfl) (.tmp 75) (.tmp 78) 51 3 (.int .i64 0) 8 rfl Try.underlying51 info3 rfl (by decide) (by omega) (.slice A301_3 ((rd_T82 x9_36 x10_36).f3).length c301_3) ((rd_T82 x9_36 x10_36).f3) a1_3 [.int .i64 a1_3] (fun k_ => oki86 k_ ∨ ((fun _ => True)) k_ ∧ w85.heap.size ≤ k_) (fun _ => False) rfl rfl ?aP (fun _ hk => hk.elim) ?aF ?aO ?aB ?aS ?aL ?_
          (case aP => exact rfl)
          (case aB => exact (te2 HB.out GE274.out GE275.out))
          (case aF => exact (fun k_ hk => .inr ⟨trivial, hk⟩))
          (case aO => (with_reducible repeat (first | apply Kd.R_alloc | apply Kd.R_drewN | apply Kd.R_drew)); exact Kd.R_mono UU86.out (fun _ hk => .inl hk))
          (case aS => exact BJ7x54_)
          (case aL => have := LMc79.out; omega)
          intro v303 w87 ho hb hg hat
          (first | have HS6_ := cell_grown hg (hHeld.2.2.2.2.2.2.1) BJ7x2_ | have HS6_ := cell_grown hg (cell_unalloc (hHeld.2.2.2.2.2.2.1) B7q7_) BJ7x2_)
          (first | have HS7_ := cell_grown hg (hHeld.2.2.2.2.2.2.2.1) BJ7x2_ | have HS7_ := cell_grown hg (cell_unalloc (hHeld.2.2.2.2.2.2.2.1) B7q7_) BJ7x2_)
          (first | have HS8_ := cell_grown hg (hHeld.2.2.2.2.2.2.2.2.1) BJ7x2_ | have HS8_ := cell_grown hg (cell_unalloc (hHeld.2.2.2.2.2.2.2.2.1) B7q7_) BJ7x2_)
          (first | have HS9_ := cell_grown hg (hHeld.2.2.2.2.2.2.2.2.2.1) BJ7x2_ | have HS9_ := cell_grown hg (cell_unalloc (hHeld.2.2.2.2.2.2.2.2.2.1) B7q7_) BJ7x2_)
          (first | have HS10_ := cell_grown hg (hHeld.2.2.2.2.2.2.2.2.2.2.1) BJ7x2_ | have HS10_ := cell_grown hg (cell_unalloc (hHeld.2.2.2.2.2.2.2.2.2.2.1) B7q7_) BJ7x2_)
          (first | have HS11_ := cell_grown hg (hHeld.2.2.2.2.2.2.2.2.2.2.2) BJ7x2_ | have HS11_ := cell_grown hg (cell_unalloc (hHeld.2.2.2.2.2.2.2.2.2.2.2) B7q7_) BJ7x2_)
          rw [← Ny302.out] at ho; replace BK274 := am (blk_grown (g := gb274) (o := .cells #[.int .i64 a1_0, .int .i64 a1_1, .int .i64 a1_2, .int .i64 a1_3, .bool a1_4, .string a1_5] 62 (0, 0)) (tb BK274.out) hg (Kd.R_ne HL301_3.out BK274.out (by decide))); replace BK275 := am (blk_grown (g := gb275) (o := .cells #[.int .i64 0, .int .i64 0, .int .i64 0, .int .i64 0, .bool false, .string (⟨#[]⟩ : ByteArray)] 62 (0, 0)) (tb BK275.out) hg (Kd.R_ne HL301_3.out BK275.out (by decide))); replace HB := am (hb); replace HH86 := am (KQ.H_grown (KQ.H_widen (by repeat (first | exact HH86.out | refine KQ.H_alloc ?_ _ | refine KQ.H_drewN ?_ _ | refine KQ.H_drew ?_))) hg (fun k_ e_ => .inl (UU86.out.1 k_ e_))); replace HE86_2 := am (Kd.R_over' (v := (.slice A301_3 ((rd_T82 x9_36 x10_36).f3).length c301_3)) (tr HE86_2.out) (Kd.R_typed UU86.out) (by decide) hg); have HO304 := am (ho); clear HO_9; clear UU86; clear HL285_2; clear HL285_3; clear HL301_2; clear HL301_3; clear ho hb hg hat
          have p80 : 0 ≤ (x10_36 : Int) := dga
          have q80 : (x10_36 : Int) < ((x9_36.length : Int) : Int) := dga
          replace p80 := eq_true p80; replace q80 := eq_true q80; obtain ⟨Ao90, co90, eo90⟩ := Kd.R_slice HO304.out
          (first | subst eo90 | (injection eo90 with f1_ f2_ f3_; have f4_ := f1_.symm; have f5_ := f3_.symm; clear f1_ f2_ f3_; subst f4_; subst f5_))
          obtain ⟨_, _, hraw88, _, _, hcc88, _⟩ := KQ.H_raw HH86.out (dga) (by have h_ : (x10_36 : Int) < ((x9_36.length : Int) : Int) := dga; first | exact h_ | (have e_ := (HN86.out); omega) | simpa using h_); obtain ⟨_, hfr88⟩ := KQ.H_at HH86.out (dga) (by have h_ : (x10_36 : Int) < ((x9_36.length : Int) : Int) := dga; first | exact h_ | (have e_ := (HN86.out); omega) | simpa using h_); have hx88_0 := hcc88 3 _ rfl; have hf88_0 := hfr88 3; (try rw [show (k82).sz = 6 from rfl] at hx88_0); (try rw [show (k82).sz = 6 from rfl] at hf88_0); have HP88 := KQ.S_seg0 HH86.out (dga) (by have h_ : (x10_36 : Int) < ((x9_36.length : Int) : Int) := dga; first | exact h_ | (have e_ := (HN86.out); omega) | simpa using h_) (seg := [.slice Ao90 y302.length co90]) (j := 3) (show 4 ≤ 6 from (by decide)) (x' := (⟨(rd_T82 x9_36 x10_36).f0, (rd_T82 x9_36 x10_36).f1, (rd_T82 x9_36 x10_36).f2, y302, (rd_T82 x9_36 x10_36).f4, (rd_T82 x9_36 x10_36).f5⟩ : S82)) (k82_mkM _ _ _ (⟨(rd_T82 x9_36 x10_36).f0, (rd_T82 x9_36 x10_36).f1, (rd_T82 x9_36 x10_36).f2, y302, (rd_T82 x9_36 x10_36).f4, (rd_T82 x9_36 x10_36).f5⟩ : S82) (Kd.R_mono HE86_2.out (fun _ h_ => .inl h_)) HO304.out) (fun _ hk => hk); clear hcc88 hfr88; have HNB274_go51 := am (show gb274 ≠ go51 from (by have h_ := Kd.R_ne hraw88 BK274.out (by decide); intro e_; exact h_ (by rw [e_]; rfl))); have HNB275_go51 := am (show gb275 ≠ go51 from (by have h_ := Kd.R_ne hraw88 BK275.out (by decide); intro e_; exact h_ (by rw [e_]; rfl))); have HS88 := HP88.1; rw [← Ny305.out] at HS88; have HQ88 := am HS88; obtain ⟨_, hgg88⟩ := Kd.R_typed hraw88 go51 rfl; have GG88_ := am hgg88; clear HP88 HS88 hgg88; refine hK.out _ _ ⟨(blk_cell BK274.out 0).trans rfl, (blk_cell BK274.out 1).trans rfl, (blk_cell BK274.out 2).trans rfl, (blk_cell BK274.out 3).trans rfl, (blk_cell BK274.out 4).trans rfl, (blk_cell BK274.out 5).trans rfl, HS6_, HS7_, HS8_, HS9_, HS10_, HS11_⟩ (fun hHeld => ?_); clear hK K; refine norm_ (a' := ?_) ?_ ?_; rotate_left
          ·show Act.put _ (some 79) _ = _; simp only [Act.put, List.setIfInBounds_toArray, List.set_cons_zero, List.set_cons_succ, i64_w, i32_w]; rfl
          refine pu_ 9 80 HT_ ?_; refine pu_ 10 81 HT_ ?_; refine last_ (i := 11) (N := none) #[true, true, true, true, true, true, true, true, true, true, true, true] rfl rfl (one_of HT_.out gk_) (by decide) (fun K hK => ?_); refine skip_ (w1 := ?_) (by rfl) rfl ?_ ?_; rotate_left
          ·go_simp; rfl
          refine hK.out _ _ ?_; clear hK K; refine done_ (done_of HT_.out gk_) ?_
          try go_wp2
          have n0_ : Aside0 (KQ.S k82 82 (w87.setCell ⟨go51, of51 + (x10_36 : Int).toNat * 6 + 3, none⟩ (.slice Ao90 y302.length co90)) w.heap.size (fun _ => True) (.slice (some ⟨go51, of51, none⟩) x9_36.length co51) y305) := ⟨(tsq HQ88.out)⟩
          have n1_ : Aside0 ((w87.setCell ⟨go51, of51 + (x10_36 : Int).toNat * 6 + 3, none⟩ (.slice Ao90 y302.length co90)).heap[gb274]? = some (.cells #[.int .i64 a1_0, .int .i64 a1_1, .int .i64 a1_2, .int .i64 a1_3, .bool a1_4, .string a1_5] 62 (0, 0))) := ⟨(tp1 BK274.out HNB274_go51.out)⟩
          have n2_ : Aside0 ((w87.setCell ⟨go51, of51 + (x10_36 : Int).toNat * 6 + 3, none⟩ (.slice Ao90 y302.length co90)).heap[gb275]? = some (.cells #[.int .i64 0, .int .i64 0, .int .i64 0, .int .i64 0, .bool false, .string (⟨#[]⟩ : ByteArray)] 62 (0, 0))) := ⟨(tp1 BK275.out HNB275_go51.out)⟩
          have n3_ : Aside0 (Below w.heap.size w (w87.setCell ⟨go51, of51 + (x10_36 : Int).toNat * 6 + 3, none⟩ (.slice Ao90 y302.length co90))) := ⟨(te3 HB.out GB51.out GE274.out GE275.out)⟩
          (try clear HO_9); (try clear BK274); (try clear BK275); (try clear HB); generalize (w87.setCell ⟨go51, of51 + (x10_36 : Int).toNat * 6 + 3, none⟩ (.slice Ao90 y302.length co90)) = w91 at n0_ n1_ n2_ n3_ ⊢; have HO_9 := n0_; have BK274 := n1_; have BK275 := n2_; have HB := n3_; clear n0_ n1_ n2_ n3_; replace HO_9 := am (KQ.S_drew HO_9.out); replace BK274 := am (blk_drew BK274.out); replace BK275 := am (blk_drew BK275.out); replace HB := am (below_drew1 HB.out)
          have p306 : 0 ≤ (x10_36 : Int) := dga
          have q306 : x10_36 < (y305.length : Int) := (by have h_ : (x10_36 : Int) < ((x9_36.length : Int) : Int) := dga; first | (have e_ := (KQ.S_reads' HO_9.out).1; omega) | simpa only [Ny305.out, List.length_set] using h_)
          have ql306 : ((x10_36 : Int) < ((x9_36.length : Int) : Int)) = True := eq_true (dga)
          obtain ⟨ad306, A306_2, c306_2, A306_3, c306_3, e306, hx306_0, hx306_1, hx306_2, hx306_3, hx306_4, hx306_5, hl306_2, hi306_2, hl306_3, hi306_3⟩ := at_T82 (KQ.S_reads' HO_9.out).2.2 x10_36 p306 q306; obtain rfl : (⟨go51, of51, none⟩ : Addr) = ad306 := (by injection e306); obtain ⟨ce306, hce306, hMe306, hcc306⟩ := KQ.S_get HO_9.out z82 x10_36 p306 (by first | exact q306 | exact dga | (have e_ := (KQ.S_reads' HO_9.out).1; omega)); obtain ⟨ve306_2, ve306_3, rfl, ge306_2, ge306_3⟩ := k82_openM hMe306; have hv306_2 := hcc306 2 _ rfl; rw [add_field _ _ 2 (by omega)] at hv306_2; replace hv306_2 := Option.some.inj (hv306_2.symm.trans hx306_2); rw [hv306_2] at ge306_2; have HL306_2 := am (show Kd.R Kd.string 9 _ _ _ _ ((rd_T82 y305 x10_36).f2) from ge306_2); clear hv306_2 ge306_2; have HX306_2 := am hx306_2; have hv306_3 := hcc306 3 _ rfl; rw [add_field _ _ 3 (by omega)] at hv306_3; replace hv306_3 := Option.some.inj (hv306_3.symm.trans hx306_3); rw [hv306_3] at ge306_3; have HL306_3 := am (show Kd.R (Kd.int .i64) 3 _ _ _ _ ((rd_T82 y305 x10_36).f3) from ge306_3); clear hv306_3 ge306_3; have HX306_3 := am hx306_3; clear hcc306 hce306
          (first | simp only [add_plain] at hx306_0 | simp only [add_at] at hx306_0 | simp only [Addr.add, Nat.zero_add] at hx306_0 | skip)
          (first | simp only [add_plain] at hx306_1 | simp only [add_at] at hx306_1 | simp only [Addr.add, Nat.zero_add] at hx306_1 | skip)
          (first | simp only [add_plain] at hx306_2 | simp only [add_at] at hx306_2 | simp only [Addr.add, Nat.zero_add] at hx306_2 | skip)
          (first | simp only [add_plain] at hx306_3 | simp only [add_at] at hx306_3 | simp only [Addr.add, Nat.zero_add] at hx306_3 | skip)
          (first | simp only [add_plain] at hx306_4 | simp only [add_at] at hx306_4 | simp only [Addr.add, Nat.zero_add] at hx306_4 | skip)
          (first | simp only [add_plain] at hx306_5 | simp only [add_at] at hx306_5 | simp only [Addr.add, Nat.zero_add] at hx306_5 | skip)
          have HR306_2 := am hi306_2; have HC306_2 := am hl306_2; clear hi306_2 hl306_2; have HR306_3 := am hi306_3; have HC306_3 := am hl306_3; clear hi306_3 hl306_3; replace p306 := eq_true p306; replace q306 := eq_true q306; obtain ⟨oki93, ce93, hcl93, hM93, hcc93, _, _, hH93⟩ := KQ.S_elem HO_9.out z82 (x10_36 : Int) (dga) (by have h_ : (x10_36 : Int) < ((x9_36.length : Int) : Int) := dga; first | exact h_ | (have e_ := (KQ.S_reads' HO_9.out).1; omega) | simpa using h_); obtain ⟨ve93_2, ve93_3, rfl, ge93_2, ge93_3⟩ := k82_openM hM93; have hv93 := hcc93 2 _ rfl; have hX93 := HX306_2.out; (try simp only [add_at] at hX93); (try simp only [Nat.add_zero] at hv93); replace hv93 := Option.some.inj (hv93.symm.trans hX93); subst hv93; clear hX93 hcc93 hcl93; have UU93 := am (show Kd.R Kd.string 9 _ w.heap.size oki93 (.slice A306_2 ((rd_T82 y305 x10_36).f2).length c306_2) ((rd_T82 y305 x10_36).f2) from ge93_2); have HH93 := am hH93; have HN93 := am (KQ.S_reads' HO_9.out).1; have HE93_3 := am ge93_3; clear hH93 ge93_2 ge93_3; refine start_ (n := 12) (S := fun w' => w'.cell? ⟨gb274, 0, none⟩ = some (.int .i64 a1_0) ∧ w'.cell? ⟨gb274, 1, none⟩ = some (.int .i64 a1_1) ∧ w'.cell? ⟨gb274, 2, none⟩ = some (.int .i64 a1_2) ∧ w'.cell? ⟨gb274, 3, none⟩ = some (.int .i64 a1_3) ∧ w'.cell? ⟨gb274, 4, none⟩ = some (.bool a1_4) ∧ w'.cell? ⟨gb274, 5, none⟩ = some (.string a1_5) ∧ w'.cell? ⟨go51, of51 + (x10_36).toNat * 6, none⟩ = some (.int .i64 ((rd_T82 y305 x10_36).f0)) ∧ w'.cell? ⟨go51, of51 + (x10_36).toNat * 6 + 1, none⟩ = some (.int .i64 ((rd_T82 y305 x10_36).f1)) ∧ w'.cell? ⟨go51, of51 + (x10_36).toNat * 6 + 2, none⟩ = some (.slice A306_2 ((rd_T82 y305 x10_36).f2).length c306_2) ∧ w'.cell? ⟨go51, of51 + (x10_36).toNat * 6 + 3, none⟩ = some (.slice A306_3 ((rd_T82 y305 x10_36).f3).length c306_3) ∧ w'.cell? ⟨go51, of51 + (x10_36).toNat * 6 + 4, none⟩ = some (.int .i64 ((rd_T82 y305 x10_36).f4)) ∧ w'.cell? ⟨go51, of51 + (x10_36).toNat * 6 + 5, none⟩ = some (.int .i64 ((rd_T82 y305 x10_36).f5))) (ds := [11]) #[false, false, false, false, false, false, false, false, false, false, false, false] gk_ rfl rfl ⟨(blk_cell BK274.out 0).trans rfl, (blk_cell BK274.out 1).trans rfl, (blk_cell BK274.out 2).trans rfl, (blk_cell BK274.out 3).trans rfl, (blk_cell BK274.out 4).trans rfl, (blk_cell BK274.out 5).trans rfl, hx306_0, hx306_1, hx306_2, hx306_3, hx306_4, hx306_5⟩ (fun hHeld => ?_); refine with_tabW impl_JoinBits.tab14 impl_JoinBits.bits14 (fun HT_ HW_ => ?_); generalize w91.drew = w92 at HO_9 BK274 BK275 HB HE93_3 HH93 HL306_2 HL306_3 HQ88 HR306_2 HR306_3 HX306_2 HX306_3 UU93 hx306_0 hx306_1 hx306_2 hx306_3 hx306_4 hx306_5 hHeld ⊢; refine pu_ 0 82 HT_ ?_; refine pu_ 1 83 HT_ ?_; refine pu_ 2 84 HT_ ?_; refine pu_ 3 85 HT_ ?_; refine pu_ 5 87 HT_ ?_; refine ta_ 4 86 HT_ HW_ hHeld ?_; refine ta_ 6 88 HT_ HW_ hHeld ?_; refine one_ (i := 7) (N := some 89) #[true, true, true, true, true, true, true, true, false, false, false, false] rfl rfl (one_of HT_.out gk_) (by decide) (fun K hK => ?_); refine value_ (w1 := ?_) (v := ?_) (by rfl) rfl ?_ ?_
          rotate_left 2
          ·go_simp
           constructor
           ·rfl
           ·rfl
          refine hK.out _ _ ⟨(blk_cell (blk_alloc BK274.out _) 0).trans rfl, (blk_cell (blk_alloc BK274.out _) 1).trans rfl, (blk_cell (blk_alloc BK274.out _) 2).trans rfl, (blk_cell (blk_alloc BK274.out _) 3).trans rfl, (blk_cell (blk_alloc BK274.out _) 4).trans rfl, (blk_cell (blk_alloc BK274.out _) 5).trans rfl, (World.cell?_alloc_lt _ _ _ (World.block_lt_of_cell? _ _ (hHeld.2.2.2.2.2.2.1))).trans (hHeld.2.2.2.2.2.2.1), (World.cell?_alloc_lt _ _ _ (World.block_lt_of_cell? _ _ (hHeld.2.2.2.2.2.2.2.1))).trans (hHeld.2.2.2.2.2.2.2.1), (World.cell?_alloc_lt _ _ _ (World.block_lt_of_cell? _ _ (hHeld.2.2.2.2.2.2.2.2.1))).trans (hHeld.2.2.2.2.2.2.2.2.1), (World.cell?_alloc_lt _ _ _ (World.block_lt_of_cell? _ _ (hHeld.2.2.2.2.2.2.2.2.2.1))).trans (hHeld.2.2.2.2.2.2.2.2.2.1), (World.cell?_alloc_lt _ _ _ (World.block_lt_of_cell? _ _ (hHeld.2.2.2.2.2.2.2.2.2.2.1))).trans (hHeld.2.2.2.2.2.2.2.2.2.2.1), (World.cell?_alloc_lt _ _ _ (World.block_lt_of_cell? _ _ (hHeld.2.2.2.2.2.2.2.2.2.2.2))).trans (hHeld.2.2.2.2.2.2.2.2.2.2.2)⟩ (fun hHeld => ?_); clear hK K; refine norm_ (a' := ?_) ?_ ?_; rotate_left
          ·show Act.put _ (some 89) _ = _; simp only [Act.put, List.setIfInBounds_toArray, List.set_cons_zero, List.set_cons_succ, i64_w, i32_w]; rfl
          refine one_ (i := 8) (N := some 90) #[true, true, true, true, true, true, true, true, true, false, false, false] rfl rfl (one_of HT_.out gk_) (by decide) (fun K hK => ?_); refine Kd.R_append_step Kd.string (w0 := w) w.heap.size (by rfl) (.tmp 86) (.tmp 89) 25 9 (.string ⟨#[]⟩) 16 rfl Try.underlying25 info9 rfl (by decide) (by omega) (.slice A306_2 ((rd_T82 y305 x10_36).f2).length c306_2) ((rd_T82 y305 x10_36).f2) a1_5 [.string a1_5] (fun k_ => oki93 k_ ∨ ((fun _ => True)) k_ ∧ w92.heap.size ≤ k_) (fun _ => False) rfl rfl ?aP (fun _ hk => hk.elim) ?aF ?aO ?aB ?aS ?aL ?_
          (case aP => exact rfl)
          (case aB => exact (te2 HB.out GE274.out GE275.out))
          (case aF => exact (fun k_ hk => .inr ⟨trivial, hk⟩))
          (case aO => (with_reducible repeat (first | apply Kd.R_alloc | apply Kd.R_drewN | apply Kd.R_drew)); exact Kd.R_mono UU93.out (fun _ hk => .inl hk))
          (case aS => exact BJ7x54_)
          (case aL => have := LMc81.out; omega)
          intro v308 w94 ho hb hg hat
          (first | have HS6_ := cell_grown hg (hHeld.2.2.2.2.2.2.1) BJ7x3_ | have HS6_ := cell_grown hg (cell_unalloc (hHeld.2.2.2.2.2.2.1) B7q7_) BJ7x3_)
          (first | have HS7_ := cell_grown hg (hHeld.2.2.2.2.2.2.2.1) BJ7x3_ | have HS7_ := cell_grown hg (cell_unalloc (hHeld.2.2.2.2.2.2.2.1) B7q7_) BJ7x3_)
          (first | have HS8_ := cell_grown hg (hHeld.2.2.2.2.2.2.2.2.1) BJ7x3_ | have HS8_ := cell_grown hg (cell_unalloc (hHeld.2.2.2.2.2.2.2.2.1) B7q7_) BJ7x3_)
          (first | have HS9_ := cell_grown hg (hHeld.2.2.2.2.2.2.2.2.2.1) BJ7x3_ | have HS9_ := cell_grown hg (cell_unalloc (hHeld.2.2.2.2.2.2.2.2.2.1) B7q7_) BJ7x3_)
          (first | have HS10_ := cell_grown hg (hHeld.2.2.2.2.2.2.2.2.2.2.1) BJ7x3_ | have HS10_ := cell_grown hg (cell_unalloc (hHeld.2.2.2.2.2.2.2.2.2.2.1) B7q7_) BJ7x3_)
          (first | have HS11_ := cell_grown hg (hHeld.2.2.2.2.2.2.2.2.2.2.2) BJ7x3_ | have HS11_ := cell_grown hg (cell_unalloc (hHeld.2.2.2.2.2.2.2.2.2.2.2) B7q7_) BJ7x3_)
          rw [← Ny307.out] at ho; replace BK274 := am (blk_grown (g := gb274) (o := .cells #[.int .i64 a1_0, .int .i64 a1_1, .int .i64 a1_2, .int .i64 a1_3, .bool a1_4, .string a1_5] 62 (0, 0)) (tb BK274.out) hg (Kd.R_ne HL306_2.out BK274.out (by decide))); replace BK275 := am (blk_grown (g := gb275) (o := .cells #[.int .i64 0, .int .i64 0, .int .i64 0, .int .i64 0, .bool false, .string (⟨#[]⟩ : ByteArray)] 62 (0, 0)) (tb BK275.out) hg (Kd.R_ne HL306_2.out BK275.out (by decide))); replace HB := am (hb); replace HH93 := am (KQ.H_grown (KQ.H_widen (by repeat (first | exact HH93.out | refine KQ.H_alloc ?_ _ | refine KQ.H_drewN ?_ _ | refine KQ.H_drew ?_))) hg (fun k_ e_ => .inl (UU93.out.1 k_ e_))); replace HE93_3 := am (Kd.R_over' (v := (.slice A306_2 ((rd_T82 y305 x10_36).f2).length c306_2)) (tr HE93_3.out) (Kd.R_typed UU93.out) (by decide) hg); have HO309 := am (ho); clear HO_9; clear UU93; clear HL306_2; clear HL306_3; clear ho hb hg hat
          have p82 : 0 ≤ (x10_36 : Int) := dga
          have q82 : (x10_36 : Int) < ((x9_36.length : Int) : Int) := dga
          replace p82 := eq_true p82; replace q82 := eq_true q82; obtain ⟨Ao97, co97, eo97⟩ := Kd.R_slice HO309.out
          (first | subst eo97 | (injection eo97 with f1_ f2_ f3_; have f4_ := f1_.symm; have f5_ := f3_.symm; clear f1_ f2_ f3_; subst f4_; subst f5_))
          obtain ⟨_, _, hraw95, _, _, hcc95, _⟩ := KQ.H_raw HH93.out (dga) (by have h_ : (x10_36 : Int) < ((x9_36.length : Int) : Int) := dga; first | exact h_ | (have e_ := (HN93.out); omega) | simpa using h_); obtain ⟨_, hfr95⟩ := KQ.H_at HH93.out (dga) (by have h_ : (x10_36 : Int) < ((x9_36.length : Int) : Int) := dga; first | exact h_ | (have e_ := (HN93.out); omega) | simpa using h_); have hx95_0 := hcc95 2 _ rfl; have hf95_0 := hfr95 2; (try rw [show (k82).sz = 6 from rfl] at hx95_0); (try rw [show (k82).sz = 6 from rfl] at hf95_0); have HP95 := KQ.S_seg0 HH93.out (dga) (by have h_ : (x10_36 : Int) < ((x9_36.length : Int) : Int) := dga; first | exact h_ | (have e_ := (HN93.out); omega) | simpa using h_) (seg := [.slice Ao97 y307.length co97]) (j := 2) (show 3 ≤ 6 from (by decide)) (x' := (⟨(rd_T82 y305 x10_36).f0, (rd_T82 y305 x10_36).f1, y307, (rd_T82 y305 x10_36).f3, (rd_T82 y305 x10_36).f4, (rd_T82 y305 x10_36).f5⟩ : S82)) (k82_mkM _ _ _ (⟨(rd_T82 y305 x10_36).f0, (rd_T82 y305 x10_36).f1, y307, (rd_T82 y305 x10_36).f3, (rd_T82 y305 x10_36).f4, (rd_T82 y305 x10_36).f5⟩ : S82) HO309.out (Kd.R_mono HE93_3.out (fun _ h_ => .inl h_))) (fun _ hk => hk); clear hcc95 hfr95; have HNB274_go51 := am (show gb274 ≠ go51 from (by have h_ := Kd.R_ne hraw95 BK274.out (by decide); intro e_; exact h_ (by rw [e_]; rfl))); have HNB275_go51 := am (show gb275 ≠ go51 from (by have h_ := Kd.R_ne hraw95 BK275.out (by decide); intro e_; exact h_ (by rw [e_]; rfl))); have HS95 := HP95.1; rw [← Ny310.out] at HS95; have HQ95 := am HS95; obtain ⟨_, hgg95⟩ := Kd.R_typed hraw95 go51 rfl; have GG95_ := am hgg95; clear HP95 HS95 hgg95; refine hK.out _ _ ⟨(blk_cell BK274.out 0).trans rfl, (blk_cell BK274.out 1).trans rfl, (blk_cell BK274.out 2).trans rfl, (blk_cell BK274.out 3).trans rfl, (blk_cell BK274.out 4).trans rfl, (blk_cell BK274.out 5).trans rfl, HS6_, HS7_, HS8_, HS9_, HS10_, HS11_⟩ (fun hHeld => ?_); clear hK K; refine norm_ (a' := ?_) ?_ ?_; rotate_left
          ·show Act.put _ (some 90) _ = _; simp only [Act.put, List.setIfInBounds_toArray, List.set_cons_zero, List.set_cons_succ, i64_w, i32_w]; rfl
          refine pu_ 9 91 HT_ ?_; refine pu_ 10 92 HT_ ?_; refine last_ (i := 11) (N := none) #[true, true, true, true, true, true, true, true, true, true, true, true] rfl rfl (one_of HT_.out gk_) (by decide) (fun K hK => ?_); refine skip_ (w1 := ?_) (by rfl) rfl ?_ ?_; rotate_left
          ·go_simp; rfl
          refine hK.out _ _ ?_; clear hK K; refine done_ (done_of HT_.out gk_) ?_
          go_upto_region 15 with (fail)
          go_cut [102] (fun v102 wc => ∃ (kq : Nat) (x102_82 : Bool), v102 = .bool x102_82 ∧ Aside0 (impl_JoinBits.j3 kq y310 x10_36 x102_82 a1_0 a1_1 a1_2 a1_3 a1_4 a1_5 = some (r1, r2, r3, r4, r5, r6, r7, r8)) ∧ Aside0 (kq ≤ kj36) ∧ Aside0 (KQ.S k82 82 wc w.heap.size (fun _ => True) (.slice (some ⟨go51, of51, none⟩) x9_36.length co51) y310) ∧ Aside0 (wc.heap[gb274]? = some (.cells #[.int .i64 a1_0, .int .i64 a1_1, .int .i64 a1_2, .int .i64 a1_3, .bool a1_4, .string a1_5] 62 (0, 0))) ∧ Aside0 (wc.heap[gb275]? = some (.cells #[.int .i64 0, .int .i64 0, .int .i64 0, .int .i64 0, .bool false, .string (⟨#[]⟩ : ByteArray)] 62 (0, 0))) ∧ Aside0 (Below w.heap.size w wc))
          case first =>
           have H := HC83.out; clear HC83
           by_cases c98 : a1_4 = true
           ·subst c98; rw [if_pos rfl] at H
            have H' := am H
            clear H; have hnb99 := NB274_275.out; have hgo99 := HNB274_go51.out; have hgp99 := HNB274_go51.out.symm; have hgq99 := HNB275_go51.out; have hgr99 := HNB275_go51.out.symm; have hnc99 := NB275_274.out; obtain ⟨hcz100_0, hcz100_1, hcz100_2, hcz100_3, hcz100_4, hcz100_5⟩ := cl6 BK274.out; obtain ⟨hfz100_0, hfz100_1, hfz100_2, hfz100_3, hfz100_4, hfz100_5⟩ := fr6 BK274.out
            go_wp2
            go_meet
            case rel => exact ⟨_, (false), (be_), H', ⟨BJ7x48_⟩, ⟨(tsq HQ95.out)⟩, ⟨(tp1 BK274.out HNB274_go51.out)⟩, ⟨(tp1 BK275.out HNB275_go51.out)⟩, ⟨(te3 HB.out GB51.out GE274.out GE275.out)⟩⟩
           ·replace c98 := Bool.eq_false_iff.mpr c98; subst c98; rw [if_neg (show ¬ (false = true) by decide)] at H
            have H' := am H
            clear H; have hnb101 := NB274_275.out; have hgo101 := HNB274_go51.out; have hgp101 := HNB274_go51.out.symm; have hgq101 := HNB275_go51.out; have hgr101 := HNB275_go51.out.symm; have hnc101 := NB275_274.out; obtain ⟨hcz102_0, hcz102_1, hcz102_2, hcz102_3, hcz102_4, hcz102_5⟩ := cl6 BK274.out; obtain ⟨hfz102_0, hfz102_1, hfz102_2, hfz102_3, hfz102_4, hfz102_5⟩ := fr6 BK274.out
            have p311 : 0 ≤ (x10_36 : Int) := dga
            have q311 : x10_36 < (y310.length : Int) := (by have h_ : (x10_36 : Int) < ((x9_36.length : Int) : Int) := dga; first | (have e_ := (KQ.S_reads' HO_9.out).1; omega) | simpa only [Ny305.out, Ny310.out, List.length_set] using h_)
            have ql311 : ((x10_36 : Int) < ((x9_36.length : Int) : Int)) = True := eq_true (dga)
            obtain ⟨ad311, A311_2, c311_2, A311_3, c311_3, e311, hx311_0, hx311_1, hx311_2, hx311_3, hx311_4, hx311_5, hl311_2, hi311_2, hl311_3, hi311_3⟩ := at_T82 (KQ.S_reads' HQ95.out).2.2 x10_36 p311 q311; obtain rfl : (⟨go51, of51, none⟩ : Addr) = ad311 := (by injection e311)
            (first | simp only [add_plain] at hx311_0 | simp only [add_at] at hx311_0 | simp only [Addr.add, Nat.zero_add] at hx311_0 | skip)
            (first | simp only [add_plain] at hx311_1 | simp only [add_at] at hx311_1 | simp only [Addr.add, Nat.zero_add] at hx311_1 | skip)
            (first | simp only [add_plain] at hx311_2 | simp only [add_at] at hx311_2 | simp only [Addr.add, Nat.zero_add] at hx311_2 | skip)
            (first | simp only [add_plain] at hx311_3 | simp only [add_at] at hx311_3 | simp only [Addr.add, Nat.zero_add] at hx311_3 | skip)
            (first | simp only [add_plain] at hx311_4 | simp only [add_at] at hx311_4 | simp only [Addr.add, Nat.zero_add] at hx311_4 | skip)
            (first | simp only [add_plain] at hx311_5 | simp only [add_at] at hx311_5 | simp only [Addr.add, Nat.zero_add] at hx311_5 | skip)
            have HR311_2 := am hi311_2; have HC311_2 := am hl311_2; clear hi311_2 hl311_2; have HR311_3 := am hi311_3; have HC311_3 := am hl311_3; clear hi311_3 hl311_3; replace p311 := eq_true p311; replace q311 := eq_true q311
            go_wp2
            go_meet
            case rel => exact ⟨_, ((((rd_T82 y310 x10_36).f4) == 0)), (by rw [show (rd_T82 y310 x10_36).f4 = (rd_T82 y305 x10_36).f4 from (by rw [Ny310.out]; unfold rd_T82; by_cases hh_ : (x10_36 : Int).toNat < y305.length; (rw [List.getD_eq_getElem?_getD, List.getElem?_set_self hh_]; try rfl); (rw [List.set_eq_of_length_le (Nat.le_of_not_lt hh_)]))]; first | done | exact be_), H', ⟨BJ7x48_⟩, ⟨(tsq HQ95.out)⟩, ⟨(tp1 BK274.out HNB274_go51.out)⟩, ⟨(tp1 BK275.out HNB275_go51.out)⟩, ⟨(te3 HB.out GB51.out GE274.out GE275.out)⟩⟩
          case rest =>
           clear HC83
           try clear c28
           try clear c79
           try clear p80
           try clear q80
           try clear c81
           try clear p82
           try clear q82
           try clear hx301_0
           try clear hx301_1
           try clear hx301_2
           try clear hx301_3
           try clear hx301_4
           try clear hx301_5
           try clear hx306_0
           try clear hx306_1
           try clear hx306_2
           try clear hx306_3
           try clear hx306_4
           try clear hx306_5
           try clear hx88_0
           try clear hx95_0
           try clear p301
           try clear p306
           try clear p80
           try clear p82
           try clear q301
           try clear q306
           try clear q80
           try clear q82
           obtain ⟨kq, x102_82, rfl, HA, HJ82, HO_9, BK274, BK275, HB⟩ := hcut; have hl9_82 := (KQ.S_reads' HO_9.out).1; rw [hl9_82] at HO_9; (try simp only [hl9_82]); (try simp only [hl9_82] at BK274); (try simp only [hl9_82] at BK275)
           cases kq with
           | zero => exact absurd HA.out (by simp [impl_JoinBits.j3])
           | succ kj82 =>
            have H := HA.out; clear HA; simp only [impl_JoinBits.j3] at H
            by_cases c103 : x102_82 = true
            ·subst c103; rw [if_pos rfl] at H
             by_cases c104 : 0 ≤ x10_36
             rotate_left
             ·rw [if_neg c104] at H; exact absurd H (by simp)
             rw [if_pos c104] at H
             have c104b0 : decide (0 ≤ x10_36) = true := decide_eq_true c104
             clear c104
             by_cases c105 : x10_36 < (y310.length : Int)
             rotate_left
             ·rw [if_neg c105] at H; exact absurd H (by simp)
             rw [if_pos c105] at H
             have c105b0 : decide (x10_36 < (y310.length : Int)) = true := decide_eq_true c105
             clear c105; obtain ⟨y312, hy312⟩ : ∃ y_ : List (S82), y_ = (y310.set (x10_36 : Int).toNat (⟨(rd_T82 y310 x10_36).f0, (rd_T82 y310 x10_36).f1, (rd_T82 y310 x10_36).f2, (rd_T82 y310 x10_36).f3, wrap64 (a1_3 + (a1_5.size : Int)), (rd_T82 y310 x10_36).f5⟩ : S82)) := ⟨_, rfl⟩
             replace H : ((impl_whole.f kj82 ((rd_T82 y312 x10_36).f0) ((rd_T82 y312 x10_36).f1) ((rd_T82 y312 x10_36).f2) ((rd_T82 y312 x10_36).f3) ((rd_T82 y312 x10_36).f4) ((rd_T82 y312 x10_36).f5)).bind fun bt314 => (if bt314.2 = true then (if x10_36 ≤ (y310.length : Int) then (if 0 ≤ (wrap64 (x10_36 + 1)) then (if (wrap64 (x10_36 + 1)) ≤ (y310.length : Int) then (some ((y312.eraseIdx (x10_36 : Int).toNat), a1_0, a1_1, a1_2, 0, false, bt314.1, true)) else (none)) else (none)) else (none)) else (some (y312, 0, 0, 0, 0, false, (⟨#[]⟩ : ByteArray), false)))) = some (r1, r2, r3, r4, r5, r6, r7, r8) := by first | (rw [hy312]; with_reducible exact H) | (have H2_ := (Option.bind_some _ _).symm.trans H; rw [hy312]; with_reducible exact H2_) | (have H2_ := (Option.bind_some _ _).symm.trans H; with_reducible exact H2_) | with_reducible exact H | (rw [hy312]; exact H) | exact H
             have Ny312 := am hy312; clear hy312; replace H := bsi H; obtain ⟨⟨t314, t315⟩, A107, H⟩ := H; (try dsimp only at H)
             by_cases c108 : t315 = true
             ·subst c108; rw [if_pos rfl] at H; have c109b0 := eq_true (dga : 0 ≤ x10_36)
              by_cases c110 : x10_36 ≤ (y310.length : Int)
              rotate_left
              ·rw [if_neg c110] at H; exact absurd H (by simp)
              rw [if_pos c110] at H; have c110b0 := eq_true c110
              have c110b1 : decide (x10_36 ≤ (y310.length : Int)) = true := decide_eq_true c110
              clear c110; obtain ⟨y316, hy316⟩ : ∃ y_ : List (S82), y_ = (y312.take (x10_36 : Int).toNat) := ⟨_, rfl⟩
              replace H : (if 0 ≤ (wrap64 (x10_36 + 1)) then (if (wrap64 (x10_36 + 1)) ≤ (y310.length : Int) then (some ((y312.eraseIdx (x10_36 : Int).toNat), a1_0, a1_1, a1_2, 0, false, t314, true)) else (none)) else (none)) = some (r1, r2, r3, r4, r5, r6, r7, r8) := by first | (rw [hy316]; with_reducible exact H) | (have H2_ := (Option.bind_some _ _).symm.trans H; rw [hy316]; with_reducible exact H2_) | (have H2_ := (Option.bind_some _ _).symm.trans H; with_reducible exact H2_) | with_reducible exact H | (rw [hy316]; exact H) | exact H
              have Ny316 := am hy316; clear hy316; obtain ⟨ji111, hji111⟩ : ∃ j_ : Int, (wrap64 (x10_36 + 1)) = j_ := ⟨_, rfl⟩
              replace H : (if 0 ≤ (ji111) then (if (ji111) ≤ (y310.length : Int) then (some ((y312.eraseIdx (x10_36 : Int).toNat), a1_0, a1_1, a1_2, 0, false, t314, true)) else (none)) else (none)) = some (r1, r2, r3, r4, r5, r6, r7, r8) := by first | (rw [hji111] at H; exact H) | (simp only [hji111] at H ⊢; exact H)
              (try rw [hji111] at A107)
              have hji111w : (IntKind.i64.wrap (x10_36 + 1)) = ji111 := (i64_w _).trans hji111
              by_cases c112 : 0 ≤ (ji111)
              rotate_left
              ·rw [if_neg c112] at H; exact absurd H (by simp)
              rw [if_pos c112] at H; have c112b0 := eq_true c112
              have c112b1 : decide (0 ≤ (ji111)) = true := decide_eq_true c112
              clear c112
              by_cases c113 : (ji111) ≤ (y310.length : Int)
              rotate_left
              ·rw [if_neg c113] at H; exact absurd H (by simp)
              rw [if_pos c113] at H; have c113b0 := eq_true c113
              have c113b1 : decide ((ji111) ≤ (y310.length : Int)) = true := decide_eq_true c113
              clear c113; obtain ⟨y320, hy320⟩ : ∃ y_ : List (S82), y_ = (y312.drop ((ji111) : Int).toNat) := ⟨_, rfl⟩
              replace H : (some ((y312.eraseIdx (x10_36 : Int).toNat), a1_0, a1_1, a1_2, 0, false, t314, true)) = some (r1, r2, r3, r4, r5, r6, r7, r8) := by first | (rw [hy320]; with_reducible exact H) | (have H2_ := (Option.bind_some _ _).symm.trans H; rw [hy320]; with_reducible exact H2_) | (have H2_ := (Option.bind_some _ _).symm.trans H; with_reducible exact H2_) | with_reducible exact H | (rw [hy320]; exact H) | exact H
              have Ny320 := am hy320; clear hy320; obtain ⟨y324, hy324⟩ : ∃ y_ : List (S82), y_ = (y312.eraseIdx (x10_36 : Int).toNat) := ⟨_, rfl⟩
              replace H : (some (y324, a1_0, a1_1, a1_2, 0, false, t314, true)) = some (r1, r2, r3, r4, r5, r6, r7, r8) := by first | (rw [hy324]; with_reducible exact H) | (have H2_ := (Option.bind_some _ _).symm.trans H; rw [hy324]; with_reducible exact H2_) | (have H2_ := (Option.bind_some _ _).symm.trans H; with_reducible exact H2_) | with_reducible exact H | (rw [hy324]; exact H) | exact H
              have Ny324 := am hy324; clear hy324; simp only [Option.some.injEq, Prod.mk.injEq] at H; obtain ⟨rfl, rfl, rfl, rfl, rfl, rfl, rfl, rfl⟩ := H; have hnb114 := NB274_275.out; have hgo114 := HNB274_go51.out; have hgp114 := HNB274_go51.out.symm; have hgq114 := HNB275_go51.out; have hgr114 := HNB275_go51.out.symm; have hnc114 := NB275_274.out; obtain ⟨hcz115_0, hcz115_1, hcz115_2, hcz115_3, hcz115_4, hcz115_5⟩ := cl6 BK274.out; obtain ⟨hfz115_0, hfz115_1, hfz115_2, hfz115_3, hfz115_4, hfz115_5⟩ := fr6 BK274.out
              have p106 : 0 ≤ (x10_36 : Int) := dga
              have q106 : (x10_36 : Int) < ((y310.length : Int) : Int) := dga
              obtain ⟨_, ce106, hcl106, hM106, hcc106, hfr106, _, _⟩ := KQ.S_elem HO_9.out z82 (x10_36 : Int) p106 q106; obtain ⟨ve106_2, ve106_3, rfl, ge106_2, ge106_3⟩ := k82_openM hM106
              have hx106_0 : wc.cell? ⟨go51, of51 + (x10_36 : Int).toNat * 6, none⟩ = some (.int .i64 ((rd_T82 y310 x10_36).f0)) := hcc106 0 _ rfl
              have hx106_1 : wc.cell? ⟨go51, of51 + (x10_36 : Int).toNat * 6 + 1, none⟩ = some (.int .i64 ((rd_T82 y310 x10_36).f1)) := hcc106 1 _ rfl
              have hx106_2 : wc.cell? ⟨go51, of51 + (x10_36 : Int).toNat * 6 + 2, none⟩ = some (ve106_2) := hcc106 2 _ rfl
              have hx106_3 : wc.cell? ⟨go51, of51 + (x10_36 : Int).toNat * 6 + 3, none⟩ = some (ve106_3) := hcc106 3 _ rfl
              have hx106_4 : wc.cell? ⟨go51, of51 + (x10_36 : Int).toNat * 6 + 4, none⟩ = some (.int .i64 ((rd_T82 y310 x10_36).f4)) := hcc106 4 _ rfl
              have hx106_5 : wc.cell? ⟨go51, of51 + (x10_36 : Int).toNat * 6 + 5, none⟩ = some (.int .i64 ((rd_T82 y310 x10_36).f5)) := hcc106 5 _ rfl
              have hf106_0 : wc.frozen? ⟨go51, of51 + (x10_36 : Int).toNat * 6, none⟩ = false := hfr106 0
              have hf106_1 : wc.frozen? ⟨go51, of51 + (x10_36 : Int).toNat * 6 + 1, none⟩ = false := hfr106 1
              have hf106_2 : wc.frozen? ⟨go51, of51 + (x10_36 : Int).toNat * 6 + 2, none⟩ = false := hfr106 2
              have hf106_3 : wc.frozen? ⟨go51, of51 + (x10_36 : Int).toNat * 6 + 3, none⟩ = false := hfr106 3
              have hf106_4 : wc.frozen? ⟨go51, of51 + (x10_36 : Int).toNat * 6 + 4, none⟩ = false := hfr106 4
              have hf106_5 : wc.frozen? ⟨go51, of51 + (x10_36 : Int).toNat * 6 + 5, none⟩ = false := hfr106 5
              clear hcl106 hcc106 hfr106 hM106; replace p106 := eq_true p106; replace q106 := eq_true q106; have HX116 := am (show KQ.S k82 82 wc w.heap.size (fun k_ => ((fun _ => True)) k_ ∧ ¬ ((fun _ => False)) k_) (.slice (some ⟨go51, of51, none⟩) y310.length co51) y310 from B7q26_); obtain ⟨oki116, ce116, hcl116, hM116, hcc116, hfr116, hoki116, hH116⟩ := KQ.S_elem HX116.out z82 (x10_36 : Int) (dga) (by have h_ : (x10_36 : Int) < ((y310.length : Int) : Int) := dga; first | exact h_ | (have e_ := (KQ.S_reads' HO_9.out).1; omega) | simpa using h_); obtain ⟨ve116_2, ve116_3, rfl, ge116_2, ge116_3⟩ := k82_openM hM116; have HP116 := KQ.S_seg hH116 (dga) (by have h_ : (x10_36 : Int) < ((y310.length : Int) : Int) := dga; first | exact h_ | (have e_ := (KQ.S_reads' HO_9.out).1; omega) | simpa using h_) (seg := [.int .i64 (wrap64 (a1_3 + (a1_5.size : Int)))]) (j := 4) (show 5 ≤ 6 from (by decide)) (x' := (⟨(rd_T82 y310 x10_36).f0, (rd_T82 y310 x10_36).f1, (rd_T82 y310 x10_36).f2, (rd_T82 y310 x10_36).f3, wrap64 (a1_3 + (a1_5.size : Int)), (rd_T82 y310 x10_36).f5⟩ : S82)) (k82_mkM _ _ _ (⟨(rd_T82 y310 x10_36).f0, (rd_T82 y310 x10_36).f1, (rd_T82 y310 x10_36).f2, (rd_T82 y310 x10_36).f3, wrap64 (a1_3 + (a1_5.size : Int)), (rd_T82 y310 x10_36).f5⟩ : S82) (Kd.R_mono ge116_2 (fun _ h_ => Or.inl h_)) (Kd.R_mono ge116_3 (fun _ h_ => Or.inl h_))) (fun _ hk => hk) (fun k_ hk_ => hk_.elim); have hx116_4 := hcc116 4 _ rfl; (try simp only [show (k82).sz = 6 from rfl, Nat.mul_one, Nat.add_zero] at hx116_4); have hf116_4 := hfr116 4; (try simp only [show (k82).sz = 6 from rfl, Nat.mul_one, Nat.add_zero] at hf116_4); clear hcl116 hcc116 hfr116 hM116 hoki116 hH116
              try go_wp2_with (first | ((with_reducible refine gate_store (t := 3) (p := 111) rfl ?_); refine store_event (t := 3) (p := 111) (v := ?vo_w117) (w1 := (wc.setCell ⟨go51, of51 + (x10_36 : Int).toNat * 6 + 4, none⟩ (.int .i64 (wrap64 (a1_3 + (a1_5.size : Int)))))) ?hg ?ho ?hn ?hr ?_; (case ho => rfl); (case hg => rfl); (case hn => rfl); (case hr => exact gs_); intro w117 hw; have hg : wc.grownBy w117 (some go51) := (by rw [hw]; exact HP116.2); have hp_ : KQ.S k82 82 w117 w.heap.size (fun _ => True) (.slice (some ⟨go51, of51, none⟩) y310.length co51) y312 := (by rw [hw, Ny312.out]; exact HP116.1); clear HP116; replace BK274 := am (blk_grown (g := gb274) (o := .cells #[.int .i64 a1_0, .int .i64 a1_1, .int .i64 a1_2, .int .i64 a1_3, .bool a1_4, .string a1_5] 62 (0, 0)) (tb BK274.out) hg (KQ.S_ne HO_9.out BK274.out (by decide))); replace BK275 := am (blk_grown (g := gb275) (o := .cells #[.int .i64 0, .int .i64 0, .int .i64 0, .int .i64 0, .bool false, .string (⟨#[]⟩ : ByteArray)] 62 (0, 0)) (tb BK275.out) hg (KQ.S_ne HO_9.out BK275.out (by decide))); replace HO_9 := am (hp_); replace HB := am ((by rw [hw]; exact below_set (HB.out) GB51.out : Below w.heap.size w w117)); clear hg hw hp_; have p313 : 0 ≤ (x10_36 : Int) := dga; have q313 : x10_36 < (y312.length : Int) := (by have h_ : (x10_36 : Int) < ((y310.length : Int) : Int) := dga; first | (have e_ := (KQ.S_reads' HO_9.out).1; omega) | simpa only [Ny312.out, List.length_set] using h_); have ql313 : ((x10_36 : Int) < ((y310.length : Int) : Int)) = True := eq_true (dga); obtain ⟨ad313, A313_2, c313_2, A313_3, c313_3, e313, hx313_0, hx313_1, hx313_2, hx313_3, hx313_4, hx313_5, hl313_2, hi313_2, hl313_3, hi313_3⟩ := at_T82 (KQ.S_reads' HO_9.out).2.2 x10_36 p313 q313; obtain rfl : (⟨go51, of51, none⟩ : Addr) = ad313 := (by injection e313); obtain ⟨ce313, hce313, hMe313, hcc313⟩ := KQ.S_get HO_9.out z82 x10_36 p313 B7q46_; obtain ⟨ve313_2, ve313_3, rfl, ge313_2, ge313_3⟩ := k82_openM hMe313; have hv313_2 := hcc313 2 _ rfl; rw [add_field _ _ 2 (by omega)] at hv313_2; replace hv313_2 := Option.some.inj (hv313_2.symm.trans hx313_2); rw [hv313_2] at ge313_2; have HL313_2 := am (show Kd.R Kd.string 9 _ _ _ _ ((rd_T82 y312 x10_36).f2) from ge313_2); clear hv313_2 ge313_2; have HX313_2 := am hx313_2; have hv313_3 := hcc313 3 _ rfl; rw [add_field _ _ 3 (by omega)] at hv313_3; replace hv313_3 := Option.some.inj (hv313_3.symm.trans hx313_3); rw [hv313_3] at ge313_3; have HL313_3 := am (show Kd.R (Kd.int .i64) 3 _ _ _ _ ((rd_T82 y312 x10_36).f3) from ge313_3); clear hv313_3 ge313_3; have HX313_3 := am hx313_3; clear hcc313 hce313; (first | simp only [add_plain] at hx313_0 | simp only [add_at] at hx313_0 | simp only [Addr.add, Nat.zero_add] at hx313_0 | skip); (first | simp only [add_plain] at hx313_1 | simp only [add_at] at hx313_1 | simp only [Addr.add, Nat.zero_add] at hx313_1 | skip); (first | simp only [add_plain] at hx313_2 | simp only [add_at] at hx313_2 | simp only [Addr.add, Nat.zero_add] at hx313_2 | skip); (first | simp only [add_plain] at hx313_3 | simp only [add_at] at hx313_3 | simp only [Addr.add, Nat.zero_add] at hx313_3 | skip); (first | simp only [add_plain] at hx313_4 | simp only [add_at] at hx313_4 | simp only [Addr.add, Nat.zero_add] at hx313_4 | skip); (first | simp only [add_plain] at hx313_5 | simp only [add_at] at hx313_5 | simp only [Addr.add, Nat.zero_add] at hx313_5 | skip); have HR313_2 := am hi313_2; have HC313_2 := am hl313_2; clear hi313_2 hl313_2; have HR313_3 := am hi313_3; have HC313_3 := am hl313_3; clear hi313_3 hl313_3; replace p313 := eq_true p313; replace q313 := eq_true q313) | ((with_reducible refine gate_callee (f := 102) rfl ?_); refine goesL_ (some 116) rfl rfl Try.func102 gk_ rfl #[.agg #[.int .i64 ((rd_T82 y312 x10_36).f0), .int .i64 ((rd_T82 y312 x10_36).f1), .slice A313_2 ((rd_T82 y312 x10_36).f2).length c313_2, .slice A313_3 ((rd_T82 y312 x10_36).f3).length c313_3, .int .i64 ((rd_T82 y312 x10_36).f4), .int .i64 ((rd_T82 y312 x10_36).f5)]] rfl gm_ ?_; (with_reducible refine (impl_whole.calls kj82 ((rd_T82 y312 x10_36).f0) ((rd_T82 y312 x10_36).f1) _ _ ((rd_T82 y312 x10_36).f2) _ _ ((rd_T82 y312 x10_36).f3) ((rd_T82 y312 x10_36).f4) ((rd_T82 y312 x10_36).f5) t314 true _ ?side1 ?side2 ?side3 ?side4 A107.out).mono ?_); (case side1 => exact (tc (td HR313_2.out))); (case side2 => exact HC313_2.out); (case side3 => exact (tc (td HR313_3.out))); (case side4 => exact HC313_3.out); rintro e w118 ⟨rfl, hb⟩; refine ⟨_, rfl, ?_⟩; replace HO_9 := am (KQ.S_below (tsq HO_9.out) hb); replace HL313_2 := am (Kd.R_below (tr HL313_2.out) hb); replace HL313_3 := am (Kd.R_below (tr HL313_3.out) hb); replace BK274 := am (bb BK274.out hb); replace BK275 := am (bb BK275.out hb); replace HR313_2 := am (cb HR313_2.out hb); replace HX313_2 := am (pw_cell_below hb HX313_2.out); replace HR313_3 := am (cb HR313_3.out hb); replace HX313_3 := am (pw_cell_below hb HX313_3.out); replace HB := am (below_step (te2 HB.out GE274.out GE275.out) hb); (try clear hb); (try clear hl)))
              replace HO_9 := am (KQ.S_drew HO_9.out); replace HL313_2 := am (Kd.R_drew HL313_2.out); replace HL313_3 := am (Kd.R_drew HL313_3.out); replace BK274 := am (blk_drew BK274.out); replace BK275 := am (blk_drew BK275.out); replace HR313_2 := am (Kd.C_drew HR313_2.out); replace HR313_3 := am (Kd.C_drew HR313_3.out); replace HB := am (below_drew1 HB.out); have hlx120 := (KQ.S_reads' HO_9.out).1
              have q120 : (x10_36 : Int) ≤ ((y310.length : Int) : Int) := dga
              obtain ⟨i0120, hi0120, _, hsz120, _⟩ := info_parts info82
              have hroom120 : y310.length ≤ co51 := (KQ.S_reads' HO_9.out).2.1
              have hroomc120 : y312.length ≤ co51 := (by rw [← hlx120]; exact hroom120)
              have hC120 : Kd.C k82 _ (some ⟨go51, of51, none⟩) y312.length y312 := (KQ.S_reads' HO_9.out).2.2
              have hcut120 := cut_to (P := Try.prog) 68 82 .i64 Try.underlying68 hi0120 (some ⟨go51, of51, none⟩) y310.length co51 x10_36 (dga) q120 hroom120; have hr120 := Kd.C_take (m := (x10_36 : Int).toNat) hC120 (by omega)
              have hy120 : y316.length = (x10_36 : Int).toNat := (by rw [Ny316.out, List.length_take]; omega)
              rw [← Ny316.out] at hr120; rw [← hy120] at hcut120; have HR319 := am hr120; have HC319 := am (show y316.length ≤ co51 from (by omega)); clear hr120 hC120 hroom120 hi0120 hsz120 hroomc120; have KY120 := am hy120; clear hy120; have KE120 := am hlx120; have KL120 := am (show (x10_36 : Int).toNat ≤ y312.length from (by omega)); clear hlx120; replace q120 := eq_true q120; have hlx121 := (KQ.S_reads' HO_9.out).1
              have q121 : ((ji111) : Int) ≤ ((y310.length : Int) : Int) := dga
              obtain ⟨i0121, hi0121, _, hsz121, _⟩ := info_parts info82
              have hroom121 : y310.length ≤ co51 := (KQ.S_reads' HO_9.out).2.1
              have hroomc121 : y312.length ≤ co51 := (by rw [← hlx121]; exact hroom121)
              have hC121 : Kd.C k82 _ (some ⟨go51, of51, none⟩) y312.length y312 := (KQ.S_reads' HO_9.out).2.2
              have q0121 : (0 : Int) ≤ ((ji111) : Int) := dga
              have hcut121 := cut_from (P := Try.prog) 68 82 .i64 Try.underlying68 hi0121 6 hsz121 (some ⟨go51, of51, none⟩) y310.length co51 (ji111) q0121 q121; have hr121 := Kd.C_drop (m := ((ji111) : Int).toNat) (c := co51) hC121 (by omega) hroomc121; obtain ⟨A121, hA121⟩ : ∃ A1, A1 = (if co51 = ((ji111) : Int).toNat then (some ⟨go51, of51, none⟩) else ((some ⟨go51, of51, none⟩) : Option Addr).map (·.add (((ji111) : Int).toNat * 6))) := ⟨_, rfl⟩; obtain ⟨c121, hc121⟩ : ∃ c1, c1 = co51 - ((ji111) : Int).toNat := ⟨_, rfl⟩
              have hy121 : y320.length = y310.length - ((ji111) : Int).toNat := (by rw [Ny320.out, List.length_drop] <;> omega)
              rw [show (y312).drop ((ji111) : Int).toNat = y320 from Ny320.out.symm] at hr121
              replace hr121 : Kd.C k82 _ A121 y320.length y320 := (by rw [hA121]; exact hr121)
              rw [← hy121, ← hA121, ← hc121] at hcut121; have HR323 := am hr121; have HC323 := am (show y320.length ≤ c121 from (by rw [hy121, hc121]; exact Nat.sub_le_sub_right hroom121 _)); clear hr121 hC121 hroom121 hi0121 hsz121 hc121 hroomc121; have KY121 := am hy121; have KA121 := am hA121; clear hy121 hA121; have KE121 := am hlx121; have KL121 := am (show ((ji111) : Int).toNat ≤ y312.length from (by omega)); clear hlx121; replace q121 := eq_true q121; refine start_ (n := 19) (S := fun w' => w'.cell? ⟨gb274, 0, none⟩ = some (.int .i64 a1_0) ∧ w'.cell? ⟨gb274, 1, none⟩ = some (.int .i64 a1_1) ∧ w'.cell? ⟨gb274, 2, none⟩ = some (.int .i64 a1_2) ∧ w'.cell? ⟨gb274, 3, none⟩ = some (.int .i64 a1_3) ∧ w'.cell? ⟨gb274, 4, none⟩ = some (.bool a1_4) ∧ w'.cell? ⟨gb274, 5, none⟩ = some (.string a1_5)) (ds := []) #[false, false, false, false, false, false, false, false, false, false, false, false, false, false, false, false, false, false, false] gk_ rfl rfl ⟨(blk_cell BK274.out 0).trans rfl, (blk_cell BK274.out 1).trans rfl, (blk_cell BK274.out 2).trans rfl, (blk_cell BK274.out 3).trans rfl, (blk_cell BK274.out 4).trans rfl, (blk_cell BK274.out 5).trans rfl⟩ (fun hHeld => ?_); refine with_tabW impl_JoinBits.tab20 impl_JoinBits.bits20 (fun HT_ HW_ => ?_); generalize w118.drew = w119 at HO_9 HL313_2 HL313_3 BK274 BK275 HR313_2 HR313_3 HB HR319 HR323 hHeld ⊢; refine pu_ 0 123 HT_ ?_; refine pu_ 1 124 HT_ ?_; refine pu_ 2 125 HT_ ?_; refine pu_ 3 126 HT_ ?_; refine pu_ 4 127 HT_ ?_; refine pu_ 5 128 HT_ ?_; refine pu_ 6 129 HT_ ?_; refine pu_ 8 131 HT_ ?_; refine pu_ 10 133 HT_ ?_; refine pu_ 12 135 HT_ ?_; refine pu_ 14 137 HT_ ?_; refine ta_ 9 132 HT_ HW_ hHeld ?_; refine ta_ 11 134 HT_ HW_ hHeld ?_; refine ta_ 13 136 HT_ HW_ hHeld ?_; refine pu_ 15 138 HT_ ?_; refine one_ (i := 7) (N := some 130) #[true, true, true, true, true, true, true, true, true, true, true, true, true, true, true, true, false, false, false] rfl rfl (one_of HT_.out gk_) (by decide) (fun K hK => ?_)
              have hj_ : 0 ≤ (x10_36 : Int) := dga
              have hl_ : (ji111 : Int) ≤ (y310.length : Int) := dga
              have hh_ : (x10_36 : Int) ≤ (y310.length : Int) := dga
              have hb_ := (KQ.S_reads' HO_9.out).2.2.2.1
              have h0_ : (0 : Int) ≤ (ji111 : Int) := dga
              have hy1_ := KY120.out
              have hk_ : (ji111 : Int).toNat = y316.length + 1 := (by (try (have hsy305_ := congrArg List.length Ny305.out; rw [List.length_set] at hsy305_)); (try (have hsy310_ := congrArg List.length Ny310.out; rw [List.length_set] at hsy310_)); (try (have hsy312_ := congrArg List.length Ny312.out; rw [List.length_set] at hsy312_)); have hw_ : (ji111 : Int) = x10_36 + 1 := (by have h00_ := h0_; rw [← hji111] at h00_ ⊢; unfold wrap64 at h00_ ⊢; omega); rw [hw_]; omega)
              refine KQ.S_delete_step k82 (w0 := w) w.heap.size (by rfl) (.tmp 125) (.tmp 129) 68 82 rfl Try.underlying68 gk_ (g := go51) (n := y310.length) (c := co51) (k := y316.length) rfl rfl ?hA ?hm (tsq HO_9.out) ?hk (te2 HB.out GE274.out GE275.out) (below_size (te2 HB.out GE274.out GE275.out)) ?_
              (case hA => have ha_ := KA121.out; rw [hk_] at ha_; exact ha_)
              (case hm => have ha_ := KY121.out; omega)
              (case hk => omega)
              intro w122 ho hb hg; clear hj_ hl_ hh_ hb_ hk_ h0_; rw [hy1_, ← Ny324.out] at ho; clear hy1_
              have hn_ : y310.length - 1 = y324.length := B7q50_
              rw [hn_] at ho ⊢; clear hn_; replace BK274 := am (blk_grown (g := gb274) (o := .cells #[.int .i64 a1_0, .int .i64 a1_1, .int .i64 a1_2, .int .i64 a1_3, .bool a1_4, .string a1_5] 62 (0, 0)) (tb BK274.out) hg (KQ.S_ne HO_9.out BK274.out (by decide))); replace BK275 := am (blk_grown (g := gb275) (o := .cells #[.int .i64 0, .int .i64 0, .int .i64 0, .int .i64 0, .bool false, .string (⟨#[]⟩ : ByteArray)] 62 (0, 0)) (tb BK275.out) hg (KQ.S_ne HO_9.out BK275.out (by decide))); replace HO_9 := am (ho); replace HL313_2 := am (Kd.R_after (v := (.slice (some ⟨go51, of51, none⟩) y310.length co51)) (v1 := .slice (some ⟨go51, of51, none⟩) y324.length co51) (ok := (fun _ => True)) (tr HL313_2.out) hg (.inl rfl)); replace HL313_3 := am (Kd.R_after (v := (.slice (some ⟨go51, of51, none⟩) y310.length co51)) (v1 := .slice (some ⟨go51, of51, none⟩) y324.length co51) (ok := (fun _ => True)) (tr HL313_3.out) hg (.inl rfl)); replace HB := am (hb); clear ho hb hg; refine hK.out _ _ ⟨(blk_cell BK274.out 0).trans rfl, (blk_cell BK274.out 1).trans rfl, (blk_cell BK274.out 2).trans rfl, (blk_cell BK274.out 3).trans rfl, (blk_cell BK274.out 4).trans rfl, (blk_cell BK274.out 5).trans rfl⟩ (fun hHeld => ?_); clear hK K; refine norm_ (a' := ?_) ?_ ?_; rotate_left
              ·show Act.put _ (some 130) _ = _; simp only [Act.put, List.setIfInBounds_toArray, List.set_cons_zero, List.set_cons_succ, i64_w, i32_w]; rfl
              refine pu_ 16 6 HT_ ?_; refine one_ (i := 17) (N := none) #[true, true, true, true, true, true, true, true, true, true, true, true, true, true, true, true, true, true, false] rfl rfl (one_of HT_.out gk_) (by decide) (fun K hK => ?_)
              have hs124 : w122.cell? ⟨gb275, 0, none⟩ = some (.int .i64 0) := (blk_cell BK275.out 0).trans rfl
              have hfs124 := blk_frozen BK275.out 0; have hns124_0 := NB274_275.out; have hms124_0 := NB275_274.out
              have hs125 : w122.cell? ⟨gb275, 1, none⟩ = some (.int .i64 0) := (blk_cell BK275.out 1).trans rfl
              have hfs125 := blk_frozen BK275.out 1; have hns125_0 := NB274_275.out; have hms125_0 := NB275_274.out
              have hs126 : w122.cell? ⟨gb275, 2, none⟩ = some (.int .i64 0) := (blk_cell BK275.out 2).trans rfl
              have hfs126 := blk_frozen BK275.out 2; have hns126_0 := NB274_275.out; have hms126_0 := NB275_274.out
              have hs127 : w122.cell? ⟨gb275, 3, none⟩ = some (.int .i64 0) := (blk_cell BK275.out 3).trans rfl
              have hfs127 := blk_frozen BK275.out 3; have hns127_0 := NB274_275.out; have hms127_0 := NB275_274.out
              have hs128 : w122.cell? ⟨gb275, 4, none⟩ = some (.bool false) := (blk_cell BK275.out 4).trans rfl
              have hfs128 := blk_frozen BK275.out 4; have hns128_0 := NB274_275.out; have hms128_0 := NB275_274.out
              have hs129 : w122.cell? ⟨gb275, 5, none⟩ = some (.string (⟨#[]⟩ : ByteArray)) := (blk_cell BK275.out 5).trans rfl
              have hfs129 := blk_frozen BK275.out 5; have hns129_0 := NB274_275.out; have hms129_0 := NB275_274.out; refine skip_ (w1 := ?_) (by rfl) rfl ?_ ?_; rotate_left
              ·go_simp; rfl
              refine hK.out _ _ ⟨((cell_far (p := ⟨gb275, _, none⟩) NB274_275.out _).trans (((cell_far (p := ⟨gb275, _, none⟩) NB274_275.out _).trans (((cell_far (p := ⟨gb275, _, none⟩) NB274_275.out _).trans (((cell_far (p := ⟨gb275, _, none⟩) NB274_275.out _).trans (((cell_far (p := ⟨gb275, _, none⟩) NB274_275.out _).trans (((cell_far (p := ⟨gb275, _, none⟩) NB274_275.out _).trans (hHeld.1)))))))))))), ((cell_far (p := ⟨gb275, _, none⟩) NB274_275.out _).trans (((cell_far (p := ⟨gb275, _, none⟩) NB274_275.out _).trans (((cell_far (p := ⟨gb275, _, none⟩) NB274_275.out _).trans (((cell_far (p := ⟨gb275, _, none⟩) NB274_275.out _).trans (((cell_far (p := ⟨gb275, _, none⟩) NB274_275.out _).trans (((cell_far (p := ⟨gb275, _, none⟩) NB274_275.out _).trans (hHeld.2.1)))))))))))), ((cell_far (p := ⟨gb275, _, none⟩) NB274_275.out _).trans (((cell_far (p := ⟨gb275, _, none⟩) NB274_275.out _).trans (((cell_far (p := ⟨gb275, _, none⟩) NB274_275.out _).trans (((cell_far (p := ⟨gb275, _, none⟩) NB274_275.out _).trans (((cell_far (p := ⟨gb275, _, none⟩) NB274_275.out _).trans (((cell_far (p := ⟨gb275, _, none⟩) NB274_275.out _).trans (hHeld.2.2.1)))))))))))), ((cell_far (p := ⟨gb275, _, none⟩) NB274_275.out _).trans (((cell_far (p := ⟨gb275, _, none⟩) NB274_275.out _).trans (((cell_far (p := ⟨gb275, _, none⟩) NB274_275.out _).trans (((cell_far (p := ⟨gb275, _, none⟩) NB274_275.out _).trans (((cell_far (p := ⟨gb275, _, none⟩) NB274_275.out _).trans (((cell_far (p := ⟨gb275, _, none⟩) NB274_275.out _).trans (hHeld.2.2.2.1)))))))))))), ((cell_far (p := ⟨gb275, _, none⟩) NB274_275.out _).trans (((cell_far (p := ⟨gb275, _, none⟩) NB274_275.out _).trans (((cell_far (p := ⟨gb275, _, none⟩) NB274_275.out _).trans (((cell_far (p := ⟨gb275, _, none⟩) NB274_275.out _).trans (((cell_far (p := ⟨gb275, _, none⟩) NB274_275.out _).trans (((cell_far (p := ⟨gb275, _, none⟩) NB274_275.out _).trans (hHeld.2.2.2.2.1)))))))))))), ((cell_far (p := ⟨gb275, _, none⟩) NB274_275.out _).trans (((cell_far (p := ⟨gb275, _, none⟩) NB274_275.out _).trans (((cell_far (p := ⟨gb275, _, none⟩) NB274_275.out _).trans (((cell_far (p := ⟨gb275, _, none⟩) NB274_275.out _).trans (((cell_far (p := ⟨gb275, _, none⟩) NB274_275.out _).trans (((cell_far (p := ⟨gb275, _, none⟩) NB274_275.out _).trans (hHeld.2.2.2.2.2))))))))))))⟩ (fun hHeld => ?_); clear hK K; refine pu_ 18 8 HT_ ?_; refine done_ (done_of HT_.out gk_) ?_
              try go_wp2
              refine bodyPost_ret (results_list (rs := [.tmp 6, .cell 7 62, .tmp 8]) rfl (by simp) (.tmp (.cell gb275 62 #[.int .i64 a1_0, .int .i64 a1_1, .int .i64 a1_2, .int .i64 0, .bool false, .string t314] (0, 0) _ rfl (tp0 BK275.out) Try.underlying62 rfl gk_ (.tmp .nil)))) rfl ?_
              exact ⟨_, (by first | rfl | (simp [errW_none, errW_some] <;> rfl) | (simp only [← hji111]; first | rfl | (simp [errW_none, errW_some] <;> rfl)) | (simp [*, errW_none, errW_some] <;> rfl)), (by (with_reducible repeat (first | apply KQ.S_alloc | apply KQ.S_drewN | apply KQ.S_drew)); exact KQ.S_mono (KQ.S_far (p := ⟨gb275, 5, none⟩) (KQ.S_far (p := ⟨gb275, 4, none⟩) (KQ.S_far (p := ⟨gb275, 3, none⟩) (KQ.S_far (p := ⟨gb275, 2, none⟩) (KQ.S_far (p := ⟨gb275, 1, none⟩) (KQ.S_far (p := ⟨gb275, 0, none⟩) (KQ.S_types HO_9.out BK275.out (by decide)) (fun _ hk => hk.2) (.int .i64 a1_0)) (fun _ hk => hk.2) (.int .i64 a1_1)) (fun _ hk => hk.2) (.int .i64 a1_2)) (fun _ hk => hk.2) (.int .i64 0)) (fun _ hk => hk.2) (.bool false)) (fun _ hk => hk.2) (.string t314)) (fun _ hk => trivial)), (te2 HB.out GE274.out GE275.out)⟩
             ·replace c108 := Bool.eq_false_iff.mpr c108; subst c108; rw [if_neg (show ¬ (false = true) by decide)] at H; simp only [Option.some.injEq, Prod.mk.injEq] at H; obtain ⟨rfl, rfl, rfl, rfl, rfl, rfl, rfl, rfl⟩ := H; have hnb130 := NB274_275.out; have hgo130 := HNB274_go51.out; have hgp130 := HNB274_go51.out.symm; have hgq130 := HNB275_go51.out; have hgr130 := HNB275_go51.out.symm; have hnc130 := NB275_274.out; obtain ⟨hcz131_0, hcz131_1, hcz131_2, hcz131_3, hcz131_4, hcz131_5⟩ := cl6 BK274.out; obtain ⟨hfz131_0, hfz131_1, hfz131_2, hfz131_3, hfz131_4, hfz131_5⟩ := fr6 BK274.out
              have p106 : 0 ≤ (x10_36 : Int) := dga
              have q106 : (x10_36 : Int) < ((y310.length : Int) : Int) := dga
              obtain ⟨_, ce106, hcl106, hM106, hcc106, hfr106, _, _⟩ := KQ.S_elem HO_9.out z82 (x10_36 : Int) p106 q106; obtain ⟨ve106_2, ve106_3, rfl, ge106_2, ge106_3⟩ := k82_openM hM106
              have hx106_0 : wc.cell? ⟨go51, of51 + (x10_36 : Int).toNat * 6, none⟩ = some (.int .i64 ((rd_T82 y310 x10_36).f0)) := hcc106 0 _ rfl
              have hx106_1 : wc.cell? ⟨go51, of51 + (x10_36 : Int).toNat * 6 + 1, none⟩ = some (.int .i64 ((rd_T82 y310 x10_36).f1)) := hcc106 1 _ rfl
              have hx106_2 : wc.cell? ⟨go51, of51 + (x10_36 : Int).toNat * 6 + 2, none⟩ = some (ve106_2) := hcc106 2 _ rfl
              have hx106_3 : wc.cell? ⟨go51, of51 + (x10_36 : Int).toNat * 6 + 3, none⟩ = some (ve106_3) := hcc106 3 _ rfl
              have hx106_4 : wc.cell? ⟨go51, of51 + (x10_36 : Int).toNat * 6 + 4, none⟩ = some (.int .i64 ((rd_T82 y310 x10_36).f4)) := hcc106 4 _ rfl
              have hx106_5 : wc.cell? ⟨go51, of51 + (x10_36 : Int).toNat * 6 + 5, none⟩ = some (.int .i64 ((rd_T82 y310 x10_36).f5)) := hcc106 5 _ rfl
              have hf106_0 : wc.frozen? ⟨go51, of51 + (x10_36 : Int).toNat * 6, none⟩ = false := hfr106 0
              have hf106_1 : wc.frozen? ⟨go51, of51 + (x10_36 : Int).toNat * 6 + 1, none⟩ = false := hfr106 1
              have hf106_2 : wc.frozen? ⟨go51, of51 + (x10_36 : Int).toNat * 6 + 2, none⟩ = false := hfr106 2
              have hf106_3 : wc.frozen? ⟨go51, of51 + (x10_36 : Int).toNat * 6 + 3, none⟩ = false := hfr106 3
              have hf106_4 : wc.frozen? ⟨go51, of51 + (x10_36 : Int).toNat * 6 + 4, none⟩ = false := hfr106 4
              have hf106_5 : wc.frozen? ⟨go51, of51 + (x10_36 : Int).toNat * 6 + 5, none⟩ = false := hfr106 5
              clear hcl106 hcc106 hfr106 hM106; replace p106 := eq_true p106; replace q106 := eq_true q106; have HX132 := am (show KQ.S k82 82 wc w.heap.size (fun k_ => ((fun _ => True)) k_ ∧ ¬ ((fun _ => False)) k_) (.slice (some ⟨go51, of51, none⟩) y310.length co51) y310 from B7q26_); obtain ⟨oki132, ce132, hcl132, hM132, hcc132, hfr132, hoki132, hH132⟩ := KQ.S_elem HX132.out z82 (x10_36 : Int) (dga) (by have h_ : (x10_36 : Int) < ((y310.length : Int) : Int) := dga; first | exact h_ | (have e_ := (KQ.S_reads' HO_9.out).1; omega) | simpa using h_); obtain ⟨ve132_2, ve132_3, rfl, ge132_2, ge132_3⟩ := k82_openM hM132; have HP132 := KQ.S_seg hH132 (dga) (by have h_ : (x10_36 : Int) < ((y310.length : Int) : Int) := dga; first | exact h_ | (have e_ := (KQ.S_reads' HO_9.out).1; omega) | simpa using h_) (seg := [.int .i64 (wrap64 (a1_3 + (a1_5.size : Int)))]) (j := 4) (show 5 ≤ 6 from (by decide)) (x' := (⟨(rd_T82 y310 x10_36).f0, (rd_T82 y310 x10_36).f1, (rd_T82 y310 x10_36).f2, (rd_T82 y310 x10_36).f3, wrap64 (a1_3 + (a1_5.size : Int)), (rd_T82 y310 x10_36).f5⟩ : S82)) (k82_mkM _ _ _ (⟨(rd_T82 y310 x10_36).f0, (rd_T82 y310 x10_36).f1, (rd_T82 y310 x10_36).f2, (rd_T82 y310 x10_36).f3, wrap64 (a1_3 + (a1_5.size : Int)), (rd_T82 y310 x10_36).f5⟩ : S82) (Kd.R_mono ge132_2 (fun _ h_ => Or.inl h_)) (Kd.R_mono ge132_3 (fun _ h_ => Or.inl h_))) (fun _ hk => hk) (fun k_ hk_ => hk_.elim); have hx132_4 := hcc132 4 _ rfl; (try simp only [show (k82).sz = 6 from rfl, Nat.mul_one, Nat.add_zero] at hx132_4); have hf132_4 := hfr132 4; (try simp only [show (k82).sz = 6 from rfl, Nat.mul_one, Nat.add_zero] at hf132_4); clear hcl132 hcc132 hfr132 hM132 hoki132 hH132
              go_wp2_with (first | ((with_reducible refine gate_store (t := 3) (p := 111) rfl ?_); refine store_event (t := 3) (p := 111) (v := ?vo_w133) (w1 := (wc.setCell ⟨go51, of51 + (x10_36 : Int).toNat * 6 + 4, none⟩ (.int .i64 (wrap64 (a1_3 + (a1_5.size : Int)))))) ?hg ?ho ?hn ?hr ?_; (case ho => rfl); (case hg => rfl); (case hn => rfl); (case hr => exact gs_); intro w133 hw; have hg : wc.grownBy w133 (some go51) := (by rw [hw]; exact HP132.2); have hp_ : KQ.S k82 82 w133 w.heap.size (fun _ => True) (.slice (some ⟨go51, of51, none⟩) y310.length co51) y312 := (by rw [hw, Ny312.out]; exact HP132.1); clear HP132; replace BK274 := am (blk_grown (g := gb274) (o := .cells #[.int .i64 a1_0, .int .i64 a1_1, .int .i64 a1_2, .int .i64 a1_3, .bool a1_4, .string a1_5] 62 (0, 0)) (tb BK274.out) hg (KQ.S_ne HO_9.out BK274.out (by decide))); replace BK275 := am (blk_grown (g := gb275) (o := .cells #[.int .i64 0, .int .i64 0, .int .i64 0, .int .i64 0, .bool false, .string (⟨#[]⟩ : ByteArray)] 62 (0, 0)) (tb BK275.out) hg (KQ.S_ne HO_9.out BK275.out (by decide))); replace HO_9 := am (hp_); replace HB := am ((by rw [hw]; exact below_set (HB.out) GB51.out : Below w.heap.size w w133)); clear hg hw hp_; have p313 : 0 ≤ (x10_36 : Int) := dga; have q313 : x10_36 < (y312.length : Int) := (by have h_ : (x10_36 : Int) < ((y310.length : Int) : Int) := dga; first | (have e_ := (KQ.S_reads' HO_9.out).1; omega) | simpa only [Ny312.out, List.length_set] using h_); have ql313 : ((x10_36 : Int) < ((y310.length : Int) : Int)) = True := eq_true (dga); obtain ⟨ad313, A313_2, c313_2, A313_3, c313_3, e313, hx313_0, hx313_1, hx313_2, hx313_3, hx313_4, hx313_5, hl313_2, hi313_2, hl313_3, hi313_3⟩ := at_T82 (KQ.S_reads' HO_9.out).2.2 x10_36 p313 q313; obtain rfl : (⟨go51, of51, none⟩ : Addr) = ad313 := (by injection e313); obtain ⟨ce313, hce313, hMe313, hcc313⟩ := KQ.S_get HO_9.out z82 x10_36 p313 B7q46_; obtain ⟨ve313_2, ve313_3, rfl, ge313_2, ge313_3⟩ := k82_openM hMe313; have hv313_2 := hcc313 2 _ rfl; rw [add_field _ _ 2 (by omega)] at hv313_2; replace hv313_2 := Option.some.inj (hv313_2.symm.trans hx313_2); rw [hv313_2] at ge313_2; have HL313_2 := am (show Kd.R Kd.string 9 _ _ _ _ ((rd_T82 y312 x10_36).f2) from ge313_2); clear hv313_2 ge313_2; have HX313_2 := am hx313_2; have hv313_3 := hcc313 3 _ rfl; rw [add_field _ _ 3 (by omega)] at hv313_3; replace hv313_3 := Option.some.inj (hv313_3.symm.trans hx313_3); rw [hv313_3] at ge313_3; have HL313_3 := am (show Kd.R (Kd.int .i64) 3 _ _ _ _ ((rd_T82 y312 x10_36).f3) from ge313_3); clear hv313_3 ge313_3; have HX313_3 := am hx313_3; clear hcc313 hce313; (first | simp only [add_plain] at hx313_0 | simp only [add_at] at hx313_0 | simp only [Addr.add, Nat.zero_add] at hx313_0 | skip); (first | simp only [add_plain] at hx313_1 | simp only [add_at] at hx313_1 | simp only [Addr.add, Nat.zero_add] at hx313_1 | skip); (first | simp only [add_plain] at hx313_2 | simp only [add_at] at hx313_2 | simp only [Addr.add, Nat.zero_add] at hx313_2 | skip); (first | simp only [add_plain] at hx313_3 | simp only [add_at] at hx313_3 | simp only [Addr.add, Nat.zero_add] at hx313_3 | skip); (first | simp only [add_plain] at hx313_4 | simp only [add_at] at hx313_4 | simp only [Addr.add, Nat.zero_add] at hx313_4 | skip); (first | simp only [add_plain] at hx313_5 | simp only [add_at] at hx313_5 | simp only [Addr.add, Nat.zero_add] at hx313_5 | skip); have HR313_2 := am hi313_2; have HC313_2 := am hl313_2; clear hi313_2 hl313_2; have HR313_3 := am hi313_3; have HC313_3 := am hl313_3; clear hi313_3 hl313_3; replace p313 := eq_true p313; replace q313 := eq_true q313) | ((with_reducible refine gate_callee (f := 102) rfl ?_); refine goesL_ (some 116) rfl rfl Try.func102 gk_ rfl #[.agg #[.int .i64 ((rd_T82 y312 x10_36).f0), .int .i64 ((rd_T82 y312 x10_36).f1), .slice A313_2 ((rd_T82 y312 x10_36).f2).length c313_2, .slice A313_3 ((rd_T82 y312 x10_36).f3).length c313_3, .int .i64 ((rd_T82 y312 x10_36).f4), .int .i64 ((rd_T82 y312 x10_36).f5)]] rfl gm_ ?_; (with_reducible refine (impl_whole.calls kj82 ((rd_T82 y312 x10_36).f0) ((rd_T82 y312 x10_36).f1) _ _ ((rd_T82 y312 x10_36).f2) _ _ ((rd_T82 y312 x10_36).f3) ((rd_T82 y312 x10_36).f4) ((rd_T82 y312 x10_36).f5) t314 false _ ?side1 ?side2 ?side3 ?side4 A107.out).mono ?_); (case side1 => exact (tc (td HR313_2.out))); (case side2 => exact HC313_2.out); (case side3 => exact (tc (td HR313_3.out))); (case side4 => exact HC313_3.out); rintro e w134 ⟨rfl, hb⟩; refine ⟨_, rfl, ?_⟩; replace HO_9 := am (KQ.S_below (tsq HO_9.out) hb); replace HL313_2 := am (Kd.R_below (tr HL313_2.out) hb); replace HL313_3 := am (Kd.R_below (tr HL313_3.out) hb); replace BK274 := am (bb BK274.out hb); replace BK275 := am (bb BK275.out hb); replace HR313_2 := am (cb HR313_2.out hb); replace HX313_2 := am (pw_cell_below hb HX313_2.out); replace HR313_3 := am (cb HR313_3.out hb); replace HX313_3 := am (pw_cell_below hb HX313_3.out); replace HB := am (below_step (te2 HB.out GE274.out GE275.out) hb); (try clear hb); (try clear hl); obtain ⟨hcz135_0, hcz135_1, hcz135_2, hcz135_3, hcz135_4, hcz135_5⟩ := cl6 BK275.out; obtain ⟨hfz135_0, hfz135_1, hfz135_2, hfz135_3, hfz135_4, hfz135_5⟩ := fr6 BK275.out) | ((with_reducible refine gate_store (t := 62) (p := 7) rfl ?_); refine store_event (t := 62) (p := 7) (v := ?vo_w136) (w1 := ((((((w134.setCell ⟨gb275, 0, none⟩ (.int .i64 0)).setCell ⟨gb275, 1, none⟩ (.int .i64 0)).setCell ⟨gb275, 2, none⟩ (.int .i64 0)).setCell ⟨gb275, 3, none⟩ (.int .i64 0)).setCell ⟨gb275, 4, none⟩ (.bool false)).setCell ⟨gb275, 5, none⟩ (.string (⟨#[]⟩ : ByteArray)))) ?hg ?ho ?hn ?hr ?_; (case ho => rfl); (case hg => rfl); (case hn => rfl); (case hr => exact gs_); intro w136 hw; replace HO_9 : Aside0 (KQ.S k82 82 w136 w.heap.size (fun _ => True) (.slice (some ⟨go51, of51, none⟩) y310.length co51) y312) := ⟨B7q5_⟩; replace HL313_2 : Aside0 (Kd.R Kd.string 9 w136 w.heap.size (fun k_ => some k_ ≠ (.slice (some ⟨go51, of51, none⟩) y310.length co51 : Value).ownBlock) (.slice A313_2 ((rd_T82 y312 x10_36).f2).length c313_2) ((rd_T82 y312 x10_36).f2)) := ⟨(by rw [hw]; exact (by (with_reducible repeat (first | apply Kd.R_alloc | apply Kd.R_drewN | apply Kd.R_drew)); exact Kd.R_mono (Kd.R_far (p := ⟨gb275, 5, none⟩) (Kd.R_far (p := ⟨gb275, 4, none⟩) (Kd.R_far (p := ⟨gb275, 3, none⟩) (Kd.R_far (p := ⟨gb275, 2, none⟩) (Kd.R_far (p := ⟨gb275, 1, none⟩) (Kd.R_far (p := ⟨gb275, 0, none⟩) (Kd.R_types HL313_2.out BK275.out (by decide)) (fun _ hk => hk.2) (.int .i64 0)) (fun _ hk => hk.2) (.int .i64 0)) (fun _ hk => hk.2) (.int .i64 0)) (fun _ hk => hk.2) (.int .i64 0)) (fun _ hk => hk.2) (.bool false)) (fun _ hk => hk.2) (.string (⟨#[]⟩ : ByteArray))) (fun _ hk => hk.1.2)))⟩; replace HL313_3 : Aside0 (Kd.R (Kd.int .i64) 3 w136 w.heap.size (fun k_ => some k_ ≠ (.slice (some ⟨go51, of51, none⟩) y310.length co51 : Value).ownBlock) (.slice A313_3 ((rd_T82 y312 x10_36).f3).length c313_3) ((rd_T82 y312 x10_36).f3)) := ⟨(by rw [hw]; exact (by (with_reducible repeat (first | apply Kd.R_alloc | apply Kd.R_drewN | apply Kd.R_drew)); exact Kd.R_mono (Kd.R_far (p := ⟨gb275, 5, none⟩) (Kd.R_far (p := ⟨gb275, 4, none⟩) (Kd.R_far (p := ⟨gb275, 3, none⟩) (Kd.R_far (p := ⟨gb275, 2, none⟩) (Kd.R_far (p := ⟨gb275, 1, none⟩) (Kd.R_far (p := ⟨gb275, 0, none⟩) (Kd.R_types HL313_3.out BK275.out (by decide)) (fun _ hk => hk.2) (.int .i64 0)) (fun _ hk => hk.2) (.int .i64 0)) (fun _ hk => hk.2) (.int .i64 0)) (fun _ hk => hk.2) (.int .i64 0)) (fun _ hk => hk.2) (.bool false)) (fun _ hk => hk.2) (.string (⟨#[]⟩ : ByteArray))) (fun _ hk => hk.1.2)))⟩; replace BK274 : Aside0 (w136.heap[gb274]? = some (.cells #[.int .i64 a1_0, .int .i64 a1_1, .int .i64 a1_2, .int .i64 a1_3, .bool a1_4, .string a1_5] 62 (0, 0))) := ⟨(wtp1 BK274.out NB274_275.out)⟩; replace BK275 : Aside0 (w136.heap[gb275]? = some (.cells #[.int .i64 0, .int .i64 0, .int .i64 0, .int .i64 0, .bool false, .string (⟨#[]⟩ : ByteArray)] 62 (0, 0))) := ⟨BJ7x52_⟩; replace HB : Aside0 (Below w.heap.size w w136) := ⟨BJ7x51_⟩; clear hw))
              refine bodyPost_ret (results_list (rs := [.tmp 6, .cell 7 62, .tmp 8]) rfl (by simp) (.tmp (.cell gb275 62 #[.int .i64 0, .int .i64 0, .int .i64 0, .int .i64 0, .bool false, .string (⟨#[]⟩ : ByteArray)] (0, 0) _ rfl (tb BK275.out) Try.underlying62 rfl gk_ (.tmp .nil)))) rfl ?_; exact ⟨_, BJ7x24_, (tsq HO_9.out), (te2 HB.out GE274.out GE275.out)⟩
            ·replace c103 := Bool.eq_false_iff.mpr c103; subst c103; rw [if_neg (show ¬ (false = true) by decide)] at H
             by_cases c137 : 0 ≤ x10_36
             rotate_left
             ·rw [if_neg c137] at H; exact absurd H (by simp)
             rw [if_pos c137] at H
             have c137b0 : decide (0 ≤ x10_36) = true := decide_eq_true c137
             clear c137
             by_cases c138 : x10_36 < (y310.length : Int)
             rotate_left
             ·rw [if_neg c138] at H; exact absurd H (by simp)
             rw [if_pos c138] at H
             have c138b0 : decide (x10_36 < (y310.length : Int)) = true := decide_eq_true c138
             clear c138; replace H := bsi H; obtain ⟨⟨t328, t329⟩, A139, H⟩ := H; (try dsimp only at H)
             by_cases c140 : t329 = true
             ·subst c140; rw [if_pos rfl] at H; have c141b0 := eq_true (dga : 0 ≤ x10_36)
              by_cases c142 : x10_36 ≤ (y310.length : Int)
              rotate_left
              ·rw [if_neg c142] at H; exact absurd H (by simp)
              rw [if_pos c142] at H; have c142b0 := eq_true c142
              have c142b1 : decide (x10_36 ≤ (y310.length : Int)) = true := decide_eq_true c142
              clear c142; obtain ⟨y330, hy330⟩ : ∃ y_ : List (S82), y_ = (y310.take (x10_36 : Int).toNat) := ⟨_, rfl⟩
              replace H : (if 0 ≤ (wrap64 (x10_36 + 1)) then (if (wrap64 (x10_36 + 1)) ≤ (y310.length : Int) then (some ((y310.eraseIdx (x10_36 : Int).toNat), a1_0, a1_1, a1_2, 0, false, t328, true)) else (none)) else (none)) = some (r1, r2, r3, r4, r5, r6, r7, r8) := by first | (rw [hy330]; with_reducible exact H) | (have H2_ := (Option.bind_some _ _).symm.trans H; rw [hy330]; with_reducible exact H2_) | (have H2_ := (Option.bind_some _ _).symm.trans H; with_reducible exact H2_) | with_reducible exact H | (rw [hy330]; exact H) | exact H
              have Ny330 := am hy330; clear hy330; obtain ⟨ji143, hji143⟩ : ∃ j_ : Int, (wrap64 (x10_36 + 1)) = j_ := ⟨_, rfl⟩
              replace H : (if 0 ≤ (ji143) then (if (ji143) ≤ (y310.length : Int) then (some ((y310.eraseIdx (x10_36 : Int).toNat), a1_0, a1_1, a1_2, 0, false, t328, true)) else (none)) else (none)) = some (r1, r2, r3, r4, r5, r6, r7, r8) := by first | (rw [hji143] at H; exact H) | (simp only [hji143] at H ⊢; exact H)
              (try rw [hji143] at A139)
              have hji143w : (IntKind.i64.wrap (x10_36 + 1)) = ji143 := (i64_w _).trans hji143
              by_cases c144 : 0 ≤ (ji143)
              rotate_left
              ·rw [if_neg c144] at H; exact absurd H (by simp)
              rw [if_pos c144] at H; have c144b0 := eq_true c144
              have c144b1 : decide (0 ≤ (ji143)) = true := decide_eq_true c144
              clear c144
              by_cases c145 : (ji143) ≤ (y310.length : Int)
              rotate_left
              ·rw [if_neg c145] at H; exact absurd H (by simp)
              rw [if_pos c145] at H; have c145b0 := eq_true c145
              have c145b1 : decide ((ji143) ≤ (y310.length : Int)) = true := decide_eq_true c145
              clear c145; obtain ⟨y334, hy334⟩ : ∃ y_ : List (S82), y_ = (y310.drop ((ji143) : Int).toNat) := ⟨_, rfl⟩
              replace H : (some ((y310.eraseIdx (x10_36 : Int).toNat), a1_0, a1_1, a1_2, 0, false, t328, true)) = some (r1, r2, r3, r4, r5, r6, r7, r8) := by first | (rw [hy334]; with_reducible exact H) | (have H2_ := (Option.bind_some _ _).symm.trans H; rw [hy334]; with_reducible exact H2_) | (have H2_ := (Option.bind_some _ _).symm.trans H; with_reducible exact H2_) | with_reducible exact H | (rw [hy334]; exact H) | exact H
              have Ny334 := am hy334; clear hy334; obtain ⟨y338, hy338⟩ : ∃ y_ : List (S82), y_ = (y310.eraseIdx (x10_36 : Int).toNat) := ⟨_, rfl⟩
              replace H : (some (y338, a1_0, a1_1, a1_2, 0, false, t328, true)) = some (r1, r2, r3, r4, r5, r6, r7, r8) := by first | (rw [hy338]; with_reducible exact H) | (have H2_ := (Option.bind_some _ _).symm.trans H; rw [hy338]; with_reducible exact H2_) | (have H2_ := (Option.bind_some _ _).symm.trans H; with_reducible exact H2_) | with_reducible exact H | (rw [hy338]; exact H) | exact H
              have Ny338 := am hy338; clear hy338; simp only [Option.some.injEq, Prod.mk.injEq] at H; obtain ⟨rfl, rfl, rfl, rfl, rfl, rfl, rfl, rfl⟩ := H
              have p327 : 0 ≤ (x10_36 : Int) := dga
              have q327 : x10_36 < (y310.length : Int) := dga
              obtain ⟨ad327, A327_2, c327_2, A327_3, c327_3, e327, hx327_0, hx327_1, hx327_2, hx327_3, hx327_4, hx327_5, hl327_2, hi327_2, hl327_3, hi327_3⟩ := at_T82 (KQ.S_reads' HO_9.out).2.2 x10_36 p327 q327; obtain rfl : (⟨go51, of51, none⟩ : Addr) = ad327 := (by injection e327); obtain ⟨ce327, hce327, hMe327, hcc327⟩ := KQ.S_get HO_9.out z82 x10_36 p327 B7q47_; obtain ⟨ve327_2, ve327_3, rfl, ge327_2, ge327_3⟩ := k82_openM hMe327; have hv327_2 := hcc327 2 _ rfl; rw [add_field _ _ 2 (by omega)] at hv327_2; replace hv327_2 := Option.some.inj (hv327_2.symm.trans hx327_2); rw [hv327_2] at ge327_2; have HL327_2 := am (show Kd.R Kd.string 9 _ _ _ _ ((rd_T82 y310 x10_36).f2) from ge327_2); clear hv327_2 ge327_2; have HX327_2 := am hx327_2; have hv327_3 := hcc327 3 _ rfl; rw [add_field _ _ 3 (by omega)] at hv327_3; replace hv327_3 := Option.some.inj (hv327_3.symm.trans hx327_3); rw [hv327_3] at ge327_3; have HL327_3 := am (show Kd.R (Kd.int .i64) 3 _ _ _ _ ((rd_T82 y310 x10_36).f3) from ge327_3); clear hv327_3 ge327_3; have HX327_3 := am hx327_3; clear hcc327 hce327
              (first | simp only [add_plain] at hx327_0 | simp only [add_at] at hx327_0 | simp only [Addr.add, Nat.zero_add] at hx327_0 | skip)
              (first | simp only [add_plain] at hx327_1 | simp only [add_at] at hx327_1 | simp only [Addr.add, Nat.zero_add] at hx327_1 | skip)
              (first | simp only [add_plain] at hx327_2 | simp only [add_at] at hx327_2 | simp only [Addr.add, Nat.zero_add] at hx327_2 | skip)
              (first | simp only [add_plain] at hx327_3 | simp only [add_at] at hx327_3 | simp only [Addr.add, Nat.zero_add] at hx327_3 | skip)
              (first | simp only [add_plain] at hx327_4 | simp only [add_at] at hx327_4 | simp only [Addr.add, Nat.zero_add] at hx327_4 | skip)
              (first | simp only [add_plain] at hx327_5 | simp only [add_at] at hx327_5 | simp only [Addr.add, Nat.zero_add] at hx327_5 | skip)
              have HR327_2 := am hi327_2; have HC327_2 := am hl327_2; clear hi327_2 hl327_2; have HR327_3 := am hi327_3; have HC327_3 := am hl327_3; clear hi327_3 hl327_3; replace p327 := eq_true p327; replace q327 := eq_true q327
              try go_wp2_with (first | ((with_reducible refine gate_callee (f := 102) rfl ?_); refine goesL_ (some 116) rfl rfl Try.func102 gk_ rfl #[.agg #[.int .i64 ((rd_T82 y310 x10_36).f0), .int .i64 ((rd_T82 y310 x10_36).f1), .slice A327_2 ((rd_T82 y310 x10_36).f2).length c327_2, .slice A327_3 ((rd_T82 y310 x10_36).f3).length c327_3, .int .i64 ((rd_T82 y310 x10_36).f4), .int .i64 ((rd_T82 y310 x10_36).f5)]] rfl gm_ ?_; (with_reducible refine (impl_whole.calls kj82 ((rd_T82 y310 x10_36).f0) ((rd_T82 y310 x10_36).f1) _ _ ((rd_T82 y310 x10_36).f2) _ _ ((rd_T82 y310 x10_36).f3) ((rd_T82 y310 x10_36).f4) ((rd_T82 y310 x10_36).f5) t328 true _ ?side1 ?side2 ?side3 ?side4 A139.out).mono ?_); (case side1 => exact (tc (td HR327_2.out))); (case side2 => exact HC327_2.out); (case side3 => exact (tc (td HR327_3.out))); (case side4 => exact HC327_3.out); rintro e w146 ⟨rfl, hb⟩; refine ⟨_, rfl, ?_⟩; replace HO_9 := am (KQ.S_below (tsq HO_9.out) hb); replace HL327_2 := am (Kd.R_below (tr HL327_2.out) hb); replace HL327_3 := am (Kd.R_below (tr HL327_3.out) hb); replace BK274 := am (bb BK274.out hb); replace BK275 := am (bb BK275.out hb); replace HR327_2 := am (cb HR327_2.out hb); replace HX327_2 := am (pw_cell_below hb HX327_2.out); replace HR327_3 := am (cb HR327_3.out hb); replace HX327_3 := am (pw_cell_below hb HX327_3.out); replace HB := am (below_step (te2 HB.out GE274.out GE275.out) hb); (try clear hb); (try clear hl)))
              replace HO_9 := am (KQ.S_drew HO_9.out); replace HL327_2 := am (Kd.R_drew HL327_2.out); replace HL327_3 := am (Kd.R_drew HL327_3.out); replace BK274 := am (blk_drew BK274.out); replace BK275 := am (blk_drew BK275.out); replace HR327_2 := am (Kd.C_drew HR327_2.out); replace HR327_3 := am (Kd.C_drew HR327_3.out); replace HB := am (below_drew1 HB.out)
              have q148 : (x10_36 : Int) ≤ ((y310.length : Int) : Int) := dga
              obtain ⟨i0148, hi0148, _, hsz148, _⟩ := info_parts info82
              have hroom148 : y310.length ≤ co51 := (KQ.S_reads' HO_9.out).2.1
              have hC148 : Kd.C k82 _ (some ⟨go51, of51, none⟩) y310.length y310 := (KQ.S_reads' HO_9.out).2.2
              have hcut148 := cut_to (P := Try.prog) 68 82 .i64 Try.underlying68 hi0148 (some ⟨go51, of51, none⟩) y310.length co51 x10_36 (dga) q148 hroom148; have hr148 := Kd.C_take (m := (x10_36 : Int).toNat) hC148 (by omega)
              have hy148 : y330.length = (x10_36 : Int).toNat := (by rw [Ny330.out, List.length_take]; omega)
              rw [← Ny330.out] at hr148; rw [← hy148] at hcut148; have HR333 := am hr148; have HC333 := am (show y330.length ≤ co51 from (by omega)); clear hr148 hC148 hroom148 hi0148 hsz148; have KY148 := am hy148; clear hy148; have KL148 := am (show (x10_36 : Int).toNat ≤ y310.length from (by omega)); replace q148 := eq_true q148
              have q149 : ((ji143) : Int) ≤ ((y310.length : Int) : Int) := dga
              obtain ⟨i0149, hi0149, _, hsz149, _⟩ := info_parts info82
              have hroom149 : y310.length ≤ co51 := (KQ.S_reads' HO_9.out).2.1
              have hC149 : Kd.C k82 _ (some ⟨go51, of51, none⟩) y310.length y310 := (KQ.S_reads' HO_9.out).2.2
              have q0149 : (0 : Int) ≤ ((ji143) : Int) := dga
              have hcut149 := cut_from (P := Try.prog) 68 82 .i64 Try.underlying68 hi0149 6 hsz149 (some ⟨go51, of51, none⟩) y310.length co51 (ji143) q0149 q149; have hr149 := Kd.C_drop (m := ((ji143) : Int).toNat) (c := co51) hC149 (by omega) hroom149; obtain ⟨A149, hA149⟩ : ∃ A1, A1 = (if co51 = ((ji143) : Int).toNat then (some ⟨go51, of51, none⟩) else ((some ⟨go51, of51, none⟩) : Option Addr).map (·.add (((ji143) : Int).toNat * 6))) := ⟨_, rfl⟩; obtain ⟨c149, hc149⟩ : ∃ c1, c1 = co51 - ((ji143) : Int).toNat := ⟨_, rfl⟩
              have hy149 : y334.length = y310.length - ((ji143) : Int).toNat := (by rw [Ny334.out, List.length_drop] <;> omega)
              rw [show (y310).drop ((ji143) : Int).toNat = y334 from Ny334.out.symm] at hr149
              replace hr149 : Kd.C k82 _ A149 y334.length y334 := (by rw [hA149]; exact hr149)
              rw [← hy149, ← hA149, ← hc149] at hcut149; have HR337 := am hr149; have HC337 := am (show y334.length ≤ c149 from (by rw [hy149, hc149]; exact Nat.sub_le_sub_right hroom149 _)); clear hr149 hC149 hroom149 hi0149 hsz149 hc149; have KY149 := am hy149; have KA149 := am hA149; clear hy149 hA149; have KL149 := am (show ((ji143) : Int).toNat ≤ y310.length from (by omega)); replace q149 := eq_true q149; refine start_ (n := 19) (S := fun w' => w'.cell? ⟨gb274, 0, none⟩ = some (.int .i64 a1_0) ∧ w'.cell? ⟨gb274, 1, none⟩ = some (.int .i64 a1_1) ∧ w'.cell? ⟨gb274, 2, none⟩ = some (.int .i64 a1_2) ∧ w'.cell? ⟨gb274, 3, none⟩ = some (.int .i64 a1_3) ∧ w'.cell? ⟨gb274, 4, none⟩ = some (.bool a1_4) ∧ w'.cell? ⟨gb274, 5, none⟩ = some (.string a1_5)) (ds := []) #[false, false, false, false, false, false, false, false, false, false, false, false, false, false, false, false, false, false, false] gk_ rfl rfl ⟨(blk_cell BK274.out 0).trans rfl, (blk_cell BK274.out 1).trans rfl, (blk_cell BK274.out 2).trans rfl, (blk_cell BK274.out 3).trans rfl, (blk_cell BK274.out 4).trans rfl, (blk_cell BK274.out 5).trans rfl⟩ (fun hHeld => ?_); refine with_tabW impl_JoinBits.tab20 impl_JoinBits.bits20 (fun HT_ HW_ => ?_); generalize w146.drew = w147 at HO_9 HL327_2 HL327_3 BK274 BK275 HR327_2 HR327_3 HB HR333 HR337 hHeld ⊢; refine pu_ 0 123 HT_ ?_; refine pu_ 1 124 HT_ ?_; refine pu_ 2 125 HT_ ?_; refine pu_ 3 126 HT_ ?_; refine pu_ 4 127 HT_ ?_; refine pu_ 5 128 HT_ ?_; refine pu_ 6 129 HT_ ?_; refine pu_ 8 131 HT_ ?_; refine pu_ 10 133 HT_ ?_; refine pu_ 12 135 HT_ ?_; refine pu_ 14 137 HT_ ?_; refine ta_ 9 132 HT_ HW_ hHeld ?_; refine ta_ 11 134 HT_ HW_ hHeld ?_; refine ta_ 13 136 HT_ HW_ hHeld ?_; refine pu_ 15 138 HT_ ?_; refine one_ (i := 7) (N := some 130) #[true, true, true, true, true, true, true, true, true, true, true, true, true, true, true, true, false, false, false] rfl rfl (one_of HT_.out gk_) (by decide) (fun K hK => ?_)
              have hj_ : 0 ≤ (x10_36 : Int) := dga
              have hl_ : (ji143 : Int) ≤ (y310.length : Int) := dga
              have hh_ : (x10_36 : Int) ≤ (y310.length : Int) := dga
              have hb_ := (KQ.S_reads' HO_9.out).2.2.2.1
              have h0_ : (0 : Int) ≤ (ji143 : Int) := dga
              have hy1_ := KY148.out
              have hk_ : (ji143 : Int).toNat = y330.length + 1 := (by (try (have hsy305_ := congrArg List.length Ny305.out; rw [List.length_set] at hsy305_)); (try (have hsy310_ := congrArg List.length Ny310.out; rw [List.length_set] at hsy310_)); (try (have hsy312_ := congrArg List.length Ny312.out; rw [List.length_set] at hsy312_)); have hw_ : (ji143 : Int) = x10_36 + 1 := (by have h00_ := h0_; rw [← hji143] at h00_ ⊢; unfold wrap64 at h00_ ⊢; omega); rw [hw_]; omega)
              refine KQ.S_delete_step k82 (w0 := w) w.heap.size (by rfl) (.tmp 125) (.tmp 129) 68 82 rfl Try.underlying68 gk_ (g := go51) (n := y310.length) (c := co51) (k := y330.length) rfl rfl ?hA ?hm (tsq HO_9.out) ?hk (te2 HB.out GE274.out GE275.out) (below_size (te2 HB.out GE274.out GE275.out)) ?_
              (case hA => have ha_ := KA149.out; rw [hk_] at ha_; exact ha_)
              (case hm => have ha_ := KY149.out; omega)
              (case hk => omega)
              intro w150 ho hb hg; clear hj_ hl_ hh_ hb_ hk_ h0_; rw [hy1_, ← Ny338.out] at ho; clear hy1_
              have hn_ : y310.length - 1 = y338.length := B7q50_
              rw [hn_] at ho ⊢; clear hn_; replace BK274 := am (blk_grown (g := gb274) (o := .cells #[.int .i64 a1_0, .int .i64 a1_1, .int .i64 a1_2, .int .i64 a1_3, .bool a1_4, .string a1_5] 62 (0, 0)) (tb BK274.out) hg (KQ.S_ne HO_9.out BK274.out (by decide))); replace BK275 := am (blk_grown (g := gb275) (o := .cells #[.int .i64 0, .int .i64 0, .int .i64 0, .int .i64 0, .bool false, .string (⟨#[]⟩ : ByteArray)] 62 (0, 0)) (tb BK275.out) hg (KQ.S_ne HO_9.out BK275.out (by decide))); replace HO_9 := am (ho); replace HL327_2 := am (Kd.R_after (v := (.slice (some ⟨go51, of51, none⟩) y310.length co51)) (v1 := .slice (some ⟨go51, of51, none⟩) y338.length co51) (ok := (fun _ => True)) (tr HL327_2.out) hg (.inl rfl)); replace HL327_3 := am (Kd.R_after (v := (.slice (some ⟨go51, of51, none⟩) y310.length co51)) (v1 := .slice (some ⟨go51, of51, none⟩) y338.length co51) (ok := (fun _ => True)) (tr HL327_3.out) hg (.inl rfl)); replace HB := am (hb); clear ho hb hg; refine hK.out _ _ ⟨(blk_cell BK274.out 0).trans rfl, (blk_cell BK274.out 1).trans rfl, (blk_cell BK274.out 2).trans rfl, (blk_cell BK274.out 3).trans rfl, (blk_cell BK274.out 4).trans rfl, (blk_cell BK274.out 5).trans rfl⟩ (fun hHeld => ?_); clear hK K; refine norm_ (a' := ?_) ?_ ?_; rotate_left
              ·show Act.put _ (some 130) _ = _; simp only [Act.put, List.setIfInBounds_toArray, List.set_cons_zero, List.set_cons_succ, i64_w, i32_w]; rfl
              refine pu_ 16 6 HT_ ?_; refine one_ (i := 17) (N := none) #[true, true, true, true, true, true, true, true, true, true, true, true, true, true, true, true, true, true, false] rfl rfl (one_of HT_.out gk_) (by decide) (fun K hK => ?_)
              have hs152 : w150.cell? ⟨gb275, 0, none⟩ = some (.int .i64 0) := (blk_cell BK275.out 0).trans rfl
              have hfs152 := blk_frozen BK275.out 0; have hns152_0 := NB274_275.out; have hms152_0 := NB275_274.out
              have hs153 : w150.cell? ⟨gb275, 1, none⟩ = some (.int .i64 0) := (blk_cell BK275.out 1).trans rfl
              have hfs153 := blk_frozen BK275.out 1; have hns153_0 := NB274_275.out; have hms153_0 := NB275_274.out
              have hs154 : w150.cell? ⟨gb275, 2, none⟩ = some (.int .i64 0) := (blk_cell BK275.out 2).trans rfl
              have hfs154 := blk_frozen BK275.out 2; have hns154_0 := NB274_275.out; have hms154_0 := NB275_274.out
              have hs155 : w150.cell? ⟨gb275, 3, none⟩ = some (.int .i64 0) := (blk_cell BK275.out 3).trans rfl
              have hfs155 := blk_frozen BK275.out 3; have hns155_0 := NB274_275.out; have hms155_0 := NB275_274.out
              have hs156 : w150.cell? ⟨gb275, 4, none⟩ = some (.bool false) := (blk_cell BK275.out 4).trans rfl
              have hfs156 := blk_frozen BK275.out 4; have hns156_0 := NB274_275.out; have hms156_0 := NB275_274.out
              have hs157 : w150.cell? ⟨gb275, 5, none⟩ = some (.string (⟨#[]⟩ : ByteArray)) := (blk_cell BK275.out 5).trans rfl
              have hfs157 := blk_frozen BK275.out 5; have hns157_0 := NB274_275.out; have hms157_0 := NB275_274.out; refine skip_ (w1 := ?_) (by rfl) rfl ?_ ?_; rotate_left
              ·go_simp; rfl
              refine hK.out _ _ ⟨((cell_far (p := ⟨gb275, _, none⟩) NB274_275.out _).trans (((cell_far (p := ⟨gb275, _, none⟩) NB274_275.out _).trans (((cell_far (p := ⟨gb275, _, none⟩) NB274_275.out _).trans (((cell_far (p := ⟨gb275, _, none⟩) NB274_275.out _).trans (((cell_far (p := ⟨gb275, _, none⟩) NB274_275.out _).trans (((cell_far (p := ⟨gb275, _, none⟩) NB274_275.out _).trans (hHeld.1)))))))))))), ((cell_far (p := ⟨gb275, _, none⟩) NB274_275.out _).trans (((cell_far (p := ⟨gb275, _, none⟩) NB274_275.out _).trans (((cell_far (p := ⟨gb275, _, none⟩) NB274_275.out _).trans (((cell_far (p := ⟨gb275, _, none⟩) NB274_275.out _).trans (((cell_far (p := ⟨gb275, _, none⟩) NB274_275.out _).trans (((cell_far (p := ⟨gb275, _, none⟩) NB274_275.out _).trans (hHeld.2.1)))))))))))), ((cell_far (p := ⟨gb275, _, none⟩) NB274_275.out _).trans (((cell_far (p := ⟨gb275, _, none⟩) NB274_275.out _).trans (((cell_far (p := ⟨gb275, _, none⟩) NB274_275.out _).trans (((cell_far (p := ⟨gb275, _, none⟩) NB274_275.out _).trans (((cell_far (p := ⟨gb275, _, none⟩) NB274_275.out _).trans (((cell_far (p := ⟨gb275, _, none⟩) NB274_275.out _).trans (hHeld.2.2.1)))))))))))), ((cell_far (p := ⟨gb275, _, none⟩) NB274_275.out _).trans (((cell_far (p := ⟨gb275, _, none⟩) NB274_275.out _).trans (((cell_far (p := ⟨gb275, _, none⟩) NB274_275.out _).trans (((cell_far (p := ⟨gb275, _, none⟩) NB274_275.out _).trans (((cell_far (p := ⟨gb275, _, none⟩) NB274_275.out _).trans (((cell_far (p := ⟨gb275, _, none⟩) NB274_275.out _).trans (hHeld.2.2.2.1)))))))))))), ((cell_far (p := ⟨gb275, _, none⟩) NB274_275.out _).trans (((cell_far (p := ⟨gb275, _, none⟩) NB274_275.out _).trans (((cell_far (p := ⟨gb275, _, none⟩) NB274_275.out _).trans (((cell_far (p := ⟨gb275, _, none⟩) NB274_275.out _).trans (((cell_far (p := ⟨gb275, _, none⟩) NB274_275.out _).trans (((cell_far (p := ⟨gb275, _, none⟩) NB274_275.out _).trans (hHeld.2.2.2.2.1)))))))))))), ((cell_far (p := ⟨gb275, _, none⟩) NB274_275.out _).trans (((cell_far (p := ⟨gb275, _, none⟩) NB274_275.out _).trans (((cell_far (p := ⟨gb275, _, none⟩) NB274_275.out _).trans (((cell_far (p := ⟨gb275, _, none⟩) NB274_275.out _).trans (((cell_far (p := ⟨gb275, _, none⟩) NB274_275.out _).trans (((cell_far (p := ⟨gb275, _, none⟩) NB274_275.out _).trans (hHeld.2.2.2.2.2))))))))))))⟩ (fun hHeld => ?_); clear hK K; refine pu_ 18 8 HT_ ?_; refine done_ (done_of HT_.out gk_) ?_
              try go_wp2
              refine bodyPost_ret (results_list (rs := [.tmp 6, .cell 7 62, .tmp 8]) rfl (by simp) (.tmp (.cell gb275 62 #[.int .i64 a1_0, .int .i64 a1_1, .int .i64 a1_2, .int .i64 0, .bool false, .string t328] (0, 0) _ rfl (tp0 BK275.out) Try.underlying62 rfl gk_ (.tmp .nil)))) rfl ?_
              exact ⟨_, (by first | rfl | (simp [errW_none, errW_some] <;> rfl) | (simp only [← hji143]; first | rfl | (simp [errW_none, errW_some] <;> rfl)) | (simp [*, errW_none, errW_some] <;> rfl)), (by (with_reducible repeat (first | apply KQ.S_alloc | apply KQ.S_drewN | apply KQ.S_drew)); exact KQ.S_mono (KQ.S_far (p := ⟨gb275, 5, none⟩) (KQ.S_far (p := ⟨gb275, 4, none⟩) (KQ.S_far (p := ⟨gb275, 3, none⟩) (KQ.S_far (p := ⟨gb275, 2, none⟩) (KQ.S_far (p := ⟨gb275, 1, none⟩) (KQ.S_far (p := ⟨gb275, 0, none⟩) (KQ.S_types HO_9.out BK275.out (by decide)) (fun _ hk => hk.2) (.int .i64 a1_0)) (fun _ hk => hk.2) (.int .i64 a1_1)) (fun _ hk => hk.2) (.int .i64 a1_2)) (fun _ hk => hk.2) (.int .i64 0)) (fun _ hk => hk.2) (.bool false)) (fun _ hk => hk.2) (.string t328)) (fun _ hk => trivial)), (te2 HB.out GE274.out GE275.out)⟩
             ·replace c140 := Bool.eq_false_iff.mpr c140; subst c140; rw [if_neg (show ¬ (false = true) by decide)] at H; simp only [Option.some.injEq, Prod.mk.injEq] at H; obtain ⟨rfl, rfl, rfl, rfl, rfl, rfl, rfl, rfl⟩ := H
              have p327 : 0 ≤ (x10_36 : Int) := dga
              have q327 : x10_36 < (y310.length : Int) := dga
              obtain ⟨ad327, A327_2, c327_2, A327_3, c327_3, e327, hx327_0, hx327_1, hx327_2, hx327_3, hx327_4, hx327_5, hl327_2, hi327_2, hl327_3, hi327_3⟩ := at_T82 (KQ.S_reads' HO_9.out).2.2 x10_36 p327 q327; obtain rfl : (⟨go51, of51, none⟩ : Addr) = ad327 := (by injection e327); obtain ⟨ce327, hce327, hMe327, hcc327⟩ := KQ.S_get HO_9.out z82 x10_36 p327 B7q47_; obtain ⟨ve327_2, ve327_3, rfl, ge327_2, ge327_3⟩ := k82_openM hMe327; have hv327_2 := hcc327 2 _ rfl; rw [add_field _ _ 2 (by omega)] at hv327_2; replace hv327_2 := Option.some.inj (hv327_2.symm.trans hx327_2); rw [hv327_2] at ge327_2; have HL327_2 := am (show Kd.R Kd.string 9 _ _ _ _ ((rd_T82 y310 x10_36).f2) from ge327_2); clear hv327_2 ge327_2; have HX327_2 := am hx327_2; have hv327_3 := hcc327 3 _ rfl; rw [add_field _ _ 3 (by omega)] at hv327_3; replace hv327_3 := Option.some.inj (hv327_3.symm.trans hx327_3); rw [hv327_3] at ge327_3; have HL327_3 := am (show Kd.R (Kd.int .i64) 3 _ _ _ _ ((rd_T82 y310 x10_36).f3) from ge327_3); clear hv327_3 ge327_3; have HX327_3 := am hx327_3; clear hcc327 hce327
              (first | simp only [add_plain] at hx327_0 | simp only [add_at] at hx327_0 | simp only [Addr.add, Nat.zero_add] at hx327_0 | skip)
              (first | simp only [add_plain] at hx327_1 | simp only [add_at] at hx327_1 | simp only [Addr.add, Nat.zero_add] at hx327_1 | skip)
              (first | simp only [add_plain] at hx327_2 | simp only [add_at] at hx327_2 | simp only [Addr.add, Nat.zero_add] at hx327_2 | skip)
              (first | simp only [add_plain] at hx327_3 | simp only [add_at] at hx327_3 | simp only [Addr.add, Nat.zero_add] at hx327_3 | skip)
              (first | simp only [add_plain] at hx327_4 | simp only [add_at] at hx327_4 | simp only [Addr.add, Nat.zero_add] at hx327_4 | skip)
              (first | simp only [add_plain] at hx327_5 | simp only [add_at] at hx327_5 | simp only [Addr.add, Nat.zero_add] at hx327_5 | skip)
              have HR327_2 := am hi327_2; have HC327_2 := am hl327_2; clear hi327_2 hl327_2; have HR327_3 := am hi327_3; have HC327_3 := am hl327_3; clear hi327_3 hl327_3; replace p327 := eq_true p327; replace q327 := eq_true q327
              go_wp2_with (first | ((with_reducible refine gate_callee (f := 102) rfl ?_); refine goesL_ (some 116) rfl rfl Try.func102 gk_ rfl #[.agg #[.int .i64 ((rd_T82 y310 x10_36).f0), .int .i64 ((rd_T82 y310 x10_36).f1), .slice A327_2 ((rd_T82 y310 x10_36).f2).length c327_2, .slice A327_3 ((rd_T82 y310 x10_36).f3).length c327_3, .int .i64 ((rd_T82 y310 x10_36).f4), .int .i64 ((rd_T82 y310 x10_36).f5)]] rfl gm_ ?_; (with_reducible refine (impl_whole.calls kj82 ((rd_T82 y310 x10_36).f0) ((rd_T82 y310 x10_36).f1) _ _ ((rd_T82 y310 x10_36).f2) _ _ ((rd_T82 y310 x10_36).f3) ((rd_T82 y310 x10_36).f4) ((rd_T82 y310 x10_36).f5) t328 false _ ?side1 ?side2 ?side3 ?side4 A139.out).mono ?_); (case side1 => exact (tc (td HR327_2.out))); (case side2 => exact HC327_2.out); (case side3 => exact (tc (td HR327_3.out))); (case side4 => exact HC327_3.out); rintro e w158 ⟨rfl, hb⟩; refine ⟨_, rfl, ?_⟩; replace HO_9 := am (KQ.S_below (tsq HO_9.out) hb); replace HL327_2 := am (Kd.R_below (tr HL327_2.out) hb); replace HL327_3 := am (Kd.R_below (tr HL327_3.out) hb); replace BK274 := am (bb BK274.out hb); replace BK275 := am (bb BK275.out hb); replace HR327_2 := am (cb HR327_2.out hb); replace HX327_2 := am (pw_cell_below hb HX327_2.out); replace HR327_3 := am (cb HR327_3.out hb); replace HX327_3 := am (pw_cell_below hb HX327_3.out); replace HB := am (below_step (te2 HB.out GE274.out GE275.out) hb); (try clear hb); (try clear hl); have hnb159 := NB275_274.out; have hgo159 := HNB274_go51.out; have hgp159 := HNB274_go51.out.symm; have hgq159 := HNB275_go51.out; have hgr159 := HNB275_go51.out.symm; have hnc159 := NB274_275.out; obtain ⟨hcz160_0, hcz160_1, hcz160_2, hcz160_3, hcz160_4, hcz160_5⟩ := cl6 BK275.out; obtain ⟨hfz160_0, hfz160_1, hfz160_2, hfz160_3, hfz160_4, hfz160_5⟩ := fr6 BK275.out) | ((with_reducible refine gate_store (t := 62) (p := 7) rfl ?_); refine store_event (t := 62) (p := 7) (v := ?vo_w161) (w1 := ((((((w158.setCell ⟨gb275, 0, none⟩ (.int .i64 0)).setCell ⟨gb275, 1, none⟩ (.int .i64 0)).setCell ⟨gb275, 2, none⟩ (.int .i64 0)).setCell ⟨gb275, 3, none⟩ (.int .i64 0)).setCell ⟨gb275, 4, none⟩ (.bool false)).setCell ⟨gb275, 5, none⟩ (.string (⟨#[]⟩ : ByteArray)))) ?hg ?ho ?hn ?hr ?_; (case ho => rfl); (case hg => rfl); (case hn => rfl); (case hr => exact gs_); intro w161 hw; replace HO_9 : Aside0 (KQ.S k82 82 w161 w.heap.size (fun _ => True) (.slice (some ⟨go51, of51, none⟩) y310.length co51) y310) := ⟨B7q5_⟩; replace HL327_2 : Aside0 (Kd.R Kd.string 9 w161 w.heap.size (fun k_ => some k_ ≠ (.slice (some ⟨go51, of51, none⟩) y310.length co51 : Value).ownBlock) (.slice A327_2 ((rd_T82 y310 x10_36).f2).length c327_2) ((rd_T82 y310 x10_36).f2)) := ⟨(by rw [hw]; exact (by (with_reducible repeat (first | apply Kd.R_alloc | apply Kd.R_drewN | apply Kd.R_drew)); exact Kd.R_mono (Kd.R_far (p := ⟨gb275, 5, none⟩) (Kd.R_far (p := ⟨gb275, 4, none⟩) (Kd.R_far (p := ⟨gb275, 3, none⟩) (Kd.R_far (p := ⟨gb275, 2, none⟩) (Kd.R_far (p := ⟨gb275, 1, none⟩) (Kd.R_far (p := ⟨gb275, 0, none⟩) (Kd.R_types HL327_2.out BK275.out (by decide)) (fun _ hk => hk.2) (.int .i64 0)) (fun _ hk => hk.2) (.int .i64 0)) (fun _ hk => hk.2) (.int .i64 0)) (fun _ hk => hk.2) (.int .i64 0)) (fun _ hk => hk.2) (.bool false)) (fun _ hk => hk.2) (.string (⟨#[]⟩ : ByteArray))) (fun _ hk => hk.1.2)))⟩; replace HL327_3 : Aside0 (Kd.R (Kd.int .i64) 3 w161 w.heap.size (fun k_ => some k_ ≠ (.slice (some ⟨go51, of51, none⟩) y310.length co51 : Value).ownBlock) (.slice A327_3 ((rd_T82 y310 x10_36).f3).length c327_3) ((rd_T82 y310 x10_36).f3)) := ⟨(by rw [hw]; exact (by (with_reducible repeat (first | apply Kd.R_alloc | apply Kd.R_drewN | apply Kd.R_drew)); exact Kd.R_mono (Kd.R_far (p := ⟨gb275, 5, none⟩) (Kd.R_far (p := ⟨gb275, 4, none⟩) (Kd.R_far (p := ⟨gb275, 3, none⟩) (Kd.R_far (p := ⟨gb275, 2, none⟩) (Kd.R_far (p := ⟨gb275, 1, none⟩) (Kd.R_far (p := ⟨gb275, 0, none⟩) (Kd.R_types HL327_3.out BK275.out (by decide)) (fun _ hk => hk.2) (.int .i64 0)) (fun _ hk => hk.2) (.int .i64 0)) (fun _ hk => hk.2) (.int .i64 0)) (fun _ hk => hk.2) (.int .i64 0)) (fun _ hk => hk.2) (.bool false)) (fun _ hk => hk.2) (.string (⟨#[]⟩ : ByteArray))) (fun _ hk => hk.1.2)))⟩; replace BK274 : Aside0 (w161.heap[gb274]? = some (.cells #[.int .i64 a1_0, .int .i64 a1_1, .int .i64 a1_2, .int .i64 a1_3, .bool a1_4, .string a1_5] 62 (0, 0))) := ⟨(wtp1 BK274.out NB274_275.out)⟩; replace BK275 : Aside0 (w161.heap[gb275]? = some (.cells #[.int .i64 0, .int .i64 0, .int .i64 0, .int .i64 0, .bool false, .string (⟨#[]⟩ : ByteArray)] 62 (0, 0))) := ⟨BJ7x52_⟩; replace HB : Aside0 (Below w.heap.size w w161) := ⟨BJ7x51_⟩; clear hw))
              refine bodyPost_ret (results_list (rs := [.tmp 6, .cell 7 62, .tmp 8]) rfl (by simp) (.tmp (.cell gb275 62 #[.int .i64 0, .int .i64 0, .int .i64 0, .int .i64 0, .bool false, .string (⟨#[]⟩ : ByteArray)] (0, 0) _ rfl (tb BK275.out) Try.underlying62 rfl gk_ (.tmp .nil)))) rfl ?_; exact ⟨_, BJ7x24_, (tsq HO_9.out), (te2 HB.out GE274.out GE275.out)⟩


/-! ### impl_TidyBits, slices.DeleteFunc with its closure over a whole number, slices.IndexFunc with it: by hand -/
def late (d : Int) (b : S82) : Bool := decide (b.f5 ≤ d)
def impl_TidyBits.f (k : Nat) (l0 : List S82) (a1 : Int) : Option (List S82) := (impl_copyBits.f k l0).bind fun t => some (t.filter fun b => !late a1 b)
set_option maxHeartbeats 8000000 in
set_option maxRecDepth 100000 in
theorem late.asked (g : Nat) (d x0 x1 x4 x5 : Int) (A2 A3 : Option Addr) (n2 n3 c2 c3 : Nat) (w : World) (hb : w.heap[g]? = some (.cells #[.int .i64 d] 3 (0, 0))) :
    Calls Try.prog 107 (#[.agg #[.int .i64 x0, .int .i64 x1, .slice A2 n2 c2, .slice A3 n3 c3, .int .i64 x4, .int .i64 x5]] ++ #[.pointer (some ⟨g, 0, none⟩)]) w fun e w' => e = .returned (.bool (decide (x5 ≤ d))) ∧ Below w.heap.size w w' := by
  have hu82 := Try.underlying82
  have BK := Aside0.mk hb
  clear hb
  go_enter Try.func107, Try.ntmps107
  go_wp2_with (first | ((with_reducible refine gate_dst (N := 2) rfl ?_); refine box_event ?hg (N := 2) ?hd (cs := #[.int .i64 x0, .int .i64 x1, .slice A2 n2 c2, .slice A3 n3 c3, .int .i64 x4, .int .i64 x5]) (t := 82) ?hr ?_; (case hd => rfl); (case hg => rfl); (case hr => first | (go_simp; done) | (go_simp; rfl)); intro gb hg w2 hbox hb; replace BK := Aside0.mk (blk_below BK.out hb); have BX := Aside0.mk hbox; have HB := Aside0.mk hb; clear hb hbox hg; have hc5 := (blk_cell BX.out 5).trans rfl; have hd0 := (blk_cell BK.out 0).trans rfl))
  go_ret
  exact ⟨rfl, HB.out⟩
/-- What IndexFunc tells: the first late one, or -1. -/
def Found (d : Int) (l : List S82) (r : Int) : Prop := (r = -1 ∧ ∀ m, m < l.length → late d (l.getD m z82) = false) ∨ ∃ j : Nat, j < l.length ∧ r = (j : Int) ∧ late d (l.getD j z82) = true ∧ ∀ m, m < j → late d (l.getD m z82) = false
def Told (d : Int) (l : List S82) (w : World) (e : Ending) (w' : World) : Prop := ∃ r : Int, e = .returned (.int .i64 r) ∧ Found d l r ∧ Below w.heap.size w w'
set_option maxHeartbeats 8000000 in
set_option maxRecDepth 100000 in
theorem late.index (A0 : Option Addr) (c0 : Nat) (l0 : List S82) (g : Nat) (d : Int) (w : World) (hr0 : Kd.C k82 w A0 l0.length l0) (hc0 : l0.length ≤ c0) (hb : w.heap[g]? = some (.cells #[.int .i64 d] 3 (0, 0))) :
    Calls Try.prog 99 #[.slice A0 l0.length c0, .func (.func 107) #[] #[.pointer (some ⟨g, 0, none⟩)]] w (Told d l0 w) := by
  have hu82 := Try.underlying82
  have HR0 := Aside0.mk hr0
  have HC0 := Aside0.mk hc0
  have BK := Aside0.mk hb
  have HL := Aside0.mk (show l0.length ≤ 9223372036854775807 from hr0.2.1)
  clear hr0 hc0 hb
  go_enter Try.func99, Try.ntmps99
  go_wp2
  go_loopg [8] l0.length (fun kq v8 w' => ∃ (j : Int), v8 = .int .i64 j ∧ Aside0 (0 ≤ j ∧ j ≤ l0.length ∧ l0.length - j.toNat ≤ kq) ∧ Aside0 (∀ m, m < j.toNat → late d (l0.getD m z82) = false) ∧ Aside0 (Below w.heap.size w w'))
  case atStart => exact ⟨0, (by first | rfl | (simp; done) | (simp [*]; done)), ⟨by simp⟩, ⟨fun m hm => by simp at hm⟩, ⟨Below.refl _ _⟩⟩
  case round =>
    obtain ⟨j, rfl, HJ, HA, HB⟩ := hrel
    by_cases c1 : j < (l0.length : Int)
    · have c2 : 0 ≤ j := HJ.out.1
      obtain ⟨ad, A2, c2', A3, c3', e1, hx0, hx1, hx2, hx3, hx4, hx5, hl2, hg2, hl3, hg3⟩ := at_T82 (Kd.C_below HR0.out HB.out) j c2 c1
      clear hl2 hg2 hl3 hg3
      subst e1
      have hjn : Aside0 (wrap64 (j + 1) = j + 1) := ⟨by have := HL.out; unfold wrap64; omega⟩
      have C1 := Aside0.mk c1
      have C2 := Aside0.mk c2
      have c1b := eq_true c1
      have c2b := eq_true c2
      clear c1 c2
      have hld : Aside0 (late d (l0.getD j.toNat z82) = decide ((rd_T82 l0 j).f5 ≤ d)) := ⟨rfl⟩
      cases hq0 : decide ((rd_T82 l0 j).f5 ≤ d) with
      | true =>
        have hq := Aside0.mk hq0
        clear hq0
        go_wp2_with (go_at_call 107; refine (late.asked g d _ _ _ _ _ _ _ _ _ _ _ (blk_below BK.out HB.out)).mono ?_; rintro e w2 ⟨rfl, hb⟩; rw [hq.out]; replace HB := Aside0.mk (below_step HB.out hb); clear hb)
        go_ret
        exact ⟨j, rfl, .inr ⟨j.toNat, by have := C1.out; have := C2.out; omega, by have := C2.out; omega, by rw [hld.out, hq.out], HA.out⟩, HB.out⟩
      | false =>
        have hq := Aside0.mk hq0
        clear hq0
        go_wp2_with (go_at_call 107; refine (late.asked g d _ _ _ _ _ _ _ _ _ _ _ (blk_below BK.out HB.out)).mono ?_; rintro e w2 ⟨rfl, hb⟩; rw [hq.out]; replace HB := Aside0.mk (below_step HB.out hb); clear hb)
        go_roundg (l0.length - (j.toNat + 1))
        case measure => have := HJ.out; have := C1.out; omega
        case rel =>
          refine ⟨wrap64 (j + 1), (by first | rfl | (simp; done) | (simp [*]; done)), ⟨?_⟩, ⟨fun m hm => ?_⟩, ⟨HB.out⟩⟩
          · rw [hjn.out]; have := HJ.out; have := C1.out; omega
          · rw [hjn.out] at hm
            have hjp := C2.out
            by_cases he : m = j.toNat
            · rw [he, hld.out, hq.out]
            · exact HA.out m (by omega)
    · have C1 := Aside0.mk c1
      have c1b := eq_false c1
      clear c1
      go_wp2
      go_ret
      exact ⟨-1, rfl, .inl ⟨rfl, fun m hm => HA.out m (by have := C1.out; have := HJ.out; omega)⟩, HB.out⟩

theorem Found.none {d : Int} {l : List S82} {r : Int} (h : Found d l r) (hall : ∀ m, m < l.length → late d (l.getD m z82) = false) : r = -1 := by
  rcases h with ⟨h, _⟩ | ⟨j, hj, _, h, _⟩
  · exact h
  · rw [hall j hj] at h; cases h
theorem Found.first {d : Int} {l : List S82} {r : Int} (h : Found d l r) {j : Nat} (hj : j < l.length) (h1 : late d (l.getD j z82) = true) (h2 : ∀ m, m < j → late d (l.getD m z82) = false) : r = (j : Int) := by
  rcases h with ⟨_, h⟩ | ⟨i, hi, h, h3, h4⟩
  · rw [h j hj] at h1; cases h1
  · rcases Nat.lt_trichotomy i j with hij | hij | hij
    · rw [h2 i hij] at h3; cases h3
    · rw [h, hij]
    · rw [h4 j hij] at h1; cases h1
theorem zero82 : ∀ w : World, (zeroValue 82).run Try.prog w = .ok (.agg #[.int .i64 0, .int .i64 0, .slice none 0 0, .slice none 0 0, .int .i64 0, .int .i64 0]) w := by
  obtain ⟨i, hi, h⟩ := Option.map_eq_some_iff.1 info82
  have hz : i.zero = some (.agg #[.int .i64 0, .int .i64 0, .slice none 0 0, .slice none 0 0, .int .i64 0, .int .i64 0]) := by injection h
  intro w
  simp [zeroValue, typeInfo, hi, hz]
def Cut (d : Int) (l : List S82) (w0 : World) (ok : Nat → Prop) (e : Ending) (w' : World) : Prop := ∃ v, e = .returned v ∧ Kd.S k82 82 w' w0.heap.size ok v (l.filter fun b => !late d b) ∧ Below w0.heap.size w0 w'
/-- The elements' cells are as told. -/
theorem cells82 {w : World} {base : Nat} {okj : Nat → Prop} {x : S82} {c : List Value} (h : k82.M w base okj x c) : ∃ A2 n2 c2 A3 n3 c3, c = [.int .i64 x.f0, .int .i64 x.f1, .slice A2 n2 c2, .slice A3 n3 c3, .int .i64 x.f4, .int .i64 x.f5] := by
  obtain ⟨v2, v3, rfl, g2, g3⟩ := k82_openM h
  obtain ⟨A2, c2, rfl⟩ := Kd.R_slice g2
  obtain ⟨A3, c3, rfl⟩ := Kd.R_slice g3
  exact ⟨_, _, _, _, _, _, rfl⟩
set_option maxHeartbeats 8000000 in
set_option maxRecDepth 100000 in
theorem late.cut (l0 : List S82) (g : Nat) (d : Int) (ok : Nat → Prop) (v : Value) (w0 w : World) (hB : Below w0.heap.size w0 w) (hS : Kd.S k82 82 w w0.heap.size ok v l0) (hb : w.heap[g]? = some (.cells #[.int .i64 d] 3 (0, 0))) :
    Calls Try.prog 106 #[v, .func (.func 107) #[] #[.pointer (some ⟨g, 0, none⟩)]] w (Cut d l0 w0 ok) := by
  obtain ⟨A, c, rfl⟩ := Kd.S_slice hS
  obtain ⟨_, hnc, hC⟩ := Kd.S_reads' hS
  have HX := Aside0.mk (late.index A c l0 g d w hC hnc hb)
  rcases first_of (fun m => late d (l0.getD m z82)) l0.length with hall | ⟨j0, hj0, hl1, hl2⟩
  · have HF := Aside0.mk hall
    have HS := Aside0.mk hS
    have HB := Aside0.mk hB
    clear hB hS hb hall hC hnc
    go_enter Try.func106, Try.ntmps106
    go_wp2_with (go_at_call 99; refine HX.out.mono ?_; rintro e w1 ⟨r, rfl, hf, hb1⟩; obtain rfl := hf.none HF.out; clear hf; replace HS := Aside0.mk (Kd.S_below HS.out hb1); replace HB := Aside0.mk (below_step HB.out hb1); clear hb1)
    go_ret
    refine ⟨_, rfl, ?_, HB.out⟩
    rw [List.filter_eq_self.2 (fun b hb => by
      obtain ⟨m, hm, rfl⟩ := List.mem_iff_getElem.1 hb
      have := HF.out m hm
      simp only [List.getD_eq_getElem?_getD, List.getElem?_eq_getElem hm, Option.getD_some] at this
      rw [this]; rfl)]
    exact HS.out
  · obtain ⟨gs, cap, hv, hbg, hlt, _⟩ := Kd.S_form hS (by omega)
    injection hv with hA hn hc
    subst hA; subst hc
    clear hn
    obtain ⟨f, rows, hrl, hraw, hokg, hM⟩ := S_rows hS
    have hty := Kd.S_typed hS gs (by simp [Value.ownBlock])
    have hgg : g ≠ gs := by
      rintro rfl
      obtain ⟨cells, hc⟩ := hty
      rw [hb] at hc
      injection hc with hc
      injection hc with _ hc
      exact absurd hc (by decide)
    obtain ⟨kp, hkp⟩ : ∃ kp : Nat → Bool, kp = fun m => !late d (l0.getD m z82) := ⟨_, rfl⟩
    have HKP := Aside0.mk hkp
    have HM := Aside0.mk hM
    have HRL := Aside0.mk hrl
    have HOK := Aside0.mk hokg
    have HS := Aside0.mk hS
    have HN := Aside0.mk (show l0.length ≤ 9223372036854775807 from hC.2.1)
    have HCAP := Aside0.mk hnc
    have HJ0 := Aside0.mk hj0
    have HGG := Aside0.mk hgg
    have HLT := Aside0.mk hlt
    have HBG := Aside0.mk hbg
    have BK := Aside0.mk hb
    have HK := Aside0.mk (Kept.refl w (fun k => k = gs))
    have HR := Aside0.mk hraw
    have HB := Aside0.mk hB
    have HL1 := Aside0.mk hl1
    have HL2 := Aside0.mk hl2
    have hw0 : Aside0 (wrap64 ((j0 : Int) + 1) = (j0 : Int) + 1) := ⟨by unfold wrap64; have := hC.2.1; omega⟩
    have hne : ((j0 : Int) == -1) = false := beq_eq_false_iff_ne.2 (by omega)
    have hi0 : Aside0 (KI kp rows (j0 + 1) j0 rows) := ⟨KI.start (fun m hm => by rw [hkp]; show (!late d (l0.getD m z82)) = true; rw [hl2 m hm]; rfl) (by rw [hkp]; show (!late d (l0.getD j0 z82)) = false; rw [hl1]; rfl)⟩
    clear hB hb hkp hM hrl hokg hC hnc hj0 hl1 hl2 hS hgg hlt hbg hraw hty
    go_enter Try.func106, Try.ntmps106
    go_wp2_with (go_at_call 99; refine HX.out.mono ?_; rintro e w1 ⟨r, rfl, hf, hb1⟩; obtain rfl := hf.first HJ0.out HL1.out HL2.out; clear hf; replace HR := Aside0.mk (Kd.R_below HR.out hb1); replace HK := Aside0.mk (Kept.below HK.out hb1); replace HB := Aside0.mk (below_step HB.out hb1); clear hb1)
    go_loopg [5, 6, 7] l0.length (fun kq v5 v6 _v7 w' => ∃ (i j : Int) (cur : List (List Value)), v5 = .int .i64 i ∧ v6 = .int .i64 j ∧ Aside0 (0 ≤ i ∧ i < j ∧ j ≤ l0.length ∧ l0.length - j.toNat ≤ kq) ∧ Aside0 (KI kp rows j.toNat i.toNat cur) ∧ Aside0 ((Kd.raw 6).R 82 w' w0.heap.size (fun k => k = gs) (.slice (some ⟨gs, 0, none⟩) l0.length c) cur) ∧ Aside0 (Kept w w' (fun k => k = gs)) ∧ Aside0 (Below w0.heap.size w0 w'))
    case atStart =>
      refine ⟨(j0 : Int), wrap64 ((j0 : Int) + 1), rows, (by first | rfl | (simp; done) | (simp [*]; done)), (by first | rfl | (simp; done) | (simp [*]; done)), ⟨?_⟩, ⟨?_⟩, HR, HK, HB⟩
      · rw [hw0.out]; have := HJ0.out; omega
      · rw [hw0.out]; exact hi0.out
    case round =>
      obtain ⟨i, j, cur, rfl, rfl, HJ, HI, HR, HK, HB⟩ := hrel
      clear hi0 hw0
      by_cases c1 : j < (l0.length : Int)
      · have hj := HJ.out
        have hjn : Aside0 (wrap64 (j + 1) = j + 1) := ⟨by have := HN.out; unfold wrap64; omega⟩
        have hin : Aside0 (wrap64 (i + 1) = i + 1) := ⟨by have := HN.out; unfold wrap64; omega⟩
        have hjl : j.toNat < l0.length := by omega
        have hil : i.toNat < l0.length := by omega
        have hx := List.getElem?_eq_getElem hjl
        have hrj := List.getElem?_eq_getElem (l := rows) (i := j.toNat) (by have := HRL.out; omega)
        obtain ⟨A2, n2, c2, A3, n3, c3, hcj⟩ := cells82 (HM.out _ _ _ hx hrj)
        rw [hcj] at hrj
        have hf5 : l0[j.toNat].f5 = (l0.getD j.toNat z82).f5 := by rw [List.getD_eq_getElem?_getD, hx]; rfl
        have hcur : cur[j.toNat]? = some [.int .i64 l0[j.toNat].f0, .int .i64 l0[j.toNat].f1, .slice A2 n2 c2, .slice A3 n3 c3, .int .i64 l0[j.toNat].f4, .int .i64 l0[j.toNat].f5] := (HI.out.high _ (by omega)).trans hrj
        obtain ⟨x, hxx⟩ : ∃ x, x = l0[j.toNat] := ⟨_, rfl⟩
        rw [← hxx] at hcur hrj hf5
        have HRJ := Aside0.mk hrj
        have HQ : Aside0 (kp j.toNat = !decide (x.f5 ≤ d)) := ⟨by rw [HKP.out]; show (!decide ((l0.getD j.toNat z82).f5 ≤ d)) = _; rw [← hf5]⟩
        obtain ⟨⟨hx0, hx1, hx2, hx3, hx4, hx5⟩, _⟩ := raw6_at HR.out j (by omega) c1 hcur
        have HCU := Aside0.mk hcur
        have C1 := Aside0.mk c1
        have c1b := eq_true c1
        have c2b := eq_true (show 0 ≤ j by omega)
        have c3b := eq_true (show i < (l0.length : Int) by omega)
        have c4b := eq_true (show 0 ≤ i by omega)
        clear c1 hj hjl hil hx hrj hcj hf5 hcur hxx
        cases hq0 : decide (x.f5 ≤ d) with
        | true =>
          have hq := Aside0.mk hq0
          clear hq0
          go_wp2_with (first | ((with_reducible refine gate_dst (N := 7) rfl ?_); refine box_event ?hg (N := 7) ?hd (cs := #[.int .i64 0, .int .i64 0, .slice none 0 0, .slice none 0 0, .int .i64 0, .int .i64 0]) (t := 82) ?hr ?_; (case hd => rfl); (case hg => rfl); (case hr => first | (go_simp; done) | (go_simp; rfl)); intro gv hgv w2 hbox hb; have NV : Aside0 (gs ≠ gv) := ⟨by have := Kd.R_lt HR.out gs (by simp [Value.ownBlock]); omega⟩; have GV : Aside0 (w0.heap.size ≤ gv ∧ w.heap.size ≤ gv) := ⟨by have := below_size HB.out; have := HK.out.1; omega⟩; replace HR := Aside0.mk (Kd.R_below HR.out hb); replace HK := Aside0.mk (Kept.below HK.out hb); replace HB := Aside0.mk (below_step HB.out hb); have BV := Aside0.mk hbox; clear hbox hb hgv; obtain ⟨hc0, hc1, hc2, hc3, hc4, hc5⟩ := cl6 BV.out; obtain ⟨hz0, hz1, hz2, hz3, hz4, hz5⟩ := fr6 BV.out) | ((with_reducible refine gate_store (t := 82) (p := 7) rfl ?_); refine store_event (t := 82) (p := 7) (v := ?vo) (w1 := ((((((w2.setCell ⟨gv, 0, none⟩ (.int .i64 x.f0)).setCell ⟨gv, 1, none⟩ (.int .i64 x.f1)).setCell ⟨gv, 2, none⟩ (.slice A2 n2 c2)).setCell ⟨gv, 3, none⟩ (.slice A3 n3 c3)).setCell ⟨gv, 4, none⟩ (.int .i64 x.f4)).setCell ⟨gv, 5, none⟩ (.int .i64 x.f5))) ?hg ?ho ?hn ?hr ?_; (case ho => rfl); (case hg => rfl); (case hn => rfl); (case hr => first | (go_simp; done) | (go_simp; rfl)); intro w3 hw; replace BV := Aside0.mk (set6_self (.int .i64 x.f0) (.int .i64 x.f1) (.slice A2 n2 c2) (.slice A3 n3 c3) (.int .i64 x.f4) (.int .i64 x.f5) BV.out); rw [← hw] at BV; replace HB := Aside0.mk (set6_below (.int .i64 x.f0) (.int .i64 x.f1) (.slice A2 n2 c2) (.slice A3 n3 c3) (.int .i64 x.f4) (.int .i64 x.f5) HB.out GV.out.1 0 1 2 3 4 5); rw [← hw] at HB; replace HK := Aside0.mk (set6_kept (.int .i64 x.f0) (.int .i64 x.f1) (.slice A2 n2 c2) (.slice A3 n3 c3) (.int .i64 x.f4) (.int .i64 x.f5) HK.out (.inr GV.out.2) 0 1 2 3 4 5); rw [← hw] at HK; replace HR := Aside0.mk (Kd.R_step (w1 := w3) HR.out (fun k hk _ => by rw [hw, hk]; exact set6_far _ _ _ _ _ _ NV.out 0 1 2 3 4 5)); clear hw hc0 hc1 hc2 hc3 hc4 hc5 hz0 hz1 hz2 hz3 hz4 hz5; obtain ⟨hc0, hc1, hc2, hc3, hc4, hc5⟩ := cl6 BV.out) | (go_at_call 107; refine (late.asked g d _ _ _ _ _ _ _ _ _ _ _ ((HK.out.2 g (blk_lt BK.out) HGG.out).trans BK.out)).mono ?_; rintro e w4 ⟨rfl, hb⟩; rw [hq.out]; replace HR := Aside0.mk (Kd.R_below HR.out hb); replace HK := Aside0.mk (Kept.below HK.out hb); replace HB := Aside0.mk (below_step HB.out hb); clear hb))
          go_roundg (l0.length - (j.toNat + 1))
          case measure => have := HJ.out; have := C1.out; omega
          case rel =>
            refine ⟨i, wrap64 (j + 1), cur, (by first | rfl | (simp; done) | (simp [*]; done)), (by first | rfl | (simp; done) | (simp [*]; done)), ⟨?_⟩, ⟨?_⟩, HR, HK, HB⟩
            · rw [hjn.out]; have := HJ.out; have := C1.out; omega
            · have h := HI.out.skip (by rw [HQ.out, hq.out]; rfl)
              rw [hjn.out]
              have := HJ.out
              rw [show (j + 1).toNat = j.toNat + 1 by omega]
              exact h
        | false =>
          have hq := Aside0.mk hq0
          clear hq0
          go_wp2_with (first | ((with_reducible refine gate_dst (N := 7) rfl ?_); refine box_event ?hg (N := 7) ?hd (cs := #[.int .i64 0, .int .i64 0, .slice none 0 0, .slice none 0 0, .int .i64 0, .int .i64 0]) (t := 82) ?hr ?_; (case hd => rfl); (case hg => rfl); (case hr => first | (go_simp; done) | (go_simp; rfl)); intro gv hgv w2 hbox hb; have NV : Aside0 (gs ≠ gv) := ⟨by have := Kd.R_lt HR.out gs (by simp [Value.ownBlock]); omega⟩; have GV : Aside0 (w0.heap.size ≤ gv ∧ w.heap.size ≤ gv) := ⟨by have := below_size HB.out; have := HK.out.1; omega⟩; replace HR := Aside0.mk (Kd.R_below HR.out hb); replace HK := Aside0.mk (Kept.below HK.out hb); replace HB := Aside0.mk (below_step HB.out hb); have BV := Aside0.mk hbox; clear hbox hb hgv; obtain ⟨hc0, hc1, hc2, hc3, hc4, hc5⟩ := cl6 BV.out; obtain ⟨hz0, hz1, hz2, hz3, hz4, hz5⟩ := fr6 BV.out) | ((with_reducible refine gate_store (t := 82) (p := 7) rfl ?_); refine store_event (t := 82) (p := 7) (v := ?vo) (w1 := ((((((w2.setCell ⟨gv, 0, none⟩ (.int .i64 x.f0)).setCell ⟨gv, 1, none⟩ (.int .i64 x.f1)).setCell ⟨gv, 2, none⟩ (.slice A2 n2 c2)).setCell ⟨gv, 3, none⟩ (.slice A3 n3 c3)).setCell ⟨gv, 4, none⟩ (.int .i64 x.f4)).setCell ⟨gv, 5, none⟩ (.int .i64 x.f5))) ?hg ?ho ?hn ?hr ?_; (case ho => rfl); (case hg => rfl); (case hn => rfl); (case hr => first | (go_simp; done) | (go_simp; rfl)); intro w3 hw; replace BV := Aside0.mk (set6_self (.int .i64 x.f0) (.int .i64 x.f1) (.slice A2 n2 c2) (.slice A3 n3 c3) (.int .i64 x.f4) (.int .i64 x.f5) BV.out); rw [← hw] at BV; replace HB := Aside0.mk (set6_below (.int .i64 x.f0) (.int .i64 x.f1) (.slice A2 n2 c2) (.slice A3 n3 c3) (.int .i64 x.f4) (.int .i64 x.f5) HB.out GV.out.1 0 1 2 3 4 5); rw [← hw] at HB; replace HK := Aside0.mk (set6_kept (.int .i64 x.f0) (.int .i64 x.f1) (.slice A2 n2 c2) (.slice A3 n3 c3) (.int .i64 x.f4) (.int .i64 x.f5) HK.out (.inr GV.out.2) 0 1 2 3 4 5); rw [← hw] at HK; replace HR := Aside0.mk (Kd.R_step (w1 := w3) HR.out (fun k hk _ => by rw [hw, hk]; exact set6_far _ _ _ _ _ _ NV.out 0 1 2 3 4 5)); clear hw hc0 hc1 hc2 hc3 hc4 hc5 hz0 hz1 hz2 hz3 hz4 hz5; obtain ⟨hc0, hc1, hc2, hc3, hc4, hc5⟩ := cl6 BV.out) | (go_at_call 107; refine (late.asked g d _ _ _ _ _ _ _ _ _ _ _ ((HK.out.2 g (blk_lt BK.out) HGG.out).trans BK.out)).mono ?_; rintro e w4 ⟨rfl, hb⟩; rw [hq.out]; replace HR := Aside0.mk (Kd.R_below HR.out hb); replace HK := Aside0.mk (Kept.below HK.out hb); replace HB := Aside0.mk (below_step HB.out hb); replace BV := Aside0.mk (blk_below BV.out hb); clear hb hc0 hc1 hc2 hc3 hc4 hc5; obtain ⟨hc0, hc1, hc2, hc3, hc4, hc5⟩ := cl6 BV.out; obtain ⟨o0, o1, o2, o3, o4, o5, ho_⟩ := raw6_some HR.out i HJ.out.1 (by have := HJ.out; have := C1.out; omega); obtain ⟨⟨hy0, hy1, hy2, hy3, hy4, hy5⟩, ⟨hz0, hz1, hz2, hz3, hz4, hz5⟩⟩ := raw6_at HR.out i HJ.out.1 (by have := HJ.out; have := C1.out; omega) ho_; clear ho_))
          go_roundg (l0.length - (j.toNat + 1))
          case measure => have := HJ.out; have := C1.out; omega
          case rel =>
            refine ⟨wrap64 (i + 1), wrap64 (j + 1), _, (by first | rfl | (simp; done) | (simp [*]; done)), (by first | rfl | (simp; done) | (simp [*]; done)), ⟨?_⟩, ⟨?_⟩, ⟨(raw6_put HR.out i HJ.out.1 (by have := HJ.out; have := C1.out; omega) (.int .i64 x.f0) (.int .i64 x.f1) (.slice A2 n2 c2) (.slice A3 n3 c3) (.int .i64 x.f4) (.int .i64 x.f5) (by simp [Value.oneCell'])).1⟩, ⟨set6_kept (.int .i64 x.f0) (.int .i64 x.f1) (.slice A2 n2 c2) (.slice A3 n3 c3) (.int .i64 x.f4) (.int .i64 x.f5) HK.out (.inl rfl) (i.toNat * 6) (i.toNat * 6 + 1) (i.toNat * 6 + 2) (i.toNat * 6 + 3) (i.toNat * 6 + 4) (i.toNat * 6 + 5)⟩, ⟨set6_below (.int .i64 x.f0) (.int .i64 x.f1) (.slice A2 n2 c2) (.slice A3 n3 c3) (.int .i64 x.f4) (.int .i64 x.f5) HB.out HBG.out (i.toNat * 6) (i.toNat * 6 + 1) (i.toNat * 6 + 2) (i.toNat * 6 + 3) (i.toNat * 6 + 4) (i.toNat * 6 + 5)⟩⟩
            · rw [hjn.out, hin.out]; have := HJ.out; have := C1.out; omega
            · have h := HI.out.keep (by rw [HQ.out, hq.out]; rfl) HRJ.out
              rw [hjn.out, hin.out]
              have := HJ.out
              rw [show (j + 1).toNat = j.toNat + 1 by omega, show (i + 1).toNat = i.toNat + 1 by omega]
              exact h
      · have hje : j = (l0.length : Int) := by have := HJ.out; omega
        have hcap : c ≠ i.toNat := by have := HJ.out; have := HCAP.out; omega
        obtain ⟨i0, hi0, _, hsz0, _⟩ := info_parts info82
        have hcut1 := cut_from (P := Try.prog) 68 82 .i64 Try.underlying68 hi0 6 hsz0 (some ⟨gs, 0, none⟩) l0.length c i HJ.out.1 (by have := HJ.out; omega)
        rw [if_neg hcap, Option.map_some, add_plain] at hcut1
        have hcut2 := cut_to (P := Try.prog) 68 82 .i64 Try.underlying68 hi0 (some ⟨gs, 0, none⟩) l0.length c i HJ.out.1 (by have := HJ.out; omega) HCAP.out
        obtain ⟨vs, hvl, hcl⟩ := run_clear_rows (P := Try.prog) wr 68 82 _ Try.underlying68 zero82 (by simp [Value.oneCell', Value.cells]) gs (i.toNat * 6) (l0.length - i.toNat) (c - i.toNat) (by have := HJ.out; omega) (fun q hq => (raw_cells HR.out (i.toNat * 6 + q) (by have hq' : q < (l0.length - i.toNat) * 6 := hq; show i.toNat * 6 + q < l0.length * 6; have := HJ.out; omega)).1) (fun q hq => (raw_cells HR.out (i.toNat * 6 + q) (by have hq' : q < (l0.length - i.toNat) * 6 := hq; show i.toNat * 6 + q < l0.length * 6; have := HJ.out; omega)).2)
        have hvl6 : vs.length = (l0.length - i.toNat) * 6 := hvl
        have HT := Aside0.mk (raw_tail HR.out (m := i.toNat) (by have := HJ.out; omega) vs (by have := HJ.out; omega))
        have c1b := eq_false c1
        have HJE := Aside0.mk hje
        clear c1 hvl hvl6 hi0 hsz0 hcap hje
        go_wp2
        go_ret
        have hjn : j.toNat = l0.length := by have := HJE.out; omega
        have hI := HI.out
        rw [hjn] at hI
        have hfar : ∀ k, k < w.heap.size → k ≠ gs → (wr.setCells gs (i.toNat * 6) vs).heap[k]? = w.heap[k]? := fun k hk hne => (setCells_far vs _ k hne).trans (HK.out.2 k hk hne)
        have hfr := filter_range l0 (fun b => !late d b) z82
        have hs : ((List.range l0.length).filter kp) = (List.range l0.length).filter (fun j => !late d (l0.getD j z82)) := by rw [HKP.out]
        rw [← hs] at hfr
        obtain ⟨s, hss⟩ : ∃ s, s = (List.range l0.length).filter kp := ⟨_, rfl⟩
        have hsn : s.Nodup := by rw [hss]; exact List.nodup_range.filter _
        have hcnt : s.length = i.toNat := by rw [hss]; exact hI.cnt
        have hlow := hI.low
        rw [← hss] at hfr hlow
        have hcl : cur.length = l0.length := by rw [hI.len, HRL.out]
        refine ⟨_, rfl, ?_, ?_⟩
        · suffices hfin : Kd.S k82 82 (wr.setCells gs (i.toNat * 6) vs) w0.heap.size ok (.slice (some ⟨gs, 0, none⟩) s.length c) (l0.filter fun b => !late d b) by rw [hcnt] at hfin; exact hfin
          refine S_kept (rows' := cur.take i.toNat) HOK.out HM.out HRL.out hfar hsn (by rw [← hfr, List.length_map]) (by rw [List.length_take, hcnt]; have := HJ.out; omega) (fun q m hq => ?_) (by rw [hcnt]; exact HT.out.1)
          have hml : m < l0.length := by
            have := List.mem_of_getElem? hq
            rw [hss] at this
            exact List.mem_range.1 (List.mem_filter.1 this).1
          have hql : q < i.toNat := by rw [← hcnt]; exact (List.getElem?_eq_some_iff.1 hq).1
          refine ⟨hml, ?_, ?_⟩
          · rw [← hfr, List.getElem?_map, hq, Option.map_some, List.getD_eq_getElem?_getD, List.getElem?_eq_getElem hml]; rfl
          · rw [List.getElem?_take, if_pos hql]; exact hlow q m hq
        · exact HB.out.grown HT.out.2 (below_size HB.out) (fun k hk => by injection hk with hk; rw [← hk]; exact HBG.out)

set_option maxHeartbeats 8000000 in
set_option maxRecDepth 100000 in
theorem impl_TidyBits.calls (k : Nat) (A0 : Option Addr) (c0 : Nat) (l0 : List S82) (a1 : Int) (r : List S82) (w : World) (hr0 : Kd.C k82 w A0 l0.length l0) (hc0 : l0.length ≤ c0) (h : impl_TidyBits.f k l0 a1 = some r) :
    Calls Try.prog 43 #[.slice A0 l0.length c0, .int .i64 a1] w fun e w' => ∃ v0_ : Value, e = .returned (v0_) ∧ Kd.S k82 82 w' w.heap.size (fun _ => True) v0_ r ∧ Below w.heap.size w w' := by
  have HR0 := Aside0.mk hr0
  have HC0 := Aside0.mk hc0
  have HB := Aside0.mk (Below.refl w.heap.size w)
  clear hr0 hc0
  obtain ⟨t, A1, H⟩ := bsi (show (impl_copyBits.f k l0).bind (fun t => some (t.filter fun b => !late a1 b)) = some r from h)
  obtain rfl := Option.some.inj H
  clear h H
  go_enter Try.func43, Try.ntmps43
  go_wp2_with (first | ((with_reducible refine gate_dst (N := 3) rfl ?_); refine box_event ?hg (N := 3) ?hd (cs := #[.int .i64 a1]) (t := 3) ?hr ?_; (case hd => rfl); (case hg => rfl); (case hr => first | (go_simp; done) | (go_simp; rfl)); intro gb hg w2 hbox hb; have BK := Aside0.mk hbox; replace HB := Aside0.mk (below_step HB.out hb); clear hb hbox hg) | ((with_reducible refine gate_callee (f := 98) rfl ?_); refine goesL_ (some 6) rfl rfl Try.func98 (by kernel_rfl) rfl #[.slice A0 l0.length c0] rfl gm_ ?_; (with_reducible refine (impl_copyBits.calls k _ _ l0 t _ ?side1 ?side2 A1.out).mono ?_); (case side1 => exact (Kd.C_below HR0.out HB.out)); (case side2 => exact HC0.out); rintro e w3 ⟨v, rfl, ho0, hb⟩; refine ⟨_, rfl, ?_⟩; have HS := Aside0.mk (Kd.S_lower ho0 (below_size HB.out)); replace BK := Aside0.mk (blk_below BK.out hb); replace HB := Aside0.mk (below_step HB.out hb); clear hb ho0) | ((with_reducible refine gate_callee (f := 106) rfl ?_); refine goesL_ (some 8) rfl rfl Try.func106 (by kernel_rfl) rfl #[v, .func (.func 107) #[] #[.pointer (some ⟨gb, 0, none⟩)]] rfl gm_ ?_; (with_reducible refine (late.cut t gb a1 (fun _ => True) v w _ HB.out HS.out BK.out).mono ?_); rintro e w4 ⟨v', rfl, hs', hb'⟩; refine ⟨_, rfl, ?_⟩; replace HS := Aside0.mk hs'; replace HB := Aside0.mk hb'; clear hs' hb'))
  go_ret
  exact ⟨_, rfl, HS.out, HB.out⟩

end Go.Proofs.Ytmknnoeggkgkgaa.QFnBits
