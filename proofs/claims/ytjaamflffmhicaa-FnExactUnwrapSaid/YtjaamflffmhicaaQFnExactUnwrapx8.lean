/- Functions that a law reaches, as functions of Lean, and the walks that show that the calls come to their answers. No condition. -/
import Derived.Test.YtjaamflffmhicaaQFnExactUnwrapx0
import Derived.Test.YtjaamflffmhicaaQFnExactUnwrapx5
import Derived.Test.YtjaamflffmhicaaQFnExactUnwrapx6
import Derived.Test.YtjaamflffmhicaaQFnExactUnwrapx7
import Derived.Test.YtjaamflffmhicaaVFnExactUnwrapq
import Derived.Test.YtjaamflffmhicaaVFnExactUnwrapq2
import Derived.Test.YtjaamflffmhicaaVFnExactUnwraphort2
import Derived.Test.YtjaamflffmhicaaVFnExactUnwraphort3
import Derived.Test.YtjaamflffmhicaaVFnExactUnwraphort
import Derived.Test.YtjaamflffmhicaaVFnExactUnwraphort8
namespace Go.Proofs.Ytjaamflffmhicaa.QFnExactUnwrap
open Go.RowKit Go.Proofs.YtjaamflffmhicaaW.PrintWords Go.Proofs.YtjaamflffmhicaaW.PrintLast Go.Proofs.YtjaamflffmhicaaW.PrintMore Go.Proofs.Ytjaamflffmhicaa.Short Go.Proofs.Ytjaamflffmhicaa.Sq
set_option linter.unusedVariables false
set_option linter.unusedSimpArgs false
set_option maxHeartbeats 8000000
set_option maxRecDepth 100000
variable {p : Prop}
theorem D8x0_ (h : p := by exact ⟨bc B 0, bc B 1, bc B 2, bc B 3, bc B 4, bc B 5⟩) : p := h
section
attribute [local go_sem] max2_int min2_int max_two min_two max_three min_three max_four min_four
theorem B97x2_ (h : p := by first | (rw [add_block]; exact (fun e_ => ((bX.out.1 _ e_.symm).2) rfl)) | (show some (Addr.add _ _).block ≠ _; rw [add_block]; exact (fun e_ => ((bX.out.1 _ e_.symm).2) rfl)) | exact (fun e_ => ((bX.out.1 _ e_.symm).2) rfl)) : p := h
theorem B97x3_ (h : p := by first | (rw [add_block]; exact (fun e_ => ((bY.out.1 _ e_.symm).2) rfl)) | (show some (Addr.add _ _).block ≠ _; rw [add_block]; exact (fun e_ => ((bY.out.1 _ e_.symm).2) rfl)) | exact (fun e_ => ((bY.out.1 _ e_.symm).2) rfl)) : p := h
theorem B97x5_ (h : p := by rw [hw]; exact (by (with_reducible repeat (first | apply Kd.S_alloc | apply Kd.S_drewN | apply Kd.S_drew)); exact Kd.S_mono (Kd.S_far (p := ⟨z, 5, none⟩) (Kd.S_far (p := ⟨z, 4, none⟩) (Kd.S_far (p := ⟨z, 3, none⟩) (Kd.S_far (p := ⟨z, 2, none⟩) (Kd.S_far (p := ⟨z, 1, none⟩) (Kd.S_far (p := ⟨z, 0, none⟩) (Kd.S_types M.out U.out (by decide)) (fun _ hk => hk.2) (.int .i64 0)) (fun _ hk => hk.2) (.int .i64 0)) (fun _ hk => hk.2) (.int .i64 0)) (fun _ hk => hk.2) (.int .i64 0)) (fun _ hk => hk.2) (.bool false)) (fun _ hk => hk.2) (.string (⟨#[]⟩ : ByteArray))) (fun _ hk => trivial))) : p := h
theorem B96x5_ (h : p := by rw [hw]; exact (by (with_reducible repeat (first | apply KQ.S_alloc | apply KQ.S_drewN | apply KQ.S_drew)); exact KQ.S_mono (KQ.S_far (p := ⟨z, 5, none⟩) (KQ.S_far (p := ⟨z, 4, none⟩) (KQ.S_far (p := ⟨z, 3, none⟩) (KQ.S_far (p := ⟨z, 2, none⟩) (KQ.S_far (p := ⟨z, 1, none⟩) (KQ.S_far (p := ⟨z, 0, none⟩) (KQ.S_types M.out U.out (by decide)) (fun _ hk => hk.2) (.int .i64 0)) (fun _ hk => hk.2) (.int .i64 0)) (fun _ hk => hk.2) (.int .i64 0)) (fun _ hk => hk.2) (.int .i64 0)) (fun _ hk => hk.2) (.bool false)) (fun _ hk => hk.2) (.string (⟨#[]⟩ : ByteArray))) (fun _ hk => trivial))) : p := h
theorem B97x7_ (h : p := by first | (rw [add_block]; exact Kd.S_lt M.out _ rfl) | (show (Addr.add _ _).block < _; rw [add_block]; exact Kd.S_lt M.out _ rfl) | exact Kd.S_lt M.out _ rfl) : p := h
theorem B96x7_ (h : p := by first | (rw [add_block]; exact KQ.S_lt M.out _ rfl) | (show (Addr.add _ _).block < _; rw [add_block]; exact KQ.S_lt M.out _ rfl) | exact KQ.S_lt M.out _ rfl) : p := h
theorem B97x24_ (h : p := by first | rfl | (simp [errW_none, errW_some] <;> rfl) | (simp [*, errW_none, errW_some] <;> rfl)) : p := h
theorem B97x26_ (h : p := by (with_reducible repeat (first | apply Kd.S_alloc | apply Kd.S_drewN | apply Kd.S_drew)); exact Kd.S_mono M.out (fun k_ hk => ⟨trivial, fun e_ => e_⟩)) : p := h
theorem B96x26_ (h : p := by (with_reducible repeat (first | apply KQ.S_alloc | apply KQ.S_drewN | apply KQ.S_drew)); exact KQ.S_mono M.out (fun k_ hk => ⟨trivial, fun e_ => e_⟩)) : p := h
theorem B97x37_ (h : p := by first | exact a4 | exact dga | (have e_ := (Kd.S_reads' M.out).1; omega)) : p := h
theorem B96x37_ (h : p := by first | exact a4 | exact dga | (have e_ := (KQ.S_reads' M.out).1; omega)) : p := h
theorem B97x45_ (h : p := by first | exact bD | exact dga | (have e_ := (Kd.S_reads' M.out).1; omega)) : p := h
theorem B96x45_ (h : p := by first | exact bD | exact dga | (have e_ := (KQ.S_reads' M.out).1; omega)) : p := h
theorem B97x46_ (h : p := by first | exact bE | exact dga | (have e_ := (Kd.S_reads' M.out).1; omega)) : p := h
theorem B96x46_ (h : p := by first | exact bE | exact dga | (have e_ := (KQ.S_reads' M.out).1; omega)) : p := h
theorem B97x47_ (h : p := by first | exact bF | exact dga | (have e_ := (Kd.S_reads' M.out).1; omega)) : p := h
theorem B96x47_ (h : p := by first | exact bF | exact dga | (have e_ := (KQ.S_reads' M.out).1; omega)) : p := h
theorem B97x48_ (h : p := by have := eB.out; have := fD.out; have := gY.out; first | omega | exact Nat.le_refl _) : p := h
theorem B97x49_ (h : p := by have := eB.out; have := fD.out; first | omega | exact Nat.le_refl _) : p := h
theorem B97x50_ (h : p := by have := (Kd.S_reads' ho).1; omega) : p := h
theorem B96x50_ (h : p := by have := (KQ.S_reads' ho).1; omega) : p := h
theorem B97x51_ (h : p := by rw [hw]; exact (te2 HB.out ar.out au.out)) : p := h
theorem B97x52_ (h : p := by rw [hw]; exact (tp0 U.out)) : p := h
theorem B97x53_ (h : p := by have := eB.out; first | omega | exact Nat.le_refl _) : p := h
theorem B97x54_ (h : p := by exact (below_size (te2 HB.out ar.out au.out))) : p := h
theorem tsq {p q : Prop} (x : q) (h : q → p := by intro q_; (with_reducible repeat (first | apply KQ.S_alloc | apply KQ.S_drewN | apply KQ.S_drew)); exact q_) : p := h x
mutual
def impl_JoinBits.j0 : Nat → Int → List (S52) → Bool → Int → Int → Int → Int → Bool → ByteArray → Option ((List (S52)) × Int × Int × Int × Int × Bool × ByteArray × Bool)
 | 0, _, _, _, _, _, _, _, _, _ => none
 | k + 1, x2, x9, iL, aX, a3, aY, aZ, a5, a6 => if iL = true then (some (x9, 0, 0, 0, 0, false, (⟨#[]⟩ : ByteArray), false)) else (if aZ = 0 then (impl_JoinBits.j1 k x2 x9 (!a5) aX a3 aY aZ a5 a6) else (impl_JoinBits.j1 k x2 x9 false aX a3 aY aZ a5 a6))
def impl_JoinBits.j1 : Nat → Int → List (S52) → Bool → Int → Int → Int → Int → Bool → ByteArray → Option ((List (S52)) × Int × Int × Int × Int × Bool × ByteArray × Bool)
 | 0, _, _, _, _, _, _, _, _, _ => none
 | k + 1, x2, x9, iM, aX, a3, aY, aZ, a5, a6 => if iM = true then (some (x9, aX, a3, aY, aZ, a5, a6, true)) else ((impl_Bits.f k x9 aX a3 aY aZ a5 a6).bind fun cJ => (if cJ < 0 then (if x9.length < 1759218604441 then ((some (x9 ++ [(⟨aX, aY, ([] : List ByteArray), ([] : List Int), 0, wrap64 (x2 + 10)⟩ : S52)] : List (S52))).bind fun aC => (impl_JoinBits.j2 k (aC.drop (mx 0 (wrap64 ((aC.length : Int) - 3))).toNat) (wrap64 (((aC.drop (mx 0 (wrap64 ((aC.length : Int) - 3))).toNat).length : Int) - 1)) aX a3 aY aZ a5 a6)) else (none)) else (impl_JoinBits.j2 k x9 cJ aX a3 aY aZ a5 a6)))
def impl_JoinBits.j2 : Nat → List (S52) → Int → Int → Int → Int → Int → Bool → ByteArray → Option ((List (S52)) × Int × Int × Int × Int × Bool × ByteArray × Bool)
 | 0, _, _, _, _, _, _, _, _ => none
 | k + 1, x9, aj, aX, a3, aY, aZ, a5, a6 => if 0 ≤ aj then (if aj < (x9.length : Int) then ((slices_Contains_int_int.f k ((rd_T52 x9 aj).f3) aZ).bind fun ft => (if ft = true then ((impl_whole.f k ((rd_T52 x9 aj).f0) ((rd_T52 x9 aj).f1) ((rd_T52 x9 aj).f2) ((rd_T52 x9 aj).f3) ((rd_T52 x9 aj).f4) ((rd_T52 x9 aj).f5)).bind fun fT => (if fT.2 = true then (if aj ≤ (x9.length : Int) then (if 0 ≤ (wrap64 (aj + 1)) then (if (wrap64 (aj + 1)) ≤ (x9.length : Int) then (some ((x9.eraseIdx (aj : Int).toNat), aX, a3, aY, 0, false, fT.1, true)) else (none)) else (none)) else (none)) else (some (x9, 0, 0, 0, 0, false, (⟨#[]⟩ : ByteArray), false)))) else (if ((rd_T52 x9 aj).f3).length < 17592186044416 then ((some (x9.set (aj : Int).toNat (⟨(rd_T52 x9 aj).f0, (rd_T52 x9 aj).f1, (rd_T52 x9 aj).f2, (((rd_T52 x9 aj).f3) ++ [aZ]), (rd_T52 x9 aj).f4, (rd_T52 x9 aj).f5⟩ : S52) : List (S52))).bind fun af => (if ((rd_T52 af aj).f2).length < 8796093022208 then ((some (af.set (aj : Int).toNat (⟨(rd_T52 af aj).f0, (rd_T52 af aj).f1, (((rd_T52 af aj).f2) ++ [a6]), (rd_T52 af aj).f3, (rd_T52 af aj).f4, (rd_T52 af aj).f5⟩ : S52) : List (S52))).bind fun Z => (if a5 = true then (impl_JoinBits.j3 k Z aj false aX a3 aY aZ a5 a6) else (impl_JoinBits.j3 k Z aj (((rd_T52 Z aj).f4) == 0) aX a3 aY aZ a5 a6))) else (none))) else (none)))) else (none)) else (none)
def impl_JoinBits.j3 : Nat → List (S52) → Int → Bool → Int → Int → Int → Int → Bool → ByteArray → Option ((List (S52)) × Int × Int × Int × Int × Bool × ByteArray × Bool)
 | 0, _, _, _, _, _, _, _, _, _ => none
 | k + 1, x9, aj, iK, aX, a3, aY, aZ, a5, a6 => if iK = true then (if 0 ≤ aj then (if aj < (x9.length : Int) then ((some (x9.set (aj : Int).toNat (⟨(rd_T52 x9 aj).f0, (rd_T52 x9 aj).f1, (rd_T52 x9 aj).f2, (rd_T52 x9 aj).f3, wrap64 (aZ + (a6.size : Int)), (rd_T52 x9 aj).f5⟩ : S52) : List (S52))).bind fun ak => ((impl_whole.f k ((rd_T52 ak aj).f0) ((rd_T52 ak aj).f1) ((rd_T52 ak aj).f2) ((rd_T52 ak aj).f3) ((rd_T52 ak aj).f4) ((rd_T52 ak aj).f5)).bind fun cW => (if cW.2 = true then (if aj ≤ (x9.length : Int) then (if 0 ≤ (wrap64 (aj + 1)) then (if (wrap64 (aj + 1)) ≤ (x9.length : Int) then (some ((ak.eraseIdx (aj : Int).toNat), aX, a3, aY, 0, false, cW.1, true)) else (none)) else (none)) else (none)) else (some (ak, 0, 0, 0, 0, false, (⟨#[]⟩ : ByteArray), false))))) else (none)) else (none)) else (if 0 ≤ aj then (if aj < (x9.length : Int) then ((impl_whole.f k ((rd_T52 x9 aj).f0) ((rd_T52 x9 aj).f1) ((rd_T52 x9 aj).f2) ((rd_T52 x9 aj).f3) ((rd_T52 x9 aj).f4) ((rd_T52 x9 aj).f5)).bind fun fU => (if fU.2 = true then (if aj ≤ (x9.length : Int) then (if 0 ≤ (wrap64 (aj + 1)) then (if (wrap64 (aj + 1)) ≤ (x9.length : Int) then (some ((x9.eraseIdx (aj : Int).toNat), aX, a3, aY, 0, false, fU.1, true)) else (none)) else (none)) else (none)) else (some (x9, 0, 0, 0, 0, false, (⟨#[]⟩ : ByteArray), false)))) else (none)) else (none))
end
def impl_JoinBits.f (k : Nat) (l0 : List (S52)) (ad : Int) (ag : Int) (ae : Int) (ah : Int) (ao : Bool) (al : ByteArray) (a2 : Int) : Option ((List (S52)) × Int × Int × Int × Int × Bool × ByteArray × Bool) := (impl_copyBits.f k l0).bind fun aH => ((impl_DgramOk.f ad ag ae ah ao al).bind fun dD => (if dD = true then ((impl_within.f a2 0 999999990).bind fun cI => (impl_JoinBits.j0 k a2 aH (!cI) ad ag ae ah ao al)) else (impl_JoinBits.j0 k a2 aH true ad ag ae ah ao al)))
def impl_JoinBits.T12 : Bool × List (List Nat × List Nat) := (true, [([], []), ([0], [0]), ([1], [1]), ([2], [2]), ([], []), ([4], [4]), ([3, 5], [3, 5]), ([6], [6])])
def impl_JoinBits.B12 : List Nat := [0, 1, 3, 7, 0, 16, 63, 127]
theorem impl_JoinBits.tab12 : rtab .any (opsOf Try.f22 12) = impl_JoinBits.T12 := by kernel_rfl
theorem impl_JoinBits.bits12 : waitsOk impl_JoinBits.T12.2 impl_JoinBits.B12 = true := by kernel_rfl
def impl_JoinBits.T13 : Bool × List (List Nat × List Nat) := (true, [([], []), ([], []), ([1], [1]), ([2], [2]), ([3], [3]), ([], []), ([5], [5]), ([6], [6]), ([4, 7], [4, 7]), ([0, 0, 1, 2, 3, 4, 5, 6, 7, 8], [0]), ([9, 0, 1, 2, 3, 4, 5, 6, 7, 8], [9]), ([10, 8, 8, 0, 1, 2, 3, 4, 5, 6, 7, 8], [8, 10])])
def impl_JoinBits.B13 : List Nat := [0, 0, 2, 6, 14, 0, 32, 96, 254, 511, 1023, 2047]
theorem impl_JoinBits.tab13 : rtab .any (opsOf Try.f22 13) = impl_JoinBits.T13 := by kernel_rfl
theorem impl_JoinBits.bits13 : waitsOk impl_JoinBits.T13.2 impl_JoinBits.B13 = true := by kernel_rfl
def impl_JoinBits.T14 : Bool × List (List Nat × List Nat) := (true, [([], []), ([], []), ([1], [1]), ([2], [2]), ([3], [3]), ([], []), ([5], [5]), ([6], [6]), ([4, 7], [4, 7]), ([0, 0, 1, 2, 3, 4, 5, 6, 7, 8], [0]), ([9, 0, 1, 2, 3, 4, 5, 6, 7, 8], [9]), ([10, 8, 8, 0, 1, 2, 3, 4, 5, 6, 7, 8], [8, 10])])
def impl_JoinBits.B14 : List Nat := [0, 0, 2, 6, 14, 0, 32, 96, 254, 511, 1023, 2047]
theorem impl_JoinBits.tab14 : rtab .any (opsOf Try.f22 14) = impl_JoinBits.T14 := by kernel_rfl
theorem impl_JoinBits.bits14 : waitsOk impl_JoinBits.T14.2 impl_JoinBits.B14 = true := by kernel_rfl
def impl_JoinBits.T20 : Bool × List (List Nat × List Nat) := (true, [([], []), ([], []), ([0, 1], [0, 1]), ([], []), ([], []), ([4], [4]), ([3, 5], [3, 5]), ([2, 6], [2, 6]), ([], []), ([8], [8]), ([], []), ([10], [10]), ([], []), ([12], [12]), ([], []), ([9, 11, 13, 14], [9, 11, 13, 14]), ([7, 7, 0, 1, 2, 3, 4, 5, 6, 7], [7]), ([15, 16, 0, 1, 2, 3, 4, 5, 6, 7, 8, 9, 10, 11, 12, 13, 14, 15, 16], [15]), ([17, 0, 1, 2, 3, 4, 5, 6, 7, 8, 9, 10, 11, 12, 13, 14, 15, 16, 17], [])])
def impl_JoinBits.B20 : List Nat := [0, 0, 3, 0, 0, 16, 56, 127, 0, 256, 0, 1024, 0, 4096, 0, 32512, 255, 131071, 262143]
theorem impl_JoinBits.tab20 : rtab .any (opsOf Try.f22 20) = impl_JoinBits.T20 := by kernel_rfl
theorem impl_JoinBits.bits20 : waitsOk impl_JoinBits.T20.2 impl_JoinBits.B20 = true := by kernel_rfl
theorem impl_JoinBits.calls (k : Nat) (A0 : Option Addr) (c0 : Nat) (l0 : List (S52)) (ad : Int) (ag : Int) (ae : Int) (ah : Int) (ao : Bool) (al : ByteArray) (a2 : Int) (r1 : List (S52)) (r2 : Int) (r3 : Int) (r4 : Int) (r5 : Int) (r6 : Bool) (r7 : ByteArray) (r8 : Bool) (w : World) (gp : Kd.C k52 w A0 l0.length l0) (f2 : l0.length ≤ c0) (h : impl_JoinBits.f k l0 ad ag ae ah ao al a2 = some (r1, r2, r3, r4, r5, r6, r7, r8)) :
  Calls Try.prog 22 #[.slice A0 l0.length c0, .agg #[.int .i64 ad, .int .i64 ag, .int .i64 ae, .int .i64 ah, .bool ao, .string al], .int .i64 a2] w fun e w' => ∃ gF : Value, e = .returned (.tuple #[gF, .agg #[.int .i64 r2, .int .i64 r3, .int .i64 r4, .int .i64 r5, .bool r6, .string r7], .bool r8]) ∧ SQ k52 52 w' w.heap.size (fun _ => True) gF r1 ∧ Below w.heap.size w w' := by
 have lW := Try.underlying44
 have lX := Try.underlying52
 have gZ := am gp
 have gX := am f2
 clear gp f2
 have HB := am (Below.refl w.heap.size w)
 have H : ((impl_copyBits.f k l0).bind fun aH => ((impl_DgramOk.f ad ag ae ah ao al).bind fun dD => (if dD = true then ((impl_within.f a2 0 999999990).bind fun cI => (impl_JoinBits.j0 k a2 aH (!cI) ad ag ae ah ao al)) else (impl_JoinBits.j0 k a2 aH true ad ag ae ah ao al)))) = some (r1, r2, r3, r4, r5, r6, r7, r8) := h
 clear h
 replace H := bsi H
 obtain ⟨aH, A4, H⟩ := H
 (try dsimp only at H)
 have ey := am H
 clear H
 go_enter Try.func22, Try.ntmps22
 go_upto_region 2 with (first | ((with_reducible refine gate_dst (N := 4) rfl ?_); refine bx (N := 4) (cs := #[.int .i64 ad, .int .i64 ag, .int .i64 ae, .int .i64 ah, .bool ao, .string al]) (t := 44) ?_; intro ai hg w6 hbox hb; have B := am hbox; have ar := gA hg HB; replace HB := hA HB hb; clear hb hbox hg) | ((with_reducible refine gate_dst (N := 7) rfl ?_); refine bx (N := 7) (cs := #[.int .i64 0, .int .i64 0, .int .i64 0, .int .i64 0, .bool false, .string (⟨#[]⟩ : ByteArray)]) (t := 44) ?_; intro z hg w7 hbox hb; have U := am hbox; have au := gA hg HB; replace HB := am (below_step (te1 HB.out ar.out) hb); have D := nA hg B; have av := mA hg B; replace B := bA B hb; clear hb hbox hg) | ((with_reducible refine gate_callee (f := 20) rfl ?_); refine gL (some 15) Try.func20 #[.slice A0 l0.length c0] ?_; (with_reducible refine (impl_copyBits.calls k _ _ l0 aH _ ?z1 ?z2 A4.out).mono ?_); (case z1 => repeat (first | exact (Kd.C_below gZ.out HB.out) | (with_reducible refine Kd.C_alloc ?_ _) | (with_reducible refine Kd.C_drewN ?_ _) | (with_reducible refine Kd.C_drew ?_))); (case z2 => exact gX.out); rintro e w8 ⟨fu, rfl, ic, hb⟩; refine ⟨_, rfl, ?_⟩; have cm := am (Kd.S_lower ic (below_size (te2 HB.out ar.out au.out))); replace B := bA B hb; replace U := bA U hb; replace HB := am (below_step (te2 HB.out ar.out au.out) hb)))
 (try simp only [Act.put, List.setIfInBounds_toArray, List.set_cons_zero, List.set_cons_succ])
 go_cut [23] (fun iz wc => ∃ (kq : Nat) (ec : Bool), iz = .bool ec ∧ Aside0 (impl_JoinBits.j0 kq a2 aH ec ad ag ae ah ao al = some (r1, r2, r3, r4, r5, r6, r7, r8)) ∧ Aside0 (kq ≤ k) ∧ Aside0 (Kd.S k52 52 wc w.heap.size (fun _ => True) fu aH) ∧ Hc wc ai #[.int .i64 ad, .int .i64 ag, .int .i64 ae, .int .i64 ah, .bool ao, .string al] 44 ∧ Hc wc z #[.int .i64 0, .int .i64 0, .int .i64 0, .int .i64 0, .bool false, .string (⟨#[]⟩ : ByteArray)] 44 ∧ Hb w wc)
 case first =>
  have H := ey.out; clear ey; replace H := bsi H; obtain ⟨dD, A9, H⟩ := H; (try dsimp only at H)
  by_cases c10 : dD = true
  ·subst c10; rw [if_pos rfl] at H; replace H := bsi H; obtain ⟨cI, gI, H⟩ := H; (try dsimp only at H)
   have H' := am H
   clear H; have kI := D.out; have kU := av.out; obtain ⟨mO, mP, mQ, mR, mS, mT, oj, ol, om, oo, oq, ot⟩ := cf6 B
   go_wp2_with (first | ((with_reducible refine gate_callee (f := 48) rfl ?_); refine gL (some 17) Try.func48 #[.agg #[.int .i64 ad, .int .i64 ag, .int .i64 ae, .int .i64 ah, .bool ao, .string al]] ?_; (with_reducible refine (impl_DgramOk.calls ad ag ae ah ao al true _ A9.out).mono ?_); rintro e l5 ⟨rfl, hb⟩; refine ⟨_, rfl, ?_⟩; replace cm := sA cm hb; replace B := bA B hb; replace U := bA U hb; replace HB := am (below_step (te2 HB.out ar.out au.out) hb)) | (go_at_call 49; (with_reducible refine (impl_within.calls a2 0 999999990 cI _ gI.out).mono ?_); rintro e w' ⟨rfl, ⟨nd, rfl⟩⟩))
   go_meet
   case rel => exact ⟨_, (!cI), be_, H', ⟨gl_⟩, ⟨ts cm.out⟩, ⟨tb B.out⟩, ⟨tb U.out⟩, ⟨te2 HB.out ar.out au.out⟩⟩
  ·replace c10 := Bool.eq_false_iff.mpr c10; subst c10; rw [if_neg (show ¬ (false = true) by decide)] at H
   have H' := am H
   clear H; have kK := D.out; have kW := av.out; obtain ⟨m0, m1, m2, m3, m4, m5, oA, oB, oC, oD, oE, oF⟩ := cf6 B
   go_wp2_with (first | ((with_reducible refine gate_callee (f := 48) rfl ?_); refine gL (some 17) Try.func48 #[.agg #[.int .i64 ad, .int .i64 ag, .int .i64 ae, .int .i64 ah, .bool ao, .string al]] ?_; (with_reducible refine (impl_DgramOk.calls ad ag ae ah ao al false _ A9.out).mono ?_); rintro e l7 ⟨rfl, hb⟩; refine ⟨_, rfl, ?_⟩; replace cm := sA cm hb; replace B := bA B hb; replace U := bA U hb; replace HB := am (below_step (te2 HB.out ar.out au.out) hb)))
   go_meet
   case rel => exact ⟨_, true, be_, H', ⟨gl_⟩, ⟨ts cm.out⟩, ⟨tb B.out⟩, ⟨tb U.out⟩, ⟨te2 HB.out ar.out au.out⟩⟩
 case rest =>
  clear ey; obtain ⟨kq, ec, rfl, HA, eB, M, B, U, HB⟩ := hcut
  cases kq with
  | zero => exact absurd HA.out (by simp [impl_JoinBits.j0])
  | succ io =>
   have H := HA.out; clear HA; simp only [impl_JoinBits.j0] at H
   by_cases cp : ec = true
   ·subst cp; rw [if_pos rfl] at H; simp only [Option.some.injEq, Prod.mk.injEq] at H; obtain ⟨rfl, rfl, rfl, rfl, rfl, rfl, rfl, rfl⟩ := H; have kM := av.out; have kY := D.out; obtain ⟨m6, m7, m8, m9, na, nb, oG, oH, oI, oJ, oK, oL⟩ := cf6 U
    go_wp2_with (first | ((with_reducible refine gate_store (t := 44) (p := 7) rfl ?_); refine store_event (t := 44) (p := 7) (v := ?vo_w21) (w1 := ((((((wc.setCell ⟨z, 0, none⟩ (.int .i64 0)).setCell ⟨z, 1, none⟩ (.int .i64 0)).setCell ⟨z, 2, none⟩ (.int .i64 0)).setCell ⟨z, 3, none⟩ (.int .i64 0)).setCell ⟨z, 4, none⟩ (.bool false)).setCell ⟨z, 5, none⟩ (.string (⟨#[]⟩ : ByteArray)))) ?hg ?ho ?hn ?hr ?_; (case ho => rfl); (case hg => rfl); (case hn => rfl); (case hr => exact gs_); intro ea hw; replace M : Aside0 (Kd.S k52 52 ea w.heap.size (fun _ => True) fu aH) := ⟨B97x5_⟩; replace B : Hc ea ai #[.int .i64 ad, .int .i64 ag, .int .i64 ae, .int .i64 ah, .bool ao, .string al] 44 := ⟨wtp1 B.out D.out⟩; replace U : Hc ea z #[.int .i64 0, .int .i64 0, .int .i64 0, .int .i64 0, .bool false, .string (⟨#[]⟩ : ByteArray)] 44 := ⟨B97x52_⟩; replace HB : Hb w ea := ⟨B97x51_⟩; clear hw))
    refine bodyPost_ret (results_list (rs := [.tmp 6, .cell 7 44, .tmp 8]) rfl (by simp) (.tmp (.cell z 44 #[.int .i64 0, .int .i64 0, .int .i64 0, .int .i64 0, .bool false, .string (⟨#[]⟩ : ByteArray)] (0, 0) _ rfl (tb U.out) Try.underlying44 rfl gk_ (.tmp .nil)))) rfl ?_; exact ⟨_, B97x24_, SQ_of (ts M.out), (te2 HB.out ar.out au.out)⟩
   ·replace cp := Bool.eq_false_iff.mpr cp; subst cp; rw [if_neg (show ¬ (false = true) by decide)] at H; have ep := am H; clear H
    go_upto_region 4 with (fail)
    go_cut [33] (fun iA wc => ∃ (kq : Nat) (ed : Bool), iA = .bool ed ∧ Aside0 (impl_JoinBits.j1 kq a2 aH ed ad ag ae ah ao al = some (r1, r2, r3, r4, r5, r6, r7, r8)) ∧ Aside0 (kq ≤ io) ∧ Aside0 (Kd.S k52 52 wc w.heap.size (fun _ => True) fu aH) ∧ Hc wc ai #[.int .i64 ad, .int .i64 ag, .int .i64 ae, .int .i64 ah, .bool ao, .string al] 44 ∧ Hc wc z #[.int .i64 0, .int .i64 0, .int .i64 0, .int .i64 0, .bool false, .string (⟨#[]⟩ : ByteArray)] 44 ∧ Hb w wc)
    case first =>
     have H := ep.out; clear ep
     by_cases dd : ah = 0
     ·rw [if_pos dd] at H; obtain ⟨de, hF⟩ := yE dd; clear dd
      (first | rw [de] | (simp only [i64_w, i32_w]; rw [de]) | skip)
      have H' := am H
      clear H; have kN := D.out; have kZ := av.out; obtain ⟨nc, nf, nh, ni, nj, nk, oM, oN, oO, oP, oQ, oR⟩ := cf6 B
      go_wp2
      go_meet
      case rel => exact ⟨_, (!ao), be_, H', ⟨B97x53_⟩, ⟨ts M.out⟩, ⟨tb B.out⟩, ⟨tb U.out⟩, ⟨te2 HB.out ar.out au.out⟩⟩
     ·rw [if_neg dd] at H; obtain ⟨de, hF⟩ := nE dd
      (first | rw [de] | (simp only [i64_w, i32_w]; rw [de]) | skip)
      have H' := am H
      clear H; have kO := D.out; have k0 := av.out; obtain ⟨nm, nn, np, nr, ns, nt, oS, oT, oU, oV, oW, oX⟩ := cf6 B
      go_wp2
      go_meet
      case rel => exact ⟨_, false, be_, H', ⟨B97x53_⟩, ⟨ts M.out⟩, ⟨tb B.out⟩, ⟨tb U.out⟩, ⟨te2 HB.out ar.out au.out⟩⟩
    case rest =>
     clear ep
     try clear cp
     obtain ⟨kq, ed, rfl, HA, fD, M, B, U, HB⟩ := hcut
     cases kq with
     | zero => exact absurd HA.out (by simp [impl_JoinBits.j1])
     | succ d5 =>
      have H := HA.out; clear HA; simp only [impl_JoinBits.j1] at H
      by_cases cq : ed = true
      ·subst cq; rw [if_pos rfl] at H; simp only [Option.some.injEq, Prod.mk.injEq] at H; obtain ⟨rfl, rfl, rfl, rfl, rfl, rfl, rfl, rfl⟩ := H
       try go_wp2
       replace M := am (Kd.S_drew M.out); replace B := dA B; replace U := dA U; replace HB := bdr HB; refine start_ (n := 5) (S := fun w' => w'.cell? ⟨ai, 0, none⟩ = some (.int .i64 ad) ∧ w'.cell? ⟨ai, 1, none⟩ = some (.int .i64 ag) ∧ w'.cell? ⟨ai, 2, none⟩ = some (.int .i64 ae) ∧ w'.cell? ⟨ai, 3, none⟩ = some (.int .i64 ah) ∧ w'.cell? ⟨ai, 4, none⟩ = some (.bool ao) ∧ w'.cell? ⟨ai, 5, none⟩ = some (.string al)) (ds := []) #[false, false, false, false, false] gk_ rfl rfl D8x0_ (fun aa => ?_); generalize wc.drew = cM at M B U HB aa ⊢; refine pure_ (i := 0) (N := some 34) (v := ?_) (a' := ?_) #[true, false, false, false, false] rfl rfl gk_ (fun _ _ _ h => h) (Or.inl ⟨(by rfl), ?_⟩) ?_ ?_; rotate_left
       ·intro w'; go_simp; with_reducible rfl
       rotate_left
       ·simp only [Act.put, List.setIfInBounds_toArray, List.set_cons_zero, List.set_cons_succ, i64_w, i32_w]; rfl
       refine pure_ (i := 2) (N := some 6) (v := ?_) (a' := ?_) #[true, false, true, false, false] rfl rfl gk_ (fun _ _ _ h => h) (Or.inl ⟨(by rfl), ?_⟩) ?_ ?_; rotate_left
       ·intro w'; go_simp; with_reducible rfl
       rotate_left
       ·simp only [Act.put, List.setIfInBounds_toArray, List.set_cons_zero, List.set_cons_succ, i64_w, i32_w]; rfl
       refine take_ (i := 1) (N := some 35) (v := ?_) (a' := ?_) #[true, true, true, false, false] rfl rfl gk_ (fun _ _ _ h => h) (Or.inl ⟨(by rfl), ?_⟩) aa ?_ ?_; rotate_left
       ·rintro w' ⟨s0, s1, s2, s3, s4, s5⟩; go_simp; with_reducible rfl
       rotate_left
       ·simp only [Act.put, List.setIfInBounds_toArray, List.set_cons_zero, List.set_cons_succ, i64_w, i32_w]; rfl
       refine one_ (i := 3) (N := none) #[true, true, true, true, false] rfl rfl gk_ (by decide) (fun K hK => ?_)
       have lI : cM.cell? ⟨z, 0, none⟩ = some (.int .i64 0) := bc U 0
       have jS := blk_frozen U.out 0; have li := D.out; have kt := av.out
       have lJ : cM.cell? ⟨z, 1, none⟩ = some (.int .i64 0) := bc U 1
       have jT := blk_frozen U.out 1; have lj := D.out; have ku := av.out
       have lK : cM.cell? ⟨z, 2, none⟩ = some (.int .i64 0) := bc U 2
       have jU := blk_frozen U.out 2; have lk := D.out; have kv := av.out
       have lM : cM.cell? ⟨z, 3, none⟩ = some (.int .i64 0) := bc U 3
       have jV := blk_frozen U.out 3; have ll := D.out; have kw := av.out
       have lN : cM.cell? ⟨z, 4, none⟩ = some (.bool false) := bc U 4
       have jW := blk_frozen U.out 4; have lm := D.out; have kx := av.out
       have lO : cM.cell? ⟨z, 5, none⟩ = some (.string (⟨#[]⟩ : ByteArray)) := bc U 5
       have jX := blk_frozen U.out 5; have ln := D.out; have ky := av.out; refine skip_ (w1 := ?_) (by rfl) rfl ?_ ?_; rotate_left
       ·go_simp; rfl
       refine hK.out _ _ ⟨((cell_far (p := ⟨z, _, none⟩) D.out _).trans (((cell_far (p := ⟨z, _, none⟩) D.out _).trans (((cell_far (p := ⟨z, _, none⟩) D.out _).trans (((cell_far (p := ⟨z, _, none⟩) D.out _).trans (((cell_far (p := ⟨z, _, none⟩) D.out _).trans (((cell_far (p := ⟨z, _, none⟩) D.out _).trans (aa.1)))))))))))), ((cell_far (p := ⟨z, _, none⟩) D.out _).trans (((cell_far (p := ⟨z, _, none⟩) D.out _).trans (((cell_far (p := ⟨z, _, none⟩) D.out _).trans (((cell_far (p := ⟨z, _, none⟩) D.out _).trans (((cell_far (p := ⟨z, _, none⟩) D.out _).trans (((cell_far (p := ⟨z, _, none⟩) D.out _).trans (aa.2.1)))))))))))), ((cell_far (p := ⟨z, _, none⟩) D.out _).trans (((cell_far (p := ⟨z, _, none⟩) D.out _).trans (((cell_far (p := ⟨z, _, none⟩) D.out _).trans (((cell_far (p := ⟨z, _, none⟩) D.out _).trans (((cell_far (p := ⟨z, _, none⟩) D.out _).trans (((cell_far (p := ⟨z, _, none⟩) D.out _).trans (aa.2.2.1)))))))))))), ((cell_far (p := ⟨z, _, none⟩) D.out _).trans (((cell_far (p := ⟨z, _, none⟩) D.out _).trans (((cell_far (p := ⟨z, _, none⟩) D.out _).trans (((cell_far (p := ⟨z, _, none⟩) D.out _).trans (((cell_far (p := ⟨z, _, none⟩) D.out _).trans (((cell_far (p := ⟨z, _, none⟩) D.out _).trans (aa.2.2.2.1)))))))))))), ((cell_far (p := ⟨z, _, none⟩) D.out _).trans (((cell_far (p := ⟨z, _, none⟩) D.out _).trans (((cell_far (p := ⟨z, _, none⟩) D.out _).trans (((cell_far (p := ⟨z, _, none⟩) D.out _).trans (((cell_far (p := ⟨z, _, none⟩) D.out _).trans (((cell_far (p := ⟨z, _, none⟩) D.out _).trans (aa.2.2.2.2.1)))))))))))), ((cell_far (p := ⟨z, _, none⟩) D.out _).trans (((cell_far (p := ⟨z, _, none⟩) D.out _).trans (((cell_far (p := ⟨z, _, none⟩) D.out _).trans (((cell_far (p := ⟨z, _, none⟩) D.out _).trans (((cell_far (p := ⟨z, _, none⟩) D.out _).trans (((cell_far (p := ⟨z, _, none⟩) D.out _).trans (aa.2.2.2.2.2))))))))))))⟩ (fun aa => ?_); clear hK K; refine pure_ (i := 4) (N := some 8) (v := ?_) (a' := ?_) #[true, true, true, true, true] rfl rfl gk_ (fun _ _ _ h => h) (Or.inl ⟨(by rfl), ?_⟩) ?_ ?_; rotate_left
       ·intro w'; go_simp; with_reducible rfl
       rotate_left
       ·simp only [Act.put, List.setIfInBounds_toArray, List.set_cons_zero, List.set_cons_succ, i64_w, i32_w]; rfl
       refine done_ gk_ ?_
       try go_wp2
       refine bodyPost_ret (results_list (rs := [.tmp 6, .cell 7 44, .tmp 8]) rfl (by simp) (.tmp (.cell z 44 #[.int .i64 ad, .int .i64 ag, .int .i64 ae, .int .i64 ah, .bool ao, .string al] (0, 0) _ rfl (tp0 U.out) Try.underlying44 rfl gk_ (.tmp .nil)))) rfl ?_; exact ⟨_, B97x24_, SQ_of (by (with_reducible repeat (first | apply Kd.S_alloc | apply Kd.S_drewN | apply Kd.S_drew)); exact Kd.S_mono (Kd.S_far (p := ⟨z, 5, none⟩) (Kd.S_far (p := ⟨z, 4, none⟩) (Kd.S_far (p := ⟨z, 3, none⟩) (Kd.S_far (p := ⟨z, 2, none⟩) (Kd.S_far (p := ⟨z, 1, none⟩) (Kd.S_far (p := ⟨z, 0, none⟩) (Kd.S_types M.out U.out (by decide)) (fun _ hk => hk.2) (.int .i64 ad)) (fun _ hk => hk.2) (.int .i64 ag)) (fun _ hk => hk.2) (.int .i64 ae)) (fun _ hk => hk.2) (.int .i64 ah)) (fun _ hk => hk.2) (.bool ao)) (fun _ hk => hk.2) (.string al)) (fun _ hk => trivial)), (te2 HB.out ar.out au.out)⟩
      ·replace cq := Bool.eq_false_iff.mpr cq; subst cq; rw [if_neg (show ¬ (false = true) by decide)] at H; replace H := bsi H; obtain ⟨cJ, gU, H⟩ := H; (try dsimp only at H); have ex := am H; clear H; obtain ⟨fA, fX, hU⟩ := Kd.S_slice M.out; subst hU
       go_upto_if 40 with (first | ((with_reducible refine gate_callee (f := 50) rfl ?_); refine gL (some 38) Try.func50 #[.slice fA aH.length fX, .func (.func 51) #[] #[.pointer (some ⟨ai, 0, none⟩)]] ?_; (with_reducible refine (impl_Bits.calls d5 _ _ aH ai ad ag ae ah ao al cJ _ ?z1 ?z2 ?z3 gU.out).mono ?_); (case z1 => repeat (first | exact (Kd.S_reads' M.out).2.2 | (with_reducible refine Kd.C_alloc ?_ _) | (with_reducible refine Kd.C_drewN ?_ _) | (with_reducible refine Kd.C_drew ?_))); (case z2 => exact (Kd.S_reads' M.out).2.1); (case z3 => exact by (with_reducible repeat (first | refine blk_drewN ?_ _ | refine blk_drew ?_ | refine blk_alloc ?_ _)); exact B.out); rintro e l8 ⟨rfl, hb⟩; refine ⟨_, rfl, ?_⟩; replace M := sA M hb; replace B := bA B hb; replace U := bA U hb; replace HB := am (below_step (te2 HB.out ar.out au.out) hb)))
       (try simp only [Act.put, List.setIfInBounds_toArray, List.set_cons_zero, List.set_cons_succ])
       go_cut [9, 10] (fun v9 ix wc => ∃ (kq : Nat) (J : List (S52)) (l : Int), ix = .int .i64 l ∧ Aside0 (impl_JoinBits.j2 kq J l ad ag ae ah ao al = some (r1, r2, r3, r4, r5, r6, r7, r8)) ∧ Aside0 (kq ≤ d5) ∧ Aside0 (SQ k52 52 wc w.heap.size (fun _ => True) v9 J) ∧ Hc wc ai #[.int .i64 ad, .int .i64 ag, .int .i64 ae, .int .i64 ah, .bool ao, .string al] 44 ∧ Hc wc z #[.int .i64 0, .int .i64 0, .int .i64 0, .int .i64 0, .bool false, .string (⟨#[]⟩ : ByteArray)] 44 ∧ Hb w wc)
       case first =>
        have H := ex.out; clear ex
        by_cases cr : cJ < 0
        ·rw [if_pos cr] at H; have df := decide_eq_true cr; clear cr
         (first | rw [df] | (simp only [i64_w, i32_w]; rw [df]) | skip)
         by_cases dV : aH.length < 1759218604441
         rotate_left
         ·rw [if_neg dV] at H; exact absurd H (by simp)
         rw [if_pos dV] at H; have fM := am dV; clear dV; obtain ⟨aC, d3⟩ : ∃ y_ : List (S52), y_ = (aH ++ [(⟨ad, ae, ([] : List ByteArray), ([] : List Int), 0, wrap64 (a2 + 10)⟩ : S52)]) := ⟨_, rfl⟩
         replace H : (impl_JoinBits.j2 d5 (aC.drop (mx 0 (wrap64 ((aC.length : Int) - 3))).toNat) (wrap64 (((aC.drop (mx 0 (wrap64 ((aC.length : Int) - 3))).toNat).length : Int) - 1)) ad ag ae ah ao al) = some (r1, r2, r3, r4, r5, r6, r7, r8) := by rw [d3]; exact (Option.bind_some _ _).symm.trans H
         have hyl : aC.length = aH.length + 1 := by rw [d3, List.length_append]; rfl
         have YL := am hyl; have hp := am d3; clear d3; obtain ⟨aM, dt⟩ : ∃ j_ : Int, (mx 0 (wrap64 ((aC.length : Int) - 3))) = j_ := ⟨_, rfl⟩
         replace H : (impl_JoinBits.j2 d5 (aC.drop (aM).toNat) (wrap64 (((aC.drop (aM).toNat).length : Int) - 1)) ad ag ae ah ao al) = some (r1, r2, r3, r4, r5, r6, r7, r8) := by rw [dt] at H; exact H
         have hji42l : 0 ≤ aM ∧ aM < (aC.length : Int) := by
          have hl_ := fM.out
          have hw_ : wrap64 ((aC.length : Int) - 3) = (aC.length : Int) - 3 := by unfold wrap64; omega
          rw [hw_] at dt
          rw [← dt]; unfold mx; split <;> omega
         have ke : (if 0 < (wrap64 ((aC.length : Int) - 3)) then (wrap64 ((aC.length : Int) - 3)) else 0) = aM := dt
         have JI := am hji42l; obtain ⟨z42, hz42⟩ : ∃ z_ : List S52, z_ = aC.drop (aM).toNat := ⟨_, rfl⟩
         have hzl : z42.length = aC.length - aM.toNat := by rw [hz42, List.length_drop]
         rw [← hz42] at H
         have jp : decide (aM ≤ (aC.length : Int)) = true := decide_eq_true (by omega)
         have jq : decide (0 ≤ aM) = true := decide_eq_true (by omega)
         have Nz42 := am hz42; have ZL := am hzl; clear hz42 hzl hyl hji42l dt
         have H' := am H
         clear H; have kP := D.out; have k1 := av.out; obtain ⟨nu, nv, nw, nx, ny, nz, oY, oZ, o0, o1, o2, o3⟩ := cf6 B
         go_wp2_with (first | ((with_reducible refine gate_builtin (b := .append) (xs := #[.tmp 41, .tmp 49]) rfl ?_); at_builtin; refine Kd.S_append k52 (w0 := w) w.heap.size rfl (.tmp 41) (.tmp 49) 24 52 (.agg #[(.int .i64 0), (.int .i64 0), (.slice none 0 0), (.slice none 0 0), (.int .i64 0), (.int .i64 0)]) 80 rfl Try.underlying24 info52 rfl (by decide) (by omega) (.slice fA aH.length fX) aH (⟨ad, ae, ([] : List ByteArray), ([] : List Int), 0, wrap64 (a2 + 10)⟩ : S52) [.int .i64 ad, .int .i64 ae, .slice none 0 0, .slice none 0 0, .int .i64 0, .int .i64 (wrap64 (a2 + 10))] (fun _ => True) (fun _ => False) rfl rfl ?aP (fun k_ hk_ => hk_.elim) ?aF ?aO ?aB ?aS ?aL ?_; (case aP => exact k52_mkM _ _ _ (⟨ad, ae, ([] : List ByteArray), ([] : List Int), 0, wrap64 (a2 + 10)⟩ : S52) (Kd.R_nil _ _ _ _ _) (Kd.R_nil _ _ _ _ _)); (case aB => exact (te2 HB.out ar.out au.out)); (case aF => exact (fun _ _ => trivial)); (case aO => exact B97x26_); (case aS => exact B97x54_); (case aL => have := fM.out; omega); intro lY l9 ho hb hg hat; rw [← hp.out] at ho; replace B := bg B hg (Kd.S_ne M.out B.out (by decide)); replace U := bg U hg (Kd.S_ne M.out U.out (by decide)); replace HB := am hb; have eC := am ho; clear M; clear ho hb hg hat; obtain ⟨bV, dm, hV⟩ := Kd.S_slice eC.out; subst hV; obtain ⟨i048, hi048, _, hsz48, _⟩ := info_parts info52; have hcut48 := cut_from (P := Try.prog) 24 52 .i64 Try.underlying24 hi048 6 hsz48 bV aC.length dm (aM) JI.out.1 (Int.le_of_lt JI.out.2); have hq48 := SQ_drop (j := aM.toNat) eC.out (by have := JI.out; omega) (by decide); rw [← Nz42.out, show (if dm = aM.toNat then bV else bV.map (·.add (aM.toNat * k52.sz))) = (if dm = aM.toNat then bV else bV.map (·.add (aM.toNat * 6))) from rfl] at hq48; obtain ⟨Aq48, hAq48⟩ : ∃ A_, A_ = (if dm = aM.toNat then bV else bV.map (·.add (aM.toNat * 6))) := ⟨_, rfl⟩; obtain ⟨cq48, hcq48⟩ : ∃ c_, c_ = dm - aM.toNat := ⟨_, rfl⟩; rw [← hAq48, ← hcq48, ← ZL.out] at hcut48 hq48; have HQ48 := am hq48; clear hq48 hAq48 hcq48 hi048 hsz48 eC))
         go_meet
         case rel => exact ⟨_, z42, (wrap64 ((z42.length : Int) - 1)), be_, H', ⟨B97x49_⟩, ⟨HQ48.out⟩, ⟨tb B.out⟩, ⟨tb U.out⟩, ⟨te2 HB.out ar.out au.out⟩⟩
        ·rw [if_neg cr] at H; have df := decide_eq_false cr; clear cr
         (first | rw [df] | (simp only [i64_w, i32_w]; rw [df]) | skip)
         have H' := am H
         clear H
         go_wp2
         go_meet
         case rel => exact ⟨_, aH, cJ, be_, H', ⟨B97x49_⟩, ⟨SQ_of (ts M.out)⟩, ⟨tb B.out⟩, ⟨tb U.out⟩, ⟨te2 HB.out ar.out au.out⟩⟩
       case rest =>
        clear ex
        try clear cp
        try clear cq
        obtain ⟨kq, J, l, rfl, HA, gY, M, B, U, HB⟩ := hcut
        cases kq with
        | zero => exact absurd HA.out (by simp [impl_JoinBits.j2])
        | succ a0 =>
         have H := HA.out; clear HA; simp only [impl_JoinBits.j2] at H
         by_cases dW : 0 ≤ l
         rotate_left
         ·rw [if_neg dW] at H; exact absurd H (by simp)
         rw [if_pos dW] at H; have jr := decide_eq_true dW; clear dW
         by_cases dX : l < (J.length : Int)
         rotate_left
         ·rw [if_neg dX] at H; exact absurd H (by simp)
         rw [if_pos dX] at H; have js := decide_eq_true dX; clear dX; replace H := bsi H; obtain ⟨ft, dL, H⟩ := H; (try dsimp only at H)
         by_cases dY : ft = true
         ·subst dY; rw [if_pos rfl] at H; replace H := bsi H; obtain ⟨⟨bS, iu⟩, eo, H⟩ := H; (try dsimp only at H)
          by_cases dZ : iu = true
          ·subst dZ; rw [if_pos rfl] at H; have jt := eq_true (dga : 0 ≤ l)
           by_cases dh : l ≤ (J.length : Int)
           rotate_left
           ·rw [if_neg dh] at H; exact absurd H (by simp)
           rw [if_pos dh] at H; have ju := eq_true dh; have jv := decide_eq_true dh; clear dh; obtain ⟨ee, e6⟩ : ∃ y_ : List (S52), y_ = (J.take (l : Int).toNat) := ⟨_, rfl⟩
           replace H : (if 0 ≤ (wrap64 (l + 1)) then (if (wrap64 (l + 1)) ≤ (J.length : Int) then (some ((J.eraseIdx (l : Int).toNat), ad, ag, ae, 0, false, bS, true)) else (none)) else (none)) = some (r1, r2, r3, r4, r5, r6, r7, r8) := hr e6 H
           have fN := am e6; clear e6; obtain ⟨aG, b5⟩ : ∃ j_ : Int, (wrap64 (l + 1)) = j_ := ⟨_, rfl⟩
           replace H : (if 0 ≤ (aG) then (if (aG) ≤ (J.length : Int) then (some ((J.eraseIdx (l : Int).toNat), ad, ag, ae, 0, false, bS, true)) else (none)) else (none)) = some (r1, r2, r3, r4, r5, r6, r7, r8) := by first | (rw [b5] at H; exact H) | (simp only [b5] at H ⊢; exact H)
           (try rw [b5] at dL); (try rw [b5] at eo)
           have kf : (IntKind.i64.wrap (l + 1)) = aG := (i64_w _).trans b5
           by_cases di : 0 ≤ (aG)
           rotate_left
           ·rw [if_neg di] at H; exact absurd H (by simp)
           rw [if_pos di] at H; have jw := eq_true di; have jx := decide_eq_true di; clear di
           by_cases dj : (aG) ≤ (J.length : Int)
           rotate_left
           ·rw [if_neg dj] at H; exact absurd H (by simp)
           rw [if_pos dj] at H; have jy := eq_true dj; have jz := decide_eq_true dj; clear dj; obtain ⟨dF, e7⟩ : ∃ y_ : List (S52), y_ = (J.drop ((aG) : Int).toNat) := ⟨_, rfl⟩
           replace H : (some ((J.eraseIdx (l : Int).toNat), ad, ag, ae, 0, false, bS, true)) = some (r1, r2, r3, r4, r5, r6, r7, r8) := hr e7 H
           have fO := am e7; clear e7; obtain ⟨ef, e8⟩ : ∃ y_ : List (S52), y_ = (J.eraseIdx (l : Int).toNat) := ⟨_, rfl⟩
           replace H : (some (ef, ad, ag, ae, 0, false, bS, true)) = some (r1, r2, r3, r4, r5, r6, r7, r8) := hr e8 H
           have hs := am e8; clear e8; simp only [Option.some.injEq, Prod.mk.injEq] at H; obtain ⟨rfl, rfl, rfl, rfl, rfl, rfl, rfl, rfl⟩ := H
           have bh : 0 ≤ (l : Int) := dga
           have bi : (l : Int) < ((J.length : Int) : Int) := dga
           obtain ⟨Y, of51, ap, bI, bJ, dp, cl51, bG⟩ := KQ.S_form M.out (by omega)
           (first | cases bI | (injection bI with ea_ en_ ec_; (first | subst ea_ | (injection ea_ with ea_; subst ea_)); subst ec_; clear en_))
           have bW := am bJ; have fB := am bG; clear bJ dp bG; obtain ⟨_, fW, dr, bM, az, aA, _, _⟩ := KQ.S_elem M.out z52 (l : Int) bh bi; obtain ⟨ve51_2, ve51_3, rfl, ge51_2, ge51_3⟩ := k52_openM bM
           have gq : wc.cell? ⟨Y, of51 + (l : Int).toNat * 6, none⟩ = some (.int .i64 ((rd_T52 J l).f0)) := az 0 _ rfl
           have gr : wc.cell? ⟨Y, of51 + (l : Int).toNat * 6 + 1, none⟩ = some (.int .i64 ((rd_T52 J l).f1)) := az 1 _ rfl
           have gs : wc.cell? ⟨Y, of51 + (l : Int).toNat * 6 + 2, none⟩ = some (ve51_2) := az 2 _ rfl
           have gu : wc.cell? ⟨Y, of51 + (l : Int).toNat * 6 + 3, none⟩ = some (ve51_3) := az 3 _ rfl
           have gv : wc.cell? ⟨Y, of51 + (l : Int).toNat * 6 + 4, none⟩ = some (.int .i64 ((rd_T52 J l).f4)) := az 4 _ rfl
           have gw : wc.cell? ⟨Y, of51 + (l : Int).toNat * 6 + 5, none⟩ = some (.int .i64 ((rd_T52 J l).f5)) := az 5 _ rfl
           have f9 : wc.frozen? ⟨Y, of51 + (l : Int).toNat * 6, none⟩ = false := aA 0
           have ga : wc.frozen? ⟨Y, of51 + (l : Int).toNat * 6 + 1, none⟩ = false := aA 1
           have gb : wc.frozen? ⟨Y, of51 + (l : Int).toNat * 6 + 2, none⟩ = false := aA 2
           have gg : wc.frozen? ⟨Y, of51 + (l : Int).toNat * 6 + 3, none⟩ = false := aA 3
           have gh : wc.frozen? ⟨Y, of51 + (l : Int).toNat * 6 + 4, none⟩ = false := aA 4
           have gi : wc.frozen? ⟨Y, of51 + (l : Int).toNat * 6 + 5, none⟩ = false := aA 5
           clear dr az aA bM; replace bh := eq_true bh; replace bi := eq_true bi
           try go_wp2
           replace M := am (KQ.S_drew M.out); replace B := dA B; replace U := dA U; replace HB := bdr HB
           have a1 : 0 ≤ (l : Int) := dga
           have a4 : l < (J.length : Int) := dga
           obtain ⟨cV, bq, bH, a7, a9, dn, aN, aQ, ax, ay, aR, aT, hl285_2, hi285_2, hl285_3, hi285_3⟩ := at_T52 (KQ.S_reads' M.out).2.2 l a1 a4; obtain rfl : (⟨Y, of51, none⟩ : Addr) = cV := (by injection dn); obtain ⟨fV, hce285, hMe285, ba⟩ := KQ.S_get M.out z52 l a1 B96x37_; obtain ⟨ve285_2, ve285_3, rfl, ge285_2, ge285_3⟩ := k52_openM hMe285; have hv285_2 := ba 2 _ rfl; rw [add_field _ _ 2 (by omega)] at hv285_2; replace hv285_2 := Option.some.inj (hv285_2.symm.trans ax); rw [hv285_2] at ge285_2; have aI := am (show Kd.R Kd.string 9 _ _ _ _ ((rd_T52 J l).f2) from ge285_2); clear hv285_2 ge285_2; have bZ := am ax; have hv285_3 := ba 3 _ rfl; rw [add_field _ _ 3 (by omega)] at hv285_3; replace hv285_3 := Option.some.inj (hv285_3.symm.trans ay); rw [hv285_3] at ge285_3; have aJ := am (show Kd.R (Kd.int .i64) 3 _ _ _ _ ((rd_T52 J l).f3) from ge285_3); clear hv285_3 ge285_3; have b0 := am ay; clear ba hce285
           (first | simp only [add_plain] at aN | simp only [add_at] at aN | simp only [Addr.add, Nat.zero_add] at aN | skip)
           (first | simp only [add_plain] at aQ | simp only [add_at] at aQ | simp only [Addr.add, Nat.zero_add] at aQ | skip)
           (first | simp only [add_plain] at ax | simp only [add_at] at ax | simp only [Addr.add, Nat.zero_add] at ax | skip)
           (first | simp only [add_plain] at ay | simp only [add_at] at ay | simp only [Addr.add, Nat.zero_add] at ay | skip)
           (first | simp only [add_plain] at aR | simp only [add_at] at aR | simp only [Addr.add, Nat.zero_add] at aR | skip)
           (first | simp only [add_plain] at aT | simp only [add_at] at aT | simp only [Addr.add, Nat.zero_add] at aT | skip)
           have aU := am hi285_2; have fC := am hl285_2; clear hi285_2 hl285_2; have aK := am hi285_3; have cO := am hl285_3; clear hi285_3 hl285_3; replace a1 := eq_true a1; replace a4 := eq_true a4; refine st_ 8 (fun w' => w'.cell? ⟨ai, 0, none⟩ = some (.int .i64 ad) ∧ w'.cell? ⟨ai, 1, none⟩ = some (.int .i64 ag) ∧ w'.cell? ⟨ai, 2, none⟩ = some (.int .i64 ae) ∧ w'.cell? ⟨ai, 3, none⟩ = some (.int .i64 ah) ∧ w'.cell? ⟨ai, 4, none⟩ = some (.bool ao) ∧ w'.cell? ⟨ai, 5, none⟩ = some (.string al) ∧ w'.cell? ⟨Y, of51 + (l).toNat * 6, none⟩ = some (.int .i64 ((rd_T52 J l).f0)) ∧ w'.cell? ⟨Y, of51 + (l).toNat * 6 + 1, none⟩ = some (.int .i64 ((rd_T52 J l).f1)) ∧ w'.cell? ⟨Y, of51 + (l).toNat * 6 + 2, none⟩ = some (.slice bq ((rd_T52 J l).f2).length bH) ∧ w'.cell? ⟨Y, of51 + (l).toNat * 6 + 3, none⟩ = some (.slice a7 ((rd_T52 J l).f3).length a9) ∧ w'.cell? ⟨Y, of51 + (l).toNat * 6 + 4, none⟩ = some (.int .i64 ((rd_T52 J l).f4)) ∧ w'.cell? ⟨Y, of51 + (l).toNat * 6 + 5, none⟩ = some (.int .i64 ((rd_T52 J l).f5))) [] impl_JoinBits.tab12 impl_JoinBits.bits12 ⟨bc B 0, bc B 1, bc B 2, bc B 3, bc B 4, bc B 5, aN, aQ, ax, ay, aR, aT⟩ (fun aa ac aw => ?_); generalize wc.drew = ma at M B U HB aI aJ aU aK bZ b0 aN aQ ax ay aR aT aa ⊢; refine pu_ 0 63 ac ?_; refine pu_ 1 64 ac ?_; refine pu_ 2 65 ac ?_; refine pu_ 4 67 ac ?_; refine ta_ 3 66 ac aw aa ?_; refine ta_ 5 68 ac aw aa ?_; refine on_ 6 (some 69) ac (fun K hK => ?_); refine gS Try.func52 #[.slice a7 ((rd_T52 J l).f3).length a9, .int .i64 ah] ?_
           with_reducible refine (slices_Contains_int_int.calls a0 _ _ ((rd_T52 J l).f3) ah true _ ?z1 ?z2 dL.out).mono ?_
           (case z1 => exact (tc (td aK.out)))
           (case z2 => exact cO.out)
           rintro e w' ⟨rfl, ⟨nd, rfl⟩⟩; refine ⟨_, rfl, ?_⟩; refine hK.out _ _ ⟨bc B 0, bc B 1, bc B 2, bc B 3, bc B 4, bc B 5, aa.2.2.2.2.2.2.1, aa.2.2.2.2.2.2.2.1, aa.2.2.2.2.2.2.2.2.1, aa.2.2.2.2.2.2.2.2.2.1, aa.2.2.2.2.2.2.2.2.2.2.1, aa.2.2.2.2.2.2.2.2.2.2.2⟩ (fun aa => ?_); clear hK K; refine norm_ (a' := ?_) ?_ ?_; rotate_left
           ·show Act.put _ (some 69) _ = _; simp only [Act.put, List.setIfInBounds_toArray, List.set_cons_zero, List.set_cons_succ, i64_w, i32_w]; rfl
           refine pu_ 7 70 ac ?_; refine done_ (done_of ac.out gk_) ?_
           have bz : 0 ≤ (l : Int) := dga
           have bD : l < (J.length : Int) := dga
           obtain ⟨eF, gO, hG, gP, hH, eM, b6, b7, bd, be, b8, b9, hl287_2, hi287_2, hl287_3, hi287_3⟩ := at_T52 (KQ.S_reads' M.out).2.2 l bz bD; obtain rfl : (⟨Y, of51, none⟩ : Addr) = eF := (by injection eM); obtain ⟨hN, hce287, hMe287, b2⟩ := KQ.S_get M.out z52 l bz B96x45_; obtain ⟨ve287_2, ve287_3, rfl, ge287_2, ge287_3⟩ := k52_openM hMe287; have hv287_2 := b2 2 _ rfl; rw [add_field _ _ 2 (by omega)] at hv287_2; replace hv287_2 := Option.some.inj (hv287_2.symm.trans bd); rw [hv287_2] at ge287_2; have cP := am (show Kd.R Kd.string 9 _ _ _ _ ((rd_T52 J l).f2) from ge287_2); clear hv287_2 ge287_2; have hv287_3 := b2 3 _ rfl; rw [add_field _ _ 3 (by omega)] at hv287_3; replace hv287_3 := Option.some.inj (hv287_3.symm.trans be); rw [hv287_3] at ge287_3; have cQ := am (show Kd.R (Kd.int .i64) 3 _ _ _ _ ((rd_T52 J l).f3) from ge287_3); clear hv287_3 ge287_3; clear b2 hce287
           (first | simp only [add_plain] at b6 | simp only [add_at] at b6 | simp only [Addr.add, Nat.zero_add] at b6 | skip)
           (first | simp only [add_plain] at b7 | simp only [add_at] at b7 | simp only [Addr.add, Nat.zero_add] at b7 | skip)
           (first | simp only [add_plain] at bd | simp only [add_at] at bd | simp only [Addr.add, Nat.zero_add] at bd | skip)
           (first | simp only [add_plain] at be | simp only [add_at] at be | simp only [Addr.add, Nat.zero_add] at be | skip)
           (first | simp only [add_plain] at b8 | simp only [add_at] at b8 | simp only [Addr.add, Nat.zero_add] at b8 | skip)
           (first | simp only [add_plain] at b9 | simp only [add_at] at b9 | simp only [Addr.add, Nat.zero_add] at b9 | skip)
           have bj := am hi287_2; have eq := am hl287_2; clear hi287_2 hl287_2; have bk := am hi287_3; have er := am hl287_3; clear hi287_3 hl287_3; replace bz := eq_true bz; replace bD := eq_true bD; have ea_ := Option.some.inj (ax.symm.trans bd)
           injection ea_ with ea_ en_ ec_
           subst ea_; subst ec_; clear en_; have ea_ := Option.some.inj (ay.symm.trans be)
           injection ea_ with ea_ en_ ec_
           subst ea_; subst ec_; clear en_
           try go_wp2_with (first | ((with_reducible refine gate_callee (f := 53) rfl ?_); refine gL (some 116) Try.func53 #[.agg #[.int .i64 ((rd_T52 J l).f0), .int .i64 ((rd_T52 J l).f1), .slice bq ((rd_T52 J l).f2).length bH, .slice a7 ((rd_T52 J l).f3).length a9, .int .i64 ((rd_T52 J l).f4), .int .i64 ((rd_T52 J l).f5)]] ?_; (with_reducible refine (impl_whole.calls a0 ((rd_T52 J l).f0) ((rd_T52 J l).f1) _ _ ((rd_T52 J l).f2) _ _ ((rd_T52 J l).f3) ((rd_T52 J l).f4) ((rd_T52 J l).f5) bS true _ ?z1 ?z2 ?z3 ?z4 eo.out).mono ?_); (case z1 => exact (tc (td bj.out))); (case z2 => exact eq.out); (case z3 => exact (tc (td bk.out))); (case z4 => exact er.out); rintro e iF ⟨rfl, hb⟩; refine ⟨_, rfl, ?_⟩; replace M := am (KQ.S_below (tsq M.out) hb); replace aI := rA aI hb; replace aJ := rA aJ hb; replace cP := rA cP hb; replace cQ := rA cQ hb; replace B := bA B hb; replace U := bA U hb; replace aU := am (cb aU.out hb); replace bZ := am (pw_cell_below hb bZ.out); replace aK := am (cb aK.out hb); replace b0 := am (pw_cell_below hb b0.out); replace bj := am (cb bj.out hb); replace bk := am (cb bk.out hb); replace HB := am (below_step (te2 HB.out ar.out au.out) hb)))
           replace M := am (KQ.S_drew M.out); replace aI := eA aI; replace aJ := eA aJ; replace cP := eA cP; replace cQ := eA cQ; replace B := dA B; replace U := dA U; replace aU := am (Kd.C_drew aU.out); replace aK := am (Kd.C_drew aK.out); replace bj := am (Kd.C_drew bj.out); replace bk := am (Kd.C_drew bk.out); replace HB := bdr HB
           have fr : (l : Int) ≤ ((J.length : Int) : Int) := dga
           obtain ⟨i064, hi064, _, hsz64, _⟩ := info_parts info52
           have hroom64 : J.length ≤ ap := (KQ.S_reads' M.out).2.1
           have hC64 : Kd.C k52 _ (some ⟨Y, of51, none⟩) J.length J := (KQ.S_reads' M.out).2.2
           have hcut64 := cut_to (P := Try.prog) 24 52 .i64 Try.underlying24 hi064 (some ⟨Y, of51, none⟩) J.length ap l (dga) fr hroom64; have eX := Kd.C_take (m := (l : Int).toNat) hC64 (by omega)
           have fk : ee.length = (l : Int).toNat := (by rw [fN.out, List.length_take]; omega)
           rw [← fN.out] at eX; rw [← fk] at hcut64; have g0 := am eX; have iR := am (show ee.length ≤ ap from (by omega)); clear eX hC64 hroom64 hi064 hsz64; have KY64 := am fk; clear fk; have KL64 := am (show (l : Int).toNat ≤ J.length from (by omega)); replace fr := eq_true fr
           have fs : ((aG) : Int) ≤ ((J.length : Int) : Int) := dga
           obtain ⟨i065, hi065, _, hsz65, _⟩ := info_parts info52
           have hroom65 : J.length ≤ ap := (KQ.S_reads' M.out).2.1
           have hC65 : Kd.C k52 _ (some ⟨Y, of51, none⟩) J.length J := (KQ.S_reads' M.out).2.2
           have ir : (0 : Int) ≤ ((aG) : Int) := dga
           have hcut65 := cut_from (P := Try.prog) 24 52 .i64 Try.underlying24 hi065 6 hsz65 (some ⟨Y, of51, none⟩) J.length ap (aG) ir fs; have dw := Kd.C_drop (m := ((aG) : Int).toNat) (c := ap) hC65 (by omega) hroom65; obtain ⟨gV, hA65⟩ : ∃ A1, A1 = (if ap = ((aG) : Int).toNat then (some ⟨Y, of51, none⟩) else ((some ⟨Y, of51, none⟩) : Option Addr).map (·.add (((aG) : Int).toNat * 6))) := ⟨_, rfl⟩; obtain ⟨hL, eR⟩ : ∃ c1, c1 = ap - ((aG) : Int).toNat := ⟨_, rfl⟩
           have d4 : dF.length = J.length - ((aG) : Int).toNat := (by rw [fO.out, List.length_drop] <;> omega)
           rw [show (J).drop ((aG) : Int).toNat = dF from fO.out.symm] at dw
           replace dw : Kd.C k52 _ gV dF.length dF := (by rw [hA65]; exact dw)
           rw [← d4, ← hA65, ← eR] at hcut65; have g1 := am dw; have iS := am (show dF.length ≤ hL from (by rw [d4, eR]; exact Nat.sub_le_sub_right hroom65 _)); clear dw hC65 hroom65 hi065 hsz65 eR; have KY65 := am d4; have KA65 := am hA65; clear d4 hA65; have KL65 := am (show ((aG) : Int).toNat ≤ J.length from (by omega)); replace fs := eq_true fs; refine st_ 19 (fun w' => w'.cell? ⟨ai, 0, none⟩ = some (.int .i64 ad) ∧ w'.cell? ⟨ai, 1, none⟩ = some (.int .i64 ag) ∧ w'.cell? ⟨ai, 2, none⟩ = some (.int .i64 ae) ∧ w'.cell? ⟨ai, 3, none⟩ = some (.int .i64 ah) ∧ w'.cell? ⟨ai, 4, none⟩ = some (.bool ao) ∧ w'.cell? ⟨ai, 5, none⟩ = some (.string al)) [] impl_JoinBits.tab20 impl_JoinBits.bits20 D8x0_ (fun aa ac aw => ?_); generalize iF.drew = mb at M aI aJ cP cQ B U aU aK bj bk HB g0 g1 aa ⊢; refine pu_ 0 123 ac ?_; refine pu_ 1 124 ac ?_; refine pu_ 2 125 ac ?_; refine pu_ 3 126 ac ?_; refine pu_ 4 127 ac ?_; refine pu_ 5 128 ac ?_; refine pu_ 6 129 ac ?_; refine pu_ 8 131 ac ?_; refine pu_ 10 133 ac ?_; refine pu_ 12 135 ac ?_; refine pu_ 14 137 ac ?_; refine ta_ 9 132 ac aw aa ?_; refine ta_ 11 134 ac aw aa ?_; refine ta_ 13 136 ac aw aa ?_; refine pu_ 15 138 ac ?_; refine on_ 7 (some 130) ac (fun K hK => ?_)
           have hj_ : 0 ≤ (l : Int) := dga
           have hl_ : (aG : Int) ≤ (J.length : Int) := dga
           have hh_ : (l : Int) ≤ (J.length : Int) := dga
           have hb_ := (KQ.S_reads' M.out).2.2.2.1
           have bL : (0 : Int) ≤ (aG : Int) := dga
           have bR := KY64.out
           have hk_ : (aG : Int).toNat = ee.length + 1 := (by (try (have hsy305_ := congrArg List.length cn.out; rw [List.length_set] at hsy305_)); (try (have hsy310_ := congrArg List.length co.out; rw [List.length_set] at hsy310_)); (try (have hsy312_ := congrArg List.length b1.out; rw [List.length_set] at hsy312_)); have hw_ : (aG : Int) = l + 1 := (by have bK := bL; rw [← b5] at bK ⊢; unfold wrap64 at bK ⊢; omega); rw [hw_]; omega)
           refine KQ.S_delete_step k52 (w0 := w) w.heap.size (by rfl) (.tmp 125) (.tmp 129) 24 52 rfl Try.underlying24 gk_ (g := Y) (n := J.length) (c := ap) (k := ee.length) rfl rfl ?hA ?hm (tsq M.out) ?hk (te2 HB.out ar.out au.out) (below_size (te2 HB.out ar.out au.out)) ?_
           (case hA => have ha_ := KA65.out; rw [hk_] at ha_; exact ha_)
           (case hm => have ha_ := KY65.out; omega)
           (case hk => omega)
           intro cN ho hb hg; clear hj_ hl_ hh_ hb_ hk_ bL; rw [bR, ← hs.out] at ho; clear bR
           have hn_ : J.length - 1 = ef.length := B96x50_
           rw [hn_] at ho ⊢; clear hn_; replace B := bg B hg (KQ.S_ne M.out B.out (by decide)); replace U := bg U hg (KQ.S_ne M.out U.out (by decide)); replace M := am ho; replace aI := am (Kd.R_after (v := (.slice (some ⟨Y, of51, none⟩) J.length ap)) (v1 := .slice (some ⟨Y, of51, none⟩) ef.length ap) (ok := (fun _ => True)) (tr aI.out) hg (.inl rfl)); replace aJ := am (Kd.R_after (v := (.slice (some ⟨Y, of51, none⟩) J.length ap)) (v1 := .slice (some ⟨Y, of51, none⟩) ef.length ap) (ok := (fun _ => True)) (tr aJ.out) hg (.inl rfl)); replace HB := am hb; clear ho hb hg; refine hK.out _ _ D8x0_ (fun aa => ?_); clear hK K; refine norm_ (a' := ?_) ?_ ?_; rotate_left
           ·show Act.put _ (some 130) _ = _; simp only [Act.put, List.setIfInBounds_toArray, List.set_cons_zero, List.set_cons_succ, i64_w, i32_w]; rfl
           refine pu_ 16 6 ac ?_; refine on_ 17 none ac (fun K hK => ?_)
           have lP : cN.cell? ⟨z, 0, none⟩ = some (.int .i64 0) := bc U 0
           have jY := blk_frozen U.out 0; have lp := D.out; have kz := av.out
           have lQ : cN.cell? ⟨z, 1, none⟩ = some (.int .i64 0) := bc U 1
           have jZ := blk_frozen U.out 1; have lq := D.out; have kB := av.out
           have lR : cN.cell? ⟨z, 2, none⟩ = some (.int .i64 0) := bc U 2
           have j4 := blk_frozen U.out 2; have lr := D.out; have kC := av.out
           have lT : cN.cell? ⟨z, 3, none⟩ = some (.int .i64 0) := bc U 3
           have j6 := blk_frozen U.out 3; have ls := D.out; have kD := av.out
           have lU : cN.cell? ⟨z, 4, none⟩ = some (.bool false) := bc U 4
           have j9 := blk_frozen U.out 4; have lu := D.out; have kE := av.out
           have lV : cN.cell? ⟨z, 5, none⟩ = some (.string (⟨#[]⟩ : ByteArray)) := bc U 5
           have ka := blk_frozen U.out 5; have lv := D.out; have kF := av.out; refine skip_ (w1 := ?_) (by rfl) rfl ?_ ?_; rotate_left
           ·go_simp; rfl
           refine hK.out _ _ ⟨((cell_far (p := ⟨z, _, none⟩) D.out _).trans (((cell_far (p := ⟨z, _, none⟩) D.out _).trans (((cell_far (p := ⟨z, _, none⟩) D.out _).trans (((cell_far (p := ⟨z, _, none⟩) D.out _).trans (((cell_far (p := ⟨z, _, none⟩) D.out _).trans (((cell_far (p := ⟨z, _, none⟩) D.out _).trans (aa.1)))))))))))), ((cell_far (p := ⟨z, _, none⟩) D.out _).trans (((cell_far (p := ⟨z, _, none⟩) D.out _).trans (((cell_far (p := ⟨z, _, none⟩) D.out _).trans (((cell_far (p := ⟨z, _, none⟩) D.out _).trans (((cell_far (p := ⟨z, _, none⟩) D.out _).trans (((cell_far (p := ⟨z, _, none⟩) D.out _).trans (aa.2.1)))))))))))), ((cell_far (p := ⟨z, _, none⟩) D.out _).trans (((cell_far (p := ⟨z, _, none⟩) D.out _).trans (((cell_far (p := ⟨z, _, none⟩) D.out _).trans (((cell_far (p := ⟨z, _, none⟩) D.out _).trans (((cell_far (p := ⟨z, _, none⟩) D.out _).trans (((cell_far (p := ⟨z, _, none⟩) D.out _).trans (aa.2.2.1)))))))))))), ((cell_far (p := ⟨z, _, none⟩) D.out _).trans (((cell_far (p := ⟨z, _, none⟩) D.out _).trans (((cell_far (p := ⟨z, _, none⟩) D.out _).trans (((cell_far (p := ⟨z, _, none⟩) D.out _).trans (((cell_far (p := ⟨z, _, none⟩) D.out _).trans (((cell_far (p := ⟨z, _, none⟩) D.out _).trans (aa.2.2.2.1)))))))))))), ((cell_far (p := ⟨z, _, none⟩) D.out _).trans (((cell_far (p := ⟨z, _, none⟩) D.out _).trans (((cell_far (p := ⟨z, _, none⟩) D.out _).trans (((cell_far (p := ⟨z, _, none⟩) D.out _).trans (((cell_far (p := ⟨z, _, none⟩) D.out _).trans (((cell_far (p := ⟨z, _, none⟩) D.out _).trans (aa.2.2.2.2.1)))))))))))), ((cell_far (p := ⟨z, _, none⟩) D.out _).trans (((cell_far (p := ⟨z, _, none⟩) D.out _).trans (((cell_far (p := ⟨z, _, none⟩) D.out _).trans (((cell_far (p := ⟨z, _, none⟩) D.out _).trans (((cell_far (p := ⟨z, _, none⟩) D.out _).trans (((cell_far (p := ⟨z, _, none⟩) D.out _).trans (aa.2.2.2.2.2))))))))))))⟩ (fun aa => ?_); clear hK K; refine pu_ 18 8 ac ?_; refine done_ (done_of ac.out gk_) ?_
           try go_wp2
           refine bodyPost_ret (results_list (rs := [.tmp 6, .cell 7 44, .tmp 8]) rfl (by simp) (.tmp (.cell z 44 #[.int .i64 ad, .int .i64 ag, .int .i64 ae, .int .i64 0, .bool false, .string bS] (0, 0) _ rfl (tp0 U.out) Try.underlying44 rfl gk_ (.tmp .nil)))) rfl ?_
           exact ⟨_, (by first | rfl | (simp [errW_none, errW_some] <;> rfl) | (simp only [← b5]; first | rfl | (simp [errW_none, errW_some] <;> rfl)) | (simp [*, errW_none, errW_some] <;> rfl)), (by (with_reducible repeat (first | apply KQ.S_alloc | apply KQ.S_drewN | apply KQ.S_drew)); exact KQ.S_mono (KQ.S_far (p := ⟨z, 5, none⟩) (KQ.S_far (p := ⟨z, 4, none⟩) (KQ.S_far (p := ⟨z, 3, none⟩) (KQ.S_far (p := ⟨z, 2, none⟩) (KQ.S_far (p := ⟨z, 1, none⟩) (KQ.S_far (p := ⟨z, 0, none⟩) (KQ.S_types M.out U.out (by decide)) (fun _ hk => hk.2) (.int .i64 ad)) (fun _ hk => hk.2) (.int .i64 ag)) (fun _ hk => hk.2) (.int .i64 ae)) (fun _ hk => hk.2) (.int .i64 0)) (fun _ hk => hk.2) (.bool false)) (fun _ hk => hk.2) (.string bS)) (fun _ hk => trivial)), (te2 HB.out ar.out au.out)⟩
          ·replace dZ := Bool.eq_false_iff.mpr dZ; subst dZ; rw [if_neg (show ¬ (false = true) by decide)] at H; simp only [Option.some.injEq, Prod.mk.injEq] at H; obtain ⟨rfl, rfl, rfl, rfl, rfl, rfl, rfl, rfl⟩ := H
           have bh : 0 ≤ (l : Int) := dga
           have bi : (l : Int) < ((J.length : Int) : Int) := dga
           obtain ⟨Y, of51, ap, bI, bJ, dp, cl51, bG⟩ := KQ.S_form M.out (by omega)
           (first | cases bI | (injection bI with ea_ en_ ec_; (first | subst ea_ | (injection ea_ with ea_; subst ea_)); subst ec_; clear en_))
           have bW := am bJ; have fB := am bG; clear bJ dp bG; obtain ⟨_, fW, dr, bM, az, aA, _, _⟩ := KQ.S_elem M.out z52 (l : Int) bh bi; obtain ⟨ve51_2, ve51_3, rfl, ge51_2, ge51_3⟩ := k52_openM bM
           have gq : wc.cell? ⟨Y, of51 + (l : Int).toNat * 6, none⟩ = some (.int .i64 ((rd_T52 J l).f0)) := az 0 _ rfl
           have gr : wc.cell? ⟨Y, of51 + (l : Int).toNat * 6 + 1, none⟩ = some (.int .i64 ((rd_T52 J l).f1)) := az 1 _ rfl
           have gs : wc.cell? ⟨Y, of51 + (l : Int).toNat * 6 + 2, none⟩ = some (ve51_2) := az 2 _ rfl
           have gu : wc.cell? ⟨Y, of51 + (l : Int).toNat * 6 + 3, none⟩ = some (ve51_3) := az 3 _ rfl
           have gv : wc.cell? ⟨Y, of51 + (l : Int).toNat * 6 + 4, none⟩ = some (.int .i64 ((rd_T52 J l).f4)) := az 4 _ rfl
           have gw : wc.cell? ⟨Y, of51 + (l : Int).toNat * 6 + 5, none⟩ = some (.int .i64 ((rd_T52 J l).f5)) := az 5 _ rfl
           have f9 : wc.frozen? ⟨Y, of51 + (l : Int).toNat * 6, none⟩ = false := aA 0
           have ga : wc.frozen? ⟨Y, of51 + (l : Int).toNat * 6 + 1, none⟩ = false := aA 1
           have gb : wc.frozen? ⟨Y, of51 + (l : Int).toNat * 6 + 2, none⟩ = false := aA 2
           have gg : wc.frozen? ⟨Y, of51 + (l : Int).toNat * 6 + 3, none⟩ = false := aA 3
           have gh : wc.frozen? ⟨Y, of51 + (l : Int).toNat * 6 + 4, none⟩ = false := aA 4
           have gi : wc.frozen? ⟨Y, of51 + (l : Int).toNat * 6 + 5, none⟩ = false := aA 5
           clear dr az aA bM; replace bh := eq_true bh; replace bi := eq_true bi
           try go_wp2
           replace M := am (KQ.S_drew M.out); replace B := dA B; replace U := dA U; replace HB := bdr HB
           have a1 : 0 ≤ (l : Int) := dga
           have a4 : l < (J.length : Int) := dga
           obtain ⟨cV, bq, bH, a7, a9, dn, aN, aQ, ax, ay, aR, aT, hl285_2, hi285_2, hl285_3, hi285_3⟩ := at_T52 (KQ.S_reads' M.out).2.2 l a1 a4; obtain rfl : (⟨Y, of51, none⟩ : Addr) = cV := (by injection dn); obtain ⟨fV, hce285, hMe285, ba⟩ := KQ.S_get M.out z52 l a1 B96x37_; obtain ⟨ve285_2, ve285_3, rfl, ge285_2, ge285_3⟩ := k52_openM hMe285; have hv285_2 := ba 2 _ rfl; rw [add_field _ _ 2 (by omega)] at hv285_2; replace hv285_2 := Option.some.inj (hv285_2.symm.trans ax); rw [hv285_2] at ge285_2; have aI := am (show Kd.R Kd.string 9 _ _ _ _ ((rd_T52 J l).f2) from ge285_2); clear hv285_2 ge285_2; have bZ := am ax; have hv285_3 := ba 3 _ rfl; rw [add_field _ _ 3 (by omega)] at hv285_3; replace hv285_3 := Option.some.inj (hv285_3.symm.trans ay); rw [hv285_3] at ge285_3; have aJ := am (show Kd.R (Kd.int .i64) 3 _ _ _ _ ((rd_T52 J l).f3) from ge285_3); clear hv285_3 ge285_3; have b0 := am ay; clear ba hce285
           (first | simp only [add_plain] at aN | simp only [add_at] at aN | simp only [Addr.add, Nat.zero_add] at aN | skip)
           (first | simp only [add_plain] at aQ | simp only [add_at] at aQ | simp only [Addr.add, Nat.zero_add] at aQ | skip)
           (first | simp only [add_plain] at ax | simp only [add_at] at ax | simp only [Addr.add, Nat.zero_add] at ax | skip)
           (first | simp only [add_plain] at ay | simp only [add_at] at ay | simp only [Addr.add, Nat.zero_add] at ay | skip)
           (first | simp only [add_plain] at aR | simp only [add_at] at aR | simp only [Addr.add, Nat.zero_add] at aR | skip)
           (first | simp only [add_plain] at aT | simp only [add_at] at aT | simp only [Addr.add, Nat.zero_add] at aT | skip)
           have aU := am hi285_2; have fC := am hl285_2; clear hi285_2 hl285_2; have aK := am hi285_3; have cO := am hl285_3; clear hi285_3 hl285_3; replace a1 := eq_true a1; replace a4 := eq_true a4; refine st_ 8 (fun w' => w'.cell? ⟨ai, 0, none⟩ = some (.int .i64 ad) ∧ w'.cell? ⟨ai, 1, none⟩ = some (.int .i64 ag) ∧ w'.cell? ⟨ai, 2, none⟩ = some (.int .i64 ae) ∧ w'.cell? ⟨ai, 3, none⟩ = some (.int .i64 ah) ∧ w'.cell? ⟨ai, 4, none⟩ = some (.bool ao) ∧ w'.cell? ⟨ai, 5, none⟩ = some (.string al) ∧ w'.cell? ⟨Y, of51 + (l).toNat * 6, none⟩ = some (.int .i64 ((rd_T52 J l).f0)) ∧ w'.cell? ⟨Y, of51 + (l).toNat * 6 + 1, none⟩ = some (.int .i64 ((rd_T52 J l).f1)) ∧ w'.cell? ⟨Y, of51 + (l).toNat * 6 + 2, none⟩ = some (.slice bq ((rd_T52 J l).f2).length bH) ∧ w'.cell? ⟨Y, of51 + (l).toNat * 6 + 3, none⟩ = some (.slice a7 ((rd_T52 J l).f3).length a9) ∧ w'.cell? ⟨Y, of51 + (l).toNat * 6 + 4, none⟩ = some (.int .i64 ((rd_T52 J l).f4)) ∧ w'.cell? ⟨Y, of51 + (l).toNat * 6 + 5, none⟩ = some (.int .i64 ((rd_T52 J l).f5))) [] impl_JoinBits.tab12 impl_JoinBits.bits12 ⟨bc B 0, bc B 1, bc B 2, bc B 3, bc B 4, bc B 5, aN, aQ, ax, ay, aR, aT⟩ (fun aa ac aw => ?_); generalize wc.drew = mc at M B U HB aI aJ aU aK bZ b0 aN aQ ax ay aR aT aa ⊢; refine pu_ 0 63 ac ?_; refine pu_ 1 64 ac ?_; refine pu_ 2 65 ac ?_; refine pu_ 4 67 ac ?_; refine ta_ 3 66 ac aw aa ?_; refine ta_ 5 68 ac aw aa ?_; refine on_ 6 (some 69) ac (fun K hK => ?_); refine gS Try.func52 #[.slice a7 ((rd_T52 J l).f3).length a9, .int .i64 ah] ?_
           with_reducible refine (slices_Contains_int_int.calls a0 _ _ ((rd_T52 J l).f3) ah true _ ?z1 ?z2 dL.out).mono ?_
           (case z1 => exact (tc (td aK.out)))
           (case z2 => exact cO.out)
           rintro e w' ⟨rfl, ⟨nd, rfl⟩⟩; refine ⟨_, rfl, ?_⟩; refine hK.out _ _ ⟨bc B 0, bc B 1, bc B 2, bc B 3, bc B 4, bc B 5, aa.2.2.2.2.2.2.1, aa.2.2.2.2.2.2.2.1, aa.2.2.2.2.2.2.2.2.1, aa.2.2.2.2.2.2.2.2.2.1, aa.2.2.2.2.2.2.2.2.2.2.1, aa.2.2.2.2.2.2.2.2.2.2.2⟩ (fun aa => ?_); clear hK K; refine norm_ (a' := ?_) ?_ ?_; rotate_left
           ·show Act.put _ (some 69) _ = _; simp only [Act.put, List.setIfInBounds_toArray, List.set_cons_zero, List.set_cons_succ, i64_w, i32_w]; rfl
           refine pu_ 7 70 ac ?_; refine done_ (done_of ac.out gk_) ?_
           have bz : 0 ≤ (l : Int) := dga
           have bD : l < (J.length : Int) := dga
           obtain ⟨eF, gO, hG, gP, hH, eM, b6, b7, bd, be, b8, b9, hl287_2, hi287_2, hl287_3, hi287_3⟩ := at_T52 (KQ.S_reads' M.out).2.2 l bz bD; obtain rfl : (⟨Y, of51, none⟩ : Addr) = eF := (by injection eM); obtain ⟨hN, hce287, hMe287, b2⟩ := KQ.S_get M.out z52 l bz B96x45_; obtain ⟨ve287_2, ve287_3, rfl, ge287_2, ge287_3⟩ := k52_openM hMe287; have hv287_2 := b2 2 _ rfl; rw [add_field _ _ 2 (by omega)] at hv287_2; replace hv287_2 := Option.some.inj (hv287_2.symm.trans bd); rw [hv287_2] at ge287_2; clear hv287_2 ge287_2; have hv287_3 := b2 3 _ rfl; rw [add_field _ _ 3 (by omega)] at hv287_3; replace hv287_3 := Option.some.inj (hv287_3.symm.trans be); rw [hv287_3] at ge287_3; clear hv287_3 ge287_3; clear b2 hce287
           (first | simp only [add_plain] at b6 | simp only [add_at] at b6 | simp only [Addr.add, Nat.zero_add] at b6 | skip)
           (first | simp only [add_plain] at b7 | simp only [add_at] at b7 | simp only [Addr.add, Nat.zero_add] at b7 | skip)
           (first | simp only [add_plain] at bd | simp only [add_at] at bd | simp only [Addr.add, Nat.zero_add] at bd | skip)
           (first | simp only [add_plain] at be | simp only [add_at] at be | simp only [Addr.add, Nat.zero_add] at be | skip)
           (first | simp only [add_plain] at b8 | simp only [add_at] at b8 | simp only [Addr.add, Nat.zero_add] at b8 | skip)
           (first | simp only [add_plain] at b9 | simp only [add_at] at b9 | simp only [Addr.add, Nat.zero_add] at b9 | skip)
           have bj := am hi287_2; have eq := am hl287_2; clear hi287_2 hl287_2; have bk := am hi287_3; have er := am hl287_3; clear hi287_3 hl287_3; replace bz := eq_true bz; replace bD := eq_true bD; have ea_ := Option.some.inj (ax.symm.trans bd)
           injection ea_ with ea_ en_ ec_
           subst ea_; subst ec_; clear en_; have ea_ := Option.some.inj (ay.symm.trans be)
           injection ea_ with ea_ en_ ec_
           subst ea_; subst ec_; clear en_
           try go_wp2_with (first | ((with_reducible refine gate_callee (f := 53) rfl ?_); refine gL (some 116) Try.func53 #[.agg #[.int .i64 ((rd_T52 J l).f0), .int .i64 ((rd_T52 J l).f1), .slice bq ((rd_T52 J l).f2).length bH, .slice a7 ((rd_T52 J l).f3).length a9, .int .i64 ((rd_T52 J l).f4), .int .i64 ((rd_T52 J l).f5)]] ?_; (with_reducible refine (impl_whole.calls a0 ((rd_T52 J l).f0) ((rd_T52 J l).f1) _ _ ((rd_T52 J l).f2) _ _ ((rd_T52 J l).f3) ((rd_T52 J l).f4) ((rd_T52 J l).f5) bS false _ ?z1 ?z2 ?z3 ?z4 eo.out).mono ?_); (case z1 => exact (tc (td bj.out))); (case z2 => exact eq.out); (case z3 => exact (tc (td bk.out))); (case z4 => exact er.out); rintro e iG ⟨rfl, hb⟩; refine ⟨_, rfl, ?_⟩; replace M := am (KQ.S_below (tsq M.out) hb); replace U := bA U hb; replace bj := am (cb bj.out hb); replace bk := am (cb bk.out hb); replace HB := am (below_step (te2 HB.out ar.out au.out) hb); have kQ := av.out; have k2 := D.out; obtain ⟨nB, nC, nD, nF, nG, nH, o4, o5, o6, o7, o8, o9⟩ := cf6 U) | ((with_reducible refine gate_store (t := 44) (p := 7) rfl ?_); refine store_event (t := 44) (p := 7) (v := ?vo_w78) (w1 := ((((((iG.setCell ⟨z, 0, none⟩ (.int .i64 0)).setCell ⟨z, 1, none⟩ (.int .i64 0)).setCell ⟨z, 2, none⟩ (.int .i64 0)).setCell ⟨z, 3, none⟩ (.int .i64 0)).setCell ⟨z, 4, none⟩ (.bool false)).setCell ⟨z, 5, none⟩ (.string (⟨#[]⟩ : ByteArray)))) ?hg ?ho ?hn ?hr ?_; (case ho => rfl); (case hg => rfl); (case hn => rfl); (case hr => exact gs_); intro fz hw; replace M : Aside0 (KQ.S k52 52 fz w.heap.size (fun _ => True) (.slice (some ⟨Y, of51, none⟩) J.length ap) J) := ⟨B96x5_⟩; replace U : Hc fz z #[.int .i64 0, .int .i64 0, .int .i64 0, .int .i64 0, .bool false, .string (⟨#[]⟩ : ByteArray)] 44 := ⟨B97x52_⟩; replace HB : Hb w fz := ⟨B97x51_⟩; clear hw))
           refine bodyPost_ret (results_list (rs := [.tmp 6, .cell 7 44, .tmp 8]) rfl (by simp) (.tmp (.cell z 44 #[.int .i64 0, .int .i64 0, .int .i64 0, .int .i64 0, .bool false, .string (⟨#[]⟩ : ByteArray)] (0, 0) _ rfl (tb U.out) Try.underlying44 rfl gk_ (.tmp .nil)))) rfl ?_; exact ⟨_, B97x24_, (tsq M.out), (te2 HB.out ar.out au.out)⟩
         ·replace dY := Bool.eq_false_iff.mpr dY; subst dY; rw [if_neg (show ¬ (false = true) by decide)] at H
          by_cases dk : ((rd_T52 J l).f3).length < 17592186044416
          rotate_left
          ·rw [if_neg dk] at H; exact absurd H (by simp)
          rw [if_pos dk] at H; have hj := am dk; clear dk; obtain ⟨bp, e9⟩ : ∃ y_ : List Int, y_ = (((rd_T52 J l).f3) ++ [ah]) := ⟨_, rfl⟩
          replace H : ((some (J.set (l : Int).toNat (⟨(rd_T52 J l).f0, (rd_T52 J l).f1, (rd_T52 J l).f2, bp, (rd_T52 J l).f4, (rd_T52 J l).f5⟩ : S52) : List (S52))).bind fun af => (if ((rd_T52 af l).f2).length < 8796093022208 then ((some (af.set (l : Int).toNat (⟨(rd_T52 af l).f0, (rd_T52 af l).f1, (((rd_T52 af l).f2) ++ [al]), (rd_T52 af l).f3, (rd_T52 af l).f4, (rd_T52 af l).f5⟩ : S52) : List (S52))).bind fun Z => (if ao = true then (impl_JoinBits.j3 a0 Z l false ad ag ae ah ao al) else (impl_JoinBits.j3 a0 Z l (((rd_T52 Z l).f4) == 0) ad ag ae ah ao al))) else (none))) = some (r1, r2, r3, r4, r5, r6, r7, r8) := hr e9 H
          have ht := am e9; clear e9; obtain ⟨af, fa⟩ : ∃ y_ : List (S52), y_ = (J.set (l : Int).toNat (⟨(rd_T52 J l).f0, (rd_T52 J l).f1, (rd_T52 J l).f2, bp, (rd_T52 J l).f4, (rd_T52 J l).f5⟩ : S52)) := ⟨_, rfl⟩
          replace H : (if ((rd_T52 af l).f2).length < 8796093022208 then ((some (af.set (l : Int).toNat (⟨(rd_T52 af l).f0, (rd_T52 af l).f1, (((rd_T52 af l).f2) ++ [al]), (rd_T52 af l).f3, (rd_T52 af l).f4, (rd_T52 af l).f5⟩ : S52) : List (S52))).bind fun Z => (if ao = true then (impl_JoinBits.j3 a0 Z l false ad ag ae ah ao al) else (impl_JoinBits.j3 a0 Z l (((rd_T52 Z l).f4) == 0) ad ag ae ah ao al))) else (none)) = some (r1, r2, r3, r4, r5, r6, r7, r8) := hr fa H
          have cn := am fa; clear fa
          by_cases dl : ((rd_T52 af l).f2).length < 8796093022208
          rotate_left
          ·rw [if_neg dl] at H; exact absurd H (by simp)
          rw [if_pos dl] at H; have hl := am dl; clear dl; obtain ⟨dG, fb⟩ : ∃ y_ : List ByteArray, y_ = (((rd_T52 af l).f2) ++ [al]) := ⟨_, rfl⟩
          replace H : ((some (af.set (l : Int).toNat (⟨(rd_T52 af l).f0, (rd_T52 af l).f1, dG, (rd_T52 af l).f3, (rd_T52 af l).f4, (rd_T52 af l).f5⟩ : S52) : List (S52))).bind fun Z => (if ao = true then (impl_JoinBits.j3 a0 Z l false ad ag ae ah ao al) else (impl_JoinBits.j3 a0 Z l (((rd_T52 Z l).f4) == 0) ad ag ae ah ao al))) = some (r1, r2, r3, r4, r5, r6, r7, r8) := hr fb H
          have hu := am fb; clear fb; obtain ⟨Z, fc⟩ : ∃ y_ : List (S52), y_ = (af.set (l : Int).toNat (⟨(rd_T52 af l).f0, (rd_T52 af l).f1, dG, (rd_T52 af l).f3, (rd_T52 af l).f4, (rd_T52 af l).f5⟩ : S52)) := ⟨_, rfl⟩
          replace H : (if ao = true then (impl_JoinBits.j3 a0 Z l false ad ag ae ah ao al) else (impl_JoinBits.j3 a0 Z l (((rd_T52 Z l).f4) == 0) ad ag ae ah ao al)) = some (r1, r2, r3, r4, r5, r6, r7, r8) := hr fc H
          have co := am fc; clear fc; have ez := am H; clear H
          have bh : 0 ≤ (l : Int) := dga
          have bi : (l : Int) < ((J.length : Int) : Int) := dga
          obtain ⟨Y, of51, ap, bI, bJ, dp, cl51, bG⟩ := KQ.S_form M.out (by omega)
          (first | cases bI | (injection bI with ea_ en_ ec_; (first | subst ea_ | (injection ea_ with ea_; subst ea_)); subst ec_; clear en_))
          have bW := am bJ; have fB := am bG; clear bJ dp bG; obtain ⟨_, fW, dr, bM, az, aA, _, _⟩ := KQ.S_elem M.out z52 (l : Int) bh bi; obtain ⟨ve51_2, ve51_3, rfl, ge51_2, ge51_3⟩ := k52_openM bM
          have gq : wc.cell? ⟨Y, of51 + (l : Int).toNat * 6, none⟩ = some (.int .i64 ((rd_T52 J l).f0)) := az 0 _ rfl
          have gr : wc.cell? ⟨Y, of51 + (l : Int).toNat * 6 + 1, none⟩ = some (.int .i64 ((rd_T52 J l).f1)) := az 1 _ rfl
          have gs : wc.cell? ⟨Y, of51 + (l : Int).toNat * 6 + 2, none⟩ = some (ve51_2) := az 2 _ rfl
          have gu : wc.cell? ⟨Y, of51 + (l : Int).toNat * 6 + 3, none⟩ = some (ve51_3) := az 3 _ rfl
          have gv : wc.cell? ⟨Y, of51 + (l : Int).toNat * 6 + 4, none⟩ = some (.int .i64 ((rd_T52 J l).f4)) := az 4 _ rfl
          have gw : wc.cell? ⟨Y, of51 + (l : Int).toNat * 6 + 5, none⟩ = some (.int .i64 ((rd_T52 J l).f5)) := az 5 _ rfl
          have f9 : wc.frozen? ⟨Y, of51 + (l : Int).toNat * 6, none⟩ = false := aA 0
          have ga : wc.frozen? ⟨Y, of51 + (l : Int).toNat * 6 + 1, none⟩ = false := aA 1
          have gb : wc.frozen? ⟨Y, of51 + (l : Int).toNat * 6 + 2, none⟩ = false := aA 2
          have gg : wc.frozen? ⟨Y, of51 + (l : Int).toNat * 6 + 3, none⟩ = false := aA 3
          have gh : wc.frozen? ⟨Y, of51 + (l : Int).toNat * 6 + 4, none⟩ = false := aA 4
          have gi : wc.frozen? ⟨Y, of51 + (l : Int).toNat * 6 + 5, none⟩ = false := aA 5
          clear dr az aA bM; replace bh := eq_true bh; replace bi := eq_true bi
          try go_wp2
          replace M := am (KQ.S_drew M.out); replace B := dA B; replace U := dA U; replace HB := bdr HB
          have a1 : 0 ≤ (l : Int) := dga
          have a4 : l < (J.length : Int) := dga
          obtain ⟨cV, bq, bH, a7, a9, dn, aN, aQ, ax, ay, aR, aT, hl285_2, hi285_2, hl285_3, hi285_3⟩ := at_T52 (KQ.S_reads' M.out).2.2 l a1 a4; obtain rfl : (⟨Y, of51, none⟩ : Addr) = cV := (by injection dn); obtain ⟨fV, hce285, hMe285, ba⟩ := KQ.S_get M.out z52 l a1 B96x37_; obtain ⟨ve285_2, ve285_3, rfl, ge285_2, ge285_3⟩ := k52_openM hMe285; have hv285_2 := ba 2 _ rfl; rw [add_field _ _ 2 (by omega)] at hv285_2; replace hv285_2 := Option.some.inj (hv285_2.symm.trans ax); rw [hv285_2] at ge285_2; have aI := am (show Kd.R Kd.string 9 _ _ _ _ ((rd_T52 J l).f2) from ge285_2); clear hv285_2 ge285_2; have bZ := am ax; have hv285_3 := ba 3 _ rfl; rw [add_field _ _ 3 (by omega)] at hv285_3; replace hv285_3 := Option.some.inj (hv285_3.symm.trans ay); rw [hv285_3] at ge285_3; have aJ := am (show Kd.R (Kd.int .i64) 3 _ _ _ _ ((rd_T52 J l).f3) from ge285_3); clear hv285_3 ge285_3; have b0 := am ay; clear ba hce285
          (first | simp only [add_plain] at aN | simp only [add_at] at aN | simp only [Addr.add, Nat.zero_add] at aN | skip)
          (first | simp only [add_plain] at aQ | simp only [add_at] at aQ | simp only [Addr.add, Nat.zero_add] at aQ | skip)
          (first | simp only [add_plain] at ax | simp only [add_at] at ax | simp only [Addr.add, Nat.zero_add] at ax | skip)
          (first | simp only [add_plain] at ay | simp only [add_at] at ay | simp only [Addr.add, Nat.zero_add] at ay | skip)
          (first | simp only [add_plain] at aR | simp only [add_at] at aR | simp only [Addr.add, Nat.zero_add] at aR | skip)
          (first | simp only [add_plain] at aT | simp only [add_at] at aT | simp only [Addr.add, Nat.zero_add] at aT | skip)
          have aU := am hi285_2; have fC := am hl285_2; clear hi285_2 hl285_2; have aK := am hi285_3; have cO := am hl285_3; clear hi285_3 hl285_3; replace a1 := eq_true a1; replace a4 := eq_true a4; refine st_ 8 (fun w' => w'.cell? ⟨ai, 0, none⟩ = some (.int .i64 ad) ∧ w'.cell? ⟨ai, 1, none⟩ = some (.int .i64 ag) ∧ w'.cell? ⟨ai, 2, none⟩ = some (.int .i64 ae) ∧ w'.cell? ⟨ai, 3, none⟩ = some (.int .i64 ah) ∧ w'.cell? ⟨ai, 4, none⟩ = some (.bool ao) ∧ w'.cell? ⟨ai, 5, none⟩ = some (.string al) ∧ w'.cell? ⟨Y, of51 + (l).toNat * 6, none⟩ = some (.int .i64 ((rd_T52 J l).f0)) ∧ w'.cell? ⟨Y, of51 + (l).toNat * 6 + 1, none⟩ = some (.int .i64 ((rd_T52 J l).f1)) ∧ w'.cell? ⟨Y, of51 + (l).toNat * 6 + 2, none⟩ = some (.slice bq ((rd_T52 J l).f2).length bH) ∧ w'.cell? ⟨Y, of51 + (l).toNat * 6 + 3, none⟩ = some (.slice a7 ((rd_T52 J l).f3).length a9) ∧ w'.cell? ⟨Y, of51 + (l).toNat * 6 + 4, none⟩ = some (.int .i64 ((rd_T52 J l).f4)) ∧ w'.cell? ⟨Y, of51 + (l).toNat * 6 + 5, none⟩ = some (.int .i64 ((rd_T52 J l).f5))) [] impl_JoinBits.tab12 impl_JoinBits.bits12 ⟨bc B 0, bc B 1, bc B 2, bc B 3, bc B 4, bc B 5, aN, aQ, ax, ay, aR, aT⟩ (fun aa ac aw => ?_); generalize wc.drew = a8 at M B U HB aI aJ aU aK bZ b0 aN aQ ax ay aR aT aa ⊢; refine pu_ 0 63 ac ?_; refine pu_ 1 64 ac ?_; refine pu_ 2 65 ac ?_; refine pu_ 4 67 ac ?_; refine ta_ 3 66 ac aw aa ?_; refine ta_ 5 68 ac aw aa ?_; refine on_ 6 (some 69) ac (fun K hK => ?_); refine gS Try.func52 #[.slice a7 ((rd_T52 J l).f3).length a9, .int .i64 ah] ?_
          with_reducible refine (slices_Contains_int_int.calls a0 _ _ ((rd_T52 J l).f3) ah false _ ?z1 ?z2 dL.out).mono ?_
          (case z1 => exact (tc (td aK.out)))
          (case z2 => exact cO.out)
          rintro e w' ⟨rfl, ⟨nd, rfl⟩⟩; refine ⟨_, rfl, ?_⟩; refine hK.out _ _ ⟨bc B 0, bc B 1, bc B 2, bc B 3, bc B 4, bc B 5, aa.2.2.2.2.2.2.1, aa.2.2.2.2.2.2.2.1, aa.2.2.2.2.2.2.2.2.1, aa.2.2.2.2.2.2.2.2.2.1, aa.2.2.2.2.2.2.2.2.2.2.1, aa.2.2.2.2.2.2.2.2.2.2.2⟩ (fun aa => ?_); clear hK K; refine norm_ (a' := ?_) ?_ ?_; rotate_left
          ·show Act.put _ (some 69) _ = _; simp only [Act.put, List.setIfInBounds_toArray, List.set_cons_zero, List.set_cons_succ, i64_w, i32_w]; rfl
          refine pu_ 7 70 ac ?_; refine done_ (done_of ac.out gk_) ?_
          try go_wp2
          (try (rw [drewN_self a8]; generalize hq_ : World.drewN a8 _ = a8; have cE : Aside0 (Kd.R Kd.string 9 a8 w.heap.size (fun k_ => some k_ ≠ (.slice (some ⟨Y, of51, none⟩) J.length ap : Value).ownBlock) (.slice bq ((rd_T52 J l).f2).length bH) ((rd_T52 J l).f2)) := ⟨(by rw [← hq_]; exact (by (with_reducible repeat (first | apply Kd.R_alloc | apply Kd.R_drewN | apply Kd.R_drew)); exact Kd.R_mono aI.out (fun _ hk => hk.2)))⟩; have cF : Aside0 (Kd.R (Kd.int .i64) 3 a8 w.heap.size (fun k_ => some k_ ≠ (.slice (some ⟨Y, of51, none⟩) J.length ap : Value).ownBlock) (.slice a7 ((rd_T52 J l).f3).length a9) ((rd_T52 J l).f3)) := ⟨(by rw [← hq_]; exact (by (with_reducible repeat (first | apply Kd.R_alloc | apply Kd.R_drewN | apply Kd.R_drew)); exact Kd.R_mono aJ.out (fun _ hk => hk.2)))⟩; have cG : Aside0 (KQ.S k52 52 a8 w.heap.size (fun _ => True) (.slice (some ⟨Y, of51, none⟩) J.length ap) J) := ⟨(by rw [← hq_]; exact (tsq M.out))⟩; have cH : Hc a8 ai #[.int .i64 ad, .int .i64 ag, .int .i64 ae, .int .i64 ah, .bool ao, .string al] 44 := ⟨(by rw [← hq_]; exact (tb B.out))⟩; have gB : Hc a8 z #[.int .i64 0, .int .i64 0, .int .i64 0, .int .i64 0, .bool false, .string (⟨#[]⟩ : ByteArray)] 44 := ⟨(by rw [← hq_]; exact (tb U.out))⟩; have gC : Hb w a8 := ⟨(by rw [← hq_]; exact (te2 HB.out ar.out au.out))⟩; have gD : Aside0 (Kd.C Kd.string a8 bq ((rd_T52 J l).f2).length ((rd_T52 J l).f2)) := ⟨(by rw [← hq_]; exact (td aU.out))⟩; have gE : Aside0 (Kd.C (Kd.int .i64) a8 a7 ((rd_T52 J l).f3).length ((rd_T52 J l).f3)) := ⟨(by rw [← hq_]; exact (td aK.out))⟩; clear aI aJ M B U HB aU aK hq_; have aI := cE; have aJ := cF; have M := cG; have B := cH; have U := gB; have HB := gC; have aU := gD; have aK := gE; clear cE cF cG cH gB gC gD gE)); obtain ⟨hcy274_0, hcy274_1, hcy274_2, hcy274_3, hcy274_4, hcy274_5⟩ := cl6 B.out; obtain ⟨hcy275_0, hcy275_1, hcy275_2, hcy275_3, hcy275_4, hcy275_5⟩ := cl6 U.out; replace M := am (KQ.S_drew M.out); replace aI := eA aI; replace aJ := eA aJ; replace B := dA B; replace U := dA U; replace aU := am (Kd.C_drew aU.out); replace aK := am (Kd.C_drew aK.out); replace HB := bdr HB
          have dy : 0 ≤ (l : Int) := dga
          have dB : l < (J.length : Int) := dga
          obtain ⟨hz, gQ, hI, dJ, dT, hR, cw, cx, bN, bO, cy, cz, hl301_2, hi301_2, hl301_3, hi301_3⟩ := at_T52 (KQ.S_reads' M.out).2.2 l dy dB; obtain rfl : (⟨Y, of51, none⟩ : Addr) = hz := (by injection hR); obtain ⟨jC, hce301, hMe301, eS⟩ := KQ.S_get M.out z52 l dy (by first | exact dB | exact dga | (have e_ := (KQ.S_reads' M.out).1; omega)); obtain ⟨ve301_2, ve301_3, rfl, ge301_2, ge301_3⟩ := k52_openM hMe301; have hv301_2 := eS 2 _ rfl; rw [add_field _ _ 2 (by omega)] at hv301_2; replace hv301_2 := Option.some.inj (hv301_2.symm.trans bN); rw [hv301_2] at ge301_2; have fE := am (show Kd.R Kd.string 9 _ _ _ _ ((rd_T52 J l).f2) from ge301_2); clear hv301_2 ge301_2; have hf := am bN; have hv301_3 := eS 3 _ rfl; rw [add_field _ _ 3 (by omega)] at hv301_3; replace hv301_3 := Option.some.inj (hv301_3.symm.trans bO); rw [hv301_3] at ge301_3; have bX := am (show Kd.R (Kd.int .i64) 3 _ _ _ _ ((rd_T52 J l).f3) from ge301_3); clear hv301_3 ge301_3; have fK := am bO; clear eS hce301
          (first | simp only [add_plain] at cw | simp only [add_at] at cw | simp only [Addr.add, Nat.zero_add] at cw | skip)
          (first | simp only [add_plain] at cx | simp only [add_at] at cx | simp only [Addr.add, Nat.zero_add] at cx | skip)
          (first | simp only [add_plain] at bN | simp only [add_at] at bN | simp only [Addr.add, Nat.zero_add] at bN | skip)
          (first | simp only [add_plain] at bO | simp only [add_at] at bO | simp only [Addr.add, Nat.zero_add] at bO | skip)
          (first | simp only [add_plain] at cy | simp only [add_at] at cy | simp only [Addr.add, Nat.zero_add] at cy | skip)
          (first | simp only [add_plain] at cz | simp only [add_at] at cz | simp only [Addr.add, Nat.zero_add] at cz | skip)
          have g2 := am hi301_2; have iT := am hl301_2; clear hi301_2 hl301_2; have g3 := am hi301_3; have iU := am hl301_3; clear hi301_3 hl301_3; replace dy := eq_true dy; replace dB := eq_true dB; obtain ⟨oki86, jE, h0, hW, f5, _, _, hH86⟩ := KQ.S_elem M.out z52 (l : Int) (dga) (by have h_ : (l : Int) < ((J.length : Int) : Int) := dga; first | exact h_ | (have e_ := (KQ.S_reads' M.out).1; omega) | simpa using h_); obtain ⟨ve86_2, ve86_3, rfl, ge86_2, ge86_3⟩ := k52_openM hW; have hv86 := f5 3 _ rfl; have hX86 := fK.out; (try simp only [add_at] at hX86); (try simp only [Nat.add_zero] at hv86); replace hv86 := Option.some.inj (hv86.symm.trans hX86); subst hv86; clear hX86 f5 h0; have UU86 := am (show Kd.R (Kd.int .i64) 3 _ w.heap.size oki86 (.slice dJ ((rd_T52 J l).f3).length dT) ((rd_T52 J l).f3) from ge86_3); have HH86 := am hH86; have HN86 := am (KQ.S_reads' M.out).1; have HE86_2 := am ge86_2; clear hH86 ge86_2 ge86_3; refine st_ 12 (fun w' => w'.cell? ⟨ai, 0, none⟩ = some (.int .i64 ad) ∧ w'.cell? ⟨ai, 1, none⟩ = some (.int .i64 ag) ∧ w'.cell? ⟨ai, 2, none⟩ = some (.int .i64 ae) ∧ w'.cell? ⟨ai, 3, none⟩ = some (.int .i64 ah) ∧ w'.cell? ⟨ai, 4, none⟩ = some (.bool ao) ∧ w'.cell? ⟨ai, 5, none⟩ = some (.string al) ∧ w'.cell? ⟨Y, of51 + (l).toNat * 6, none⟩ = some (.int .i64 ((rd_T52 J l).f0)) ∧ w'.cell? ⟨Y, of51 + (l).toNat * 6 + 1, none⟩ = some (.int .i64 ((rd_T52 J l).f1)) ∧ w'.cell? ⟨Y, of51 + (l).toNat * 6 + 2, none⟩ = some (.slice gQ ((rd_T52 J l).f2).length hI) ∧ w'.cell? ⟨Y, of51 + (l).toNat * 6 + 3, none⟩ = some (.slice dJ ((rd_T52 J l).f3).length dT) ∧ w'.cell? ⟨Y, of51 + (l).toNat * 6 + 4, none⟩ = some (.int .i64 ((rd_T52 J l).f4)) ∧ w'.cell? ⟨Y, of51 + (l).toNat * 6 + 5, none⟩ = some (.int .i64 ((rd_T52 J l).f5))) [11] impl_JoinBits.tab13 impl_JoinBits.bits13 ⟨bc B 0, bc B 1, bc B 2, bc B 3, bc B 4, bc B 5, cw, cx, bN, bO, cy, cz⟩ (fun aa ac aw => ?_); generalize a8.drew = iH at M aI aJ B U aU aK HB HE86_2 HH86 fE bX g2 g3 hf fK UU86 cw cx bN bO cy cz aa ⊢; refine pu_ 0 71 ac ?_; refine pu_ 1 72 ac ?_; refine pu_ 2 73 ac ?_; refine pu_ 3 74 ac ?_; refine pu_ 5 76 ac ?_; refine ta_ 4 75 ac aw aa ?_; refine ta_ 6 77 ac aw aa ?_; refine on_ 7 (some 78) ac (fun K hK => ?_); refine value_ (w1 := ?_) (v := ?_) (by rfl) rfl ?_ ?_
          rotate_left 2
          ·go_simp
           constructor
           ·rfl
           ·rfl
          refine hK.out _ _ ⟨(blk_cell (blk_alloc B.out _) 0).trans rfl, (blk_cell (blk_alloc B.out _) 1).trans rfl, (blk_cell (blk_alloc B.out _) 2).trans rfl, (blk_cell (blk_alloc B.out _) 3).trans rfl, (blk_cell (blk_alloc B.out _) 4).trans rfl, (blk_cell (blk_alloc B.out _) 5).trans rfl, (World.cell?_alloc_lt _ _ _ (World.block_lt_of_cell? _ _ (aa.2.2.2.2.2.2.1))).trans (aa.2.2.2.2.2.2.1), (World.cell?_alloc_lt _ _ _ (World.block_lt_of_cell? _ _ (aa.2.2.2.2.2.2.2.1))).trans (aa.2.2.2.2.2.2.2.1), (World.cell?_alloc_lt _ _ _ (World.block_lt_of_cell? _ _ (aa.2.2.2.2.2.2.2.2.1))).trans (aa.2.2.2.2.2.2.2.2.1), (World.cell?_alloc_lt _ _ _ (World.block_lt_of_cell? _ _ (aa.2.2.2.2.2.2.2.2.2.1))).trans (aa.2.2.2.2.2.2.2.2.2.1), (World.cell?_alloc_lt _ _ _ (World.block_lt_of_cell? _ _ (aa.2.2.2.2.2.2.2.2.2.2.1))).trans (aa.2.2.2.2.2.2.2.2.2.2.1), (World.cell?_alloc_lt _ _ _ (World.block_lt_of_cell? _ _ (aa.2.2.2.2.2.2.2.2.2.2.2))).trans (aa.2.2.2.2.2.2.2.2.2.2.2)⟩ (fun aa => ?_); clear hK K; refine norm_ (a' := ?_) ?_ ?_; rotate_left
          ·show Act.put _ (some 78) _ = _; simp only [Act.put, List.setIfInBounds_toArray, List.set_cons_zero, List.set_cons_succ, i64_w, i32_w]; rfl
          refine on_ 8 (some 79) ac (fun K hK => ?_); refine Kd.R_append_step (Kd.int .i64) (w0 := w) w.heap.size (by rfl) (.tmp 75) (.tmp 78) 36 3 (.int .i64 0) 8 rfl Try.underlying36 info3 rfl (by decide) (by omega) (.slice dJ ((rd_T52 J l).f3).length dT) ((rd_T52 J l).f3) ah [.int .i64 ah] (fun k_ => oki86 k_ ∨ ((fun _ => True)) k_ ∧ iH.heap.size ≤ k_) (fun _ => False) rfl rfl ?aP (fun _ hk => hk.elim) ?aF ?aO ?aB ?aS ?aL ?_
          (case aP => exact rfl)
          (case aB => exact (te2 HB.out ar.out au.out))
          (case aF => exact (fun k_ hk => .inr ⟨trivial, hk⟩))
          (case aO => (with_reducible repeat (first | apply Kd.R_alloc | apply Kd.R_drewN | apply Kd.R_drew)); exact Kd.R_mono UU86.out (fun _ hk => .inl hk))
          (case aS => exact B97x54_)
          (case aL => have := hj.out; omega)
          intro lZ dE ho hb hg hat
          (first | have HS6_ := cell_grown hg (aa.2.2.2.2.2.2.1) B97x2_ | have HS6_ := cell_grown hg (cell_unalloc (aa.2.2.2.2.2.2.1) B96x7_) B97x2_)
          (first | have HS7_ := cell_grown hg (aa.2.2.2.2.2.2.2.1) B97x2_ | have HS7_ := cell_grown hg (cell_unalloc (aa.2.2.2.2.2.2.2.1) B96x7_) B97x2_)
          (first | have HS8_ := cell_grown hg (aa.2.2.2.2.2.2.2.2.1) B97x2_ | have HS8_ := cell_grown hg (cell_unalloc (aa.2.2.2.2.2.2.2.2.1) B96x7_) B97x2_)
          (first | have HS9_ := cell_grown hg (aa.2.2.2.2.2.2.2.2.2.1) B97x2_ | have HS9_ := cell_grown hg (cell_unalloc (aa.2.2.2.2.2.2.2.2.2.1) B96x7_) B97x2_)
          (first | have HS10_ := cell_grown hg (aa.2.2.2.2.2.2.2.2.2.2.1) B97x2_ | have HS10_ := cell_grown hg (cell_unalloc (aa.2.2.2.2.2.2.2.2.2.2.1) B96x7_) B97x2_)
          (first | have HS11_ := cell_grown hg (aa.2.2.2.2.2.2.2.2.2.2.2) B97x2_ | have HS11_ := cell_grown hg (cell_unalloc (aa.2.2.2.2.2.2.2.2.2.2.2) B96x7_) B97x2_)
          rw [← ht.out] at ho; replace B := bg B hg (Kd.R_ne bX.out B.out (by decide)); replace U := bg U hg (Kd.R_ne bX.out U.out (by decide)); replace HB := am hb; replace HH86 := am (KQ.H_grown (KQ.H_widen (by repeat (first | exact HH86.out | refine KQ.H_alloc ?_ _ | refine KQ.H_drewN ?_ _ | refine KQ.H_drew ?_))) hg (fun k_ e_ => .inl (UU86.out.1 k_ e_))); replace HE86_2 := am (Kd.R_over' (v := (.slice dJ ((rd_T52 J l).f3).length dT)) (tr HE86_2.out) (Kd.R_typed UU86.out) (by decide) hg); have fG := am ho; clear M; clear UU86; clear aI; clear aJ; clear fE; clear bX; clear ho hb hg hat
          have d6 : 0 ≤ (l : Int) := dga
          have d8 : (l : Int) < ((J.length : Int) : Int) := dga
          replace d6 := eq_true d6; replace d8 := eq_true d8; obtain ⟨cl, ct, fY⟩ := Kd.R_slice fG.out
          (first | subst fY | (injection fY with f1_ f2_ f3_; have f4_ := f1_.symm; have f5_ := f3_.symm; clear f1_ f2_ f3_; subst f4_; subst f5_))
          obtain ⟨_, _, hraw88, _, _, f6, _⟩ := KQ.H_raw HH86.out (dga) (by have h_ : (l : Int) < ((J.length : Int) : Int) := dga; first | exact h_ | (have e_ := (HN86.out); omega) | simpa using h_); obtain ⟨_, gm⟩ := KQ.H_at HH86.out (dga) (by have h_ : (l : Int) < ((J.length : Int) : Int) := dga; first | exact h_ | (have e_ := (HN86.out); omega) | simpa using h_); have gx := f6 3 _ rfl; have ia := gm 3; (try rw [show (k52).sz = 6 from rfl] at gx); (try rw [show (k52).sz = 6 from rfl] at ia); have fI := KQ.S_seg0 HH86.out (dga) (by have h_ : (l : Int) < ((J.length : Int) : Int) := dga; first | exact h_ | (have e_ := (HN86.out); omega) | simpa using h_) (seg := [.slice cl bp.length ct]) (j := 3) (show 4 ≤ 6 from (by decide)) (x' := (⟨(rd_T52 J l).f0, (rd_T52 J l).f1, (rd_T52 J l).f2, bp, (rd_T52 J l).f4, (rd_T52 J l).f5⟩ : S52)) (k52_mkM _ _ _ (⟨(rd_T52 J l).f0, (rd_T52 J l).f1, (rd_T52 J l).f2, bp, (rd_T52 J l).f4, (rd_T52 J l).f5⟩ : S52) (Kd.R_mono HE86_2.out (fun _ h_ => .inl h_)) fG.out) (fun _ hk => hk); clear f6 gm; have HNB274_go51 := am (show ai ≠ Y from (by have h_ := Kd.R_ne hraw88 B.out (by decide); intro e_; exact h_ (by rw [e_]; rfl))); have HNB275_go51 := am (show z ≠ Y from (by have h_ := Kd.R_ne hraw88 U.out (by decide); intro e_; exact h_ (by rw [e_]; rfl))); have HS88 := fI.1; rw [← cn.out] at HS88; have HQ88 := am HS88; obtain ⟨_, hgg88⟩ := Kd.R_typed hraw88 Y rfl; have iP := am hgg88; clear fI HS88 hgg88; refine hK.out _ _ ⟨bc B 0, bc B 1, bc B 2, bc B 3, bc B 4, bc B 5, HS6_, HS7_, HS8_, HS9_, HS10_, HS11_⟩ (fun aa => ?_); clear hK K; refine norm_ (a' := ?_) ?_ ?_; rotate_left
          ·show Act.put _ (some 79) _ = _; simp only [Act.put, List.setIfInBounds_toArray, List.set_cons_zero, List.set_cons_succ, i64_w, i32_w]; rfl
          refine pu_ 9 80 ac ?_; refine pu_ 10 81 ac ?_; refine last_ (i := 11) (N := none) #[true, true, true, true, true, true, true, true, true, true, true, true] rfl rfl (one_of ac.out gk_) (by decide) (fun K hK => ?_); refine skip_ (w1 := ?_) (by rfl) rfl ?_ ?_; rotate_left
          ·go_simp; rfl
          refine hK.out _ _ ?_; clear hK K; refine done_ (done_of ac.out gk_) ?_
          try go_wp2
          have cE : Aside0 (KQ.S k52 52 (dE.setCell ⟨Y, of51 + (l : Int).toNat * 6 + 3, none⟩ (.slice cl bp.length ct)) w.heap.size (fun _ => True) (.slice (some ⟨Y, of51, none⟩) J.length ap) af) := ⟨tsq HQ88.out⟩
          have cF : Aside0 ((dE.setCell ⟨Y, of51 + (l : Int).toNat * 6 + 3, none⟩ (.slice cl bp.length ct)).heap[ai]? = some (.cells #[.int .i64 ad, .int .i64 ag, .int .i64 ae, .int .i64 ah, .bool ao, .string al] 44 (0, 0))) := ⟨tp1 B.out HNB274_go51.out⟩
          have cG : Aside0 ((dE.setCell ⟨Y, of51 + (l : Int).toNat * 6 + 3, none⟩ (.slice cl bp.length ct)).heap[z]? = some (.cells #[.int .i64 0, .int .i64 0, .int .i64 0, .int .i64 0, .bool false, .string (⟨#[]⟩ : ByteArray)] 44 (0, 0))) := ⟨tp1 U.out HNB275_go51.out⟩
          have cH : Aside0 (Below w.heap.size w (dE.setCell ⟨Y, of51 + (l : Int).toNat * 6 + 3, none⟩ (.slice cl bp.length ct))) := ⟨te3 HB.out bW.out ar.out au.out⟩
          (try clear M); generalize (dE.setCell ⟨Y, of51 + (l : Int).toNat * 6 + 3, none⟩ (.slice cl bp.length ct)) = iI at cE cF cG cH ⊢; have M := cE; have B := cF; have U := cG; have HB := cH; clear cE cF cG cH; replace M := am (KQ.S_drew M.out); replace B := dA B; replace U := dA U; replace HB := bdr HB
          have dz : 0 ≤ (l : Int) := dga
          have dC : l < (af.length : Int) := (by have h_ : (l : Int) < ((J.length : Int) : Int) := dga; first | (have e_ := (KQ.S_reads' M.out).1; omega) | simpa only [cn.out, List.length_set] using h_)
          have ql306 : ((l : Int) < ((J.length : Int) : Int)) = True := eq_true (dga)
          obtain ⟨hB, dK, dU, gR, hJ, hS, cA, cB, bP, bQ, cC, cD, hl306_2, hi306_2, hl306_3, hi306_3⟩ := at_T52 (KQ.S_reads' M.out).2.2 l dz dC; obtain rfl : (⟨Y, of51, none⟩ : Addr) = hB := (by injection hS); obtain ⟨jD, hce306, hMe306, eT⟩ := KQ.S_get M.out z52 l dz (by first | exact dC | exact dga | (have e_ := (KQ.S_reads' M.out).1; omega)); obtain ⟨ve306_2, ve306_3, rfl, ge306_2, ge306_3⟩ := k52_openM hMe306; have hv306_2 := eT 2 _ rfl; rw [add_field _ _ 2 (by omega)] at hv306_2; replace hv306_2 := Option.some.inj (hv306_2.symm.trans bP); rw [hv306_2] at ge306_2; have bY := am (show Kd.R Kd.string 9 _ _ _ _ ((rd_T52 af l).f2) from ge306_2); clear hv306_2 ge306_2; have fL := am bP; have hv306_3 := eT 3 _ rfl; rw [add_field _ _ 3 (by omega)] at hv306_3; replace hv306_3 := Option.some.inj (hv306_3.symm.trans bQ); rw [hv306_3] at ge306_3; have fF := am (show Kd.R (Kd.int .i64) 3 _ _ _ _ ((rd_T52 af l).f3) from ge306_3); clear hv306_3 ge306_3; have hh := am bQ; clear eT hce306
          (first | simp only [add_plain] at cA | simp only [add_at] at cA | simp only [Addr.add, Nat.zero_add] at cA | skip)
          (first | simp only [add_plain] at cB | simp only [add_at] at cB | simp only [Addr.add, Nat.zero_add] at cB | skip)
          (first | simp only [add_plain] at bP | simp only [add_at] at bP | simp only [Addr.add, Nat.zero_add] at bP | skip)
          (first | simp only [add_plain] at bQ | simp only [add_at] at bQ | simp only [Addr.add, Nat.zero_add] at bQ | skip)
          (first | simp only [add_plain] at cC | simp only [add_at] at cC | simp only [Addr.add, Nat.zero_add] at cC | skip)
          (first | simp only [add_plain] at cD | simp only [add_at] at cD | simp only [Addr.add, Nat.zero_add] at cD | skip)
          have g4 := am hi306_2; have iV := am hl306_2; clear hi306_2 hl306_2; have g5 := am hi306_3; have iW := am hl306_3; clear hi306_3 hl306_3; replace dz := eq_true dz; replace dC := eq_true dC; obtain ⟨oki93, jF, h1, hX, f7, _, _, hH93⟩ := KQ.S_elem M.out z52 (l : Int) (dga) (by have h_ : (l : Int) < ((J.length : Int) : Int) := dga; first | exact h_ | (have e_ := (KQ.S_reads' M.out).1; omega) | simpa using h_); obtain ⟨ve93_2, ve93_3, rfl, ge93_2, ge93_3⟩ := k52_openM hX; have hv93 := f7 2 _ rfl; have hX93 := fL.out; (try simp only [add_at] at hX93); (try simp only [Nat.add_zero] at hv93); replace hv93 := Option.some.inj (hv93.symm.trans hX93); subst hv93; clear hX93 f7 h1; have UU93 := am (show Kd.R Kd.string 9 _ w.heap.size oki93 (.slice dK ((rd_T52 af l).f2).length dU) ((rd_T52 af l).f2) from ge93_2); have HH93 := am hH93; have HN93 := am (KQ.S_reads' M.out).1; have HE93_3 := am ge93_3; clear hH93 ge93_2 ge93_3; refine st_ 12 (fun w' => w'.cell? ⟨ai, 0, none⟩ = some (.int .i64 ad) ∧ w'.cell? ⟨ai, 1, none⟩ = some (.int .i64 ag) ∧ w'.cell? ⟨ai, 2, none⟩ = some (.int .i64 ae) ∧ w'.cell? ⟨ai, 3, none⟩ = some (.int .i64 ah) ∧ w'.cell? ⟨ai, 4, none⟩ = some (.bool ao) ∧ w'.cell? ⟨ai, 5, none⟩ = some (.string al) ∧ w'.cell? ⟨Y, of51 + (l).toNat * 6, none⟩ = some (.int .i64 ((rd_T52 af l).f0)) ∧ w'.cell? ⟨Y, of51 + (l).toNat * 6 + 1, none⟩ = some (.int .i64 ((rd_T52 af l).f1)) ∧ w'.cell? ⟨Y, of51 + (l).toNat * 6 + 2, none⟩ = some (.slice dK ((rd_T52 af l).f2).length dU) ∧ w'.cell? ⟨Y, of51 + (l).toNat * 6 + 3, none⟩ = some (.slice gR ((rd_T52 af l).f3).length hJ) ∧ w'.cell? ⟨Y, of51 + (l).toNat * 6 + 4, none⟩ = some (.int .i64 ((rd_T52 af l).f4)) ∧ w'.cell? ⟨Y, of51 + (l).toNat * 6 + 5, none⟩ = some (.int .i64 ((rd_T52 af l).f5))) [11] impl_JoinBits.tab14 impl_JoinBits.bits14 ⟨bc B 0, bc B 1, bc B 2, bc B 3, bc B 4, bc B 5, cA, cB, bP, bQ, cC, cD⟩ (fun aa ac aw => ?_); generalize iI.drew = iJ at M B U HB HE93_3 HH93 bY fF HQ88 g4 g5 fL hh UU93 cA cB bP bQ cC cD aa ⊢; refine pu_ 0 82 ac ?_; refine pu_ 1 83 ac ?_; refine pu_ 2 84 ac ?_; refine pu_ 3 85 ac ?_; refine pu_ 5 87 ac ?_; refine ta_ 4 86 ac aw aa ?_; refine ta_ 6 88 ac aw aa ?_; refine on_ 7 (some 89) ac (fun K hK => ?_); refine value_ (w1 := ?_) (v := ?_) (by rfl) rfl ?_ ?_
          rotate_left 2
          ·go_simp
           constructor
           ·rfl
           ·rfl
          refine hK.out _ _ ⟨(blk_cell (blk_alloc B.out _) 0).trans rfl, (blk_cell (blk_alloc B.out _) 1).trans rfl, (blk_cell (blk_alloc B.out _) 2).trans rfl, (blk_cell (blk_alloc B.out _) 3).trans rfl, (blk_cell (blk_alloc B.out _) 4).trans rfl, (blk_cell (blk_alloc B.out _) 5).trans rfl, (World.cell?_alloc_lt _ _ _ (World.block_lt_of_cell? _ _ (aa.2.2.2.2.2.2.1))).trans (aa.2.2.2.2.2.2.1), (World.cell?_alloc_lt _ _ _ (World.block_lt_of_cell? _ _ (aa.2.2.2.2.2.2.2.1))).trans (aa.2.2.2.2.2.2.2.1), (World.cell?_alloc_lt _ _ _ (World.block_lt_of_cell? _ _ (aa.2.2.2.2.2.2.2.2.1))).trans (aa.2.2.2.2.2.2.2.2.1), (World.cell?_alloc_lt _ _ _ (World.block_lt_of_cell? _ _ (aa.2.2.2.2.2.2.2.2.2.1))).trans (aa.2.2.2.2.2.2.2.2.2.1), (World.cell?_alloc_lt _ _ _ (World.block_lt_of_cell? _ _ (aa.2.2.2.2.2.2.2.2.2.2.1))).trans (aa.2.2.2.2.2.2.2.2.2.2.1), (World.cell?_alloc_lt _ _ _ (World.block_lt_of_cell? _ _ (aa.2.2.2.2.2.2.2.2.2.2.2))).trans (aa.2.2.2.2.2.2.2.2.2.2.2)⟩ (fun aa => ?_); clear hK K; refine norm_ (a' := ?_) ?_ ?_; rotate_left
          ·show Act.put _ (some 89) _ = _; simp only [Act.put, List.setIfInBounds_toArray, List.set_cons_zero, List.set_cons_succ, i64_w, i32_w]; rfl
          refine on_ 8 (some 90) ac (fun K hK => ?_); refine Kd.R_append_step Kd.string (w0 := w) w.heap.size (by rfl) (.tmp 86) (.tmp 89) 35 9 (.string ⟨#[]⟩) 16 rfl Try.underlying35 info9 rfl (by decide) (by omega) (.slice dK ((rd_T52 af l).f2).length dU) ((rd_T52 af l).f2) al [.string al] (fun k_ => oki93 k_ ∨ ((fun _ => True)) k_ ∧ iJ.heap.size ≤ k_) (fun _ => False) rfl rfl ?aP (fun _ hk => hk.elim) ?aF ?aO ?aB ?aS ?aL ?_
          (case aP => exact rfl)
          (case aB => exact (te2 HB.out ar.out au.out))
          (case aF => exact (fun k_ hk => .inr ⟨trivial, hk⟩))
          (case aO => (with_reducible repeat (first | apply Kd.R_alloc | apply Kd.R_drewN | apply Kd.R_drew)); exact Kd.R_mono UU93.out (fun _ hk => .inl hk))
          (case aS => exact B97x54_)
          (case aL => have := hl.out; omega)
          intro l3 md ho hb hg hat
          (first | have HS6_ := cell_grown hg (aa.2.2.2.2.2.2.1) B97x3_ | have HS6_ := cell_grown hg (cell_unalloc (aa.2.2.2.2.2.2.1) B96x7_) B97x3_)
          (first | have HS7_ := cell_grown hg (aa.2.2.2.2.2.2.2.1) B97x3_ | have HS7_ := cell_grown hg (cell_unalloc (aa.2.2.2.2.2.2.2.1) B96x7_) B97x3_)
          (first | have HS8_ := cell_grown hg (aa.2.2.2.2.2.2.2.2.1) B97x3_ | have HS8_ := cell_grown hg (cell_unalloc (aa.2.2.2.2.2.2.2.2.1) B96x7_) B97x3_)
          (first | have HS9_ := cell_grown hg (aa.2.2.2.2.2.2.2.2.2.1) B97x3_ | have HS9_ := cell_grown hg (cell_unalloc (aa.2.2.2.2.2.2.2.2.2.1) B96x7_) B97x3_)
          (first | have HS10_ := cell_grown hg (aa.2.2.2.2.2.2.2.2.2.2.1) B97x3_ | have HS10_ := cell_grown hg (cell_unalloc (aa.2.2.2.2.2.2.2.2.2.2.1) B96x7_) B97x3_)
          (first | have HS11_ := cell_grown hg (aa.2.2.2.2.2.2.2.2.2.2.2) B97x3_ | have HS11_ := cell_grown hg (cell_unalloc (aa.2.2.2.2.2.2.2.2.2.2.2) B96x7_) B97x3_)
          rw [← hu.out] at ho; replace B := bg B hg (Kd.R_ne bY.out B.out (by decide)); replace U := bg U hg (Kd.R_ne bY.out U.out (by decide)); replace HB := am hb; replace HH93 := am (KQ.H_grown (KQ.H_widen (by repeat (first | exact HH93.out | refine KQ.H_alloc ?_ _ | refine KQ.H_drewN ?_ _ | refine KQ.H_drew ?_))) hg (fun k_ e_ => .inl (UU93.out.1 k_ e_))); replace HE93_3 := am (Kd.R_over' (v := (.slice dK ((rd_T52 af l).f2).length dU)) (tr HE93_3.out) (Kd.R_typed UU93.out) (by decide) hg); have fH := am ho; clear M; clear UU93; clear bY; clear fF; clear ho hb hg hat
          have d7 : 0 ≤ (l : Int) := dga
          have d9 : (l : Int) < ((J.length : Int) : Int) := dga
          replace d7 := eq_true d7; replace d9 := eq_true d9; obtain ⟨gW, hQ, fZ⟩ := Kd.R_slice fH.out
          (first | subst fZ | (injection fZ with f1_ f2_ f3_; have f4_ := f1_.symm; have f5_ := f3_.symm; clear f1_ f2_ f3_; subst f4_; subst f5_))
          obtain ⟨_, _, hraw95, _, _, f8, _⟩ := KQ.H_raw HH93.out (dga) (by have h_ : (l : Int) < ((J.length : Int) : Int) := dga; first | exact h_ | (have e_ := (HN93.out); omega) | simpa using h_); obtain ⟨_, gn⟩ := KQ.H_at HH93.out (dga) (by have h_ : (l : Int) < ((J.length : Int) : Int) := dga; first | exact h_ | (have e_ := (HN93.out); omega) | simpa using h_); have gy := f8 2 _ rfl; have ib := gn 2; (try rw [show (k52).sz = 6 from rfl] at gy); (try rw [show (k52).sz = 6 from rfl] at ib); have fJ := KQ.S_seg0 HH93.out (dga) (by have h_ : (l : Int) < ((J.length : Int) : Int) := dga; first | exact h_ | (have e_ := (HN93.out); omega) | simpa using h_) (seg := [.slice gW dG.length hQ]) (j := 2) (show 3 ≤ 6 from (by decide)) (x' := (⟨(rd_T52 af l).f0, (rd_T52 af l).f1, dG, (rd_T52 af l).f3, (rd_T52 af l).f4, (rd_T52 af l).f5⟩ : S52)) (k52_mkM _ _ _ (⟨(rd_T52 af l).f0, (rd_T52 af l).f1, dG, (rd_T52 af l).f3, (rd_T52 af l).f4, (rd_T52 af l).f5⟩ : S52) fH.out (Kd.R_mono HE93_3.out (fun _ h_ => .inl h_))) (fun _ hk => hk); clear f8 gn; have HNB274_go51 := am (show ai ≠ Y from (by have h_ := Kd.R_ne hraw95 B.out (by decide); intro e_; exact h_ (by rw [e_]; rfl))); have HNB275_go51 := am (show z ≠ Y from (by have h_ := Kd.R_ne hraw95 U.out (by decide); intro e_; exact h_ (by rw [e_]; rfl))); have HS95 := fJ.1; rw [← co.out] at HS95; have HQ95 := am HS95; obtain ⟨_, hgg95⟩ := Kd.R_typed hraw95 Y rfl; have iQ := am hgg95; clear fJ HS95 hgg95; refine hK.out _ _ ⟨bc B 0, bc B 1, bc B 2, bc B 3, bc B 4, bc B 5, HS6_, HS7_, HS8_, HS9_, HS10_, HS11_⟩ (fun aa => ?_); clear hK K; refine norm_ (a' := ?_) ?_ ?_; rotate_left
          ·show Act.put _ (some 90) _ = _; simp only [Act.put, List.setIfInBounds_toArray, List.set_cons_zero, List.set_cons_succ, i64_w, i32_w]; rfl
          refine pu_ 9 91 ac ?_; refine pu_ 10 92 ac ?_; refine last_ (i := 11) (N := none) #[true, true, true, true, true, true, true, true, true, true, true, true] rfl rfl (one_of ac.out gk_) (by decide) (fun K hK => ?_); refine skip_ (w1 := ?_) (by rfl) rfl ?_ ?_; rotate_left
          ·go_simp; rfl
          refine hK.out _ _ ?_; clear hK K; refine done_ (done_of ac.out gk_) ?_
          go_upto_region 15 with (fail)
          go_cut [102] (fun iy wc => ∃ (kq : Nat) (eb : Bool), iy = .bool eb ∧ Aside0 (impl_JoinBits.j3 kq Z l eb ad ag ae ah ao al = some (r1, r2, r3, r4, r5, r6, r7, r8)) ∧ Aside0 (kq ≤ a0) ∧ Aside0 (KQ.S k52 52 wc w.heap.size (fun _ => True) (.slice (some ⟨Y, of51, none⟩) J.length ap) Z) ∧ Hc wc ai #[.int .i64 ad, .int .i64 ag, .int .i64 ae, .int .i64 ah, .bool ao, .string al] 44 ∧ Hc wc z #[.int .i64 0, .int .i64 0, .int .i64 0, .int .i64 0, .bool false, .string (⟨#[]⟩ : ByteArray)] 44 ∧ Hb w wc)
          case first =>
           have H := ez.out; clear ez
           by_cases d0 : ao = true
           ·subst d0; rw [if_pos rfl] at H
            have H' := am H
            clear H; have kR := D.out; have hgo99 := HNB274_go51.out; have hgp99 := HNB274_go51.out.symm; have hgq99 := HNB275_go51.out; have hgr99 := HNB275_go51.out.symm; have k3 := av.out; obtain ⟨me, mf, mg, mh, mi, mj, nI, nJ, nK, nL, nM, nN⟩ := cf6 B
            go_wp2
            go_meet
            case rel => exact ⟨_, false, be_, H', ⟨B97x48_⟩, ⟨tsq HQ95.out⟩, ⟨tp1 B.out HNB274_go51.out⟩, ⟨tp1 U.out HNB275_go51.out⟩, ⟨te3 HB.out bW.out ar.out au.out⟩⟩
           ·replace d0 := Bool.eq_false_iff.mpr d0; subst d0; rw [if_neg (show ¬ (false = true) by decide)] at H
            have H' := am H
            clear H; have kG := D.out; have hgo101 := HNB274_go51.out; have hgp101 := HNB274_go51.out.symm; have hgq101 := HNB275_go51.out; have hgr101 := HNB275_go51.out.symm; have kS := av.out; obtain ⟨ml, mm, mo, mp, mq, mr, nO, nP, nQ, nR, nS, nT⟩ := cf6 B
            have fl : 0 ≤ (l : Int) := dga
            have fq : l < (Z.length : Int) := (by have h_ : (l : Int) < ((J.length : Int) : Int) := dga; first | (have e_ := (KQ.S_reads' M.out).1; omega) | simpa only [cn.out, co.out, List.length_set] using h_)
            have ql311 : ((l : Int) < ((J.length : Int) : Int)) = True := eq_true (dga)
            obtain ⟨hC, iN, jn, iO, jo, hT, eY, eZ, e0, e1, e2, e3, hl311_2, hi311_2, hl311_3, hi311_3⟩ := at_T52 (KQ.S_reads' HQ95.out).2.2 l fl fq; obtain rfl : (⟨Y, of51, none⟩ : Addr) = hC := (by injection hT)
            (first | simp only [add_plain] at eY | simp only [add_at] at eY | simp only [Addr.add, Nat.zero_add] at eY | skip)
            (first | simp only [add_plain] at eZ | simp only [add_at] at eZ | simp only [Addr.add, Nat.zero_add] at eZ | skip)
            (first | simp only [add_plain] at e0 | simp only [add_at] at e0 | simp only [Addr.add, Nat.zero_add] at e0 | skip)
            (first | simp only [add_plain] at e1 | simp only [add_at] at e1 | simp only [Addr.add, Nat.zero_add] at e1 | skip)
            (first | simp only [add_plain] at e2 | simp only [add_at] at e2 | simp only [Addr.add, Nat.zero_add] at e2 | skip)
            (first | simp only [add_plain] at e3 | simp only [add_at] at e3 | simp only [Addr.add, Nat.zero_add] at e3 | skip)
            have iX := am hl311_2; clear hi311_2 hl311_2; have iY := am hl311_3; clear hi311_3 hl311_3; replace fl := eq_true fl; replace fq := eq_true fq
            go_wp2
            go_meet
            case rel => exact ⟨_, ((((rd_T52 Z l).f4) == 0)), (by rw [show (rd_T52 Z l).f4 = (rd_T52 af l).f4 from (by rw [co.out]; unfold rd_T52; by_cases hh_ : (l : Int).toNat < af.length; (rw [List.getD_eq_getElem?_getD, List.getElem?_set_self hh_]; try rfl); (rw [List.set_eq_of_length_le (Nat.le_of_not_lt hh_)]))]; first | done | exact be_), H', ⟨B97x48_⟩, ⟨tsq HQ95.out⟩, ⟨tp1 B.out HNB274_go51.out⟩, ⟨tp1 U.out HNB275_go51.out⟩, ⟨te3 HB.out bW.out ar.out au.out⟩⟩
          case rest =>
           clear ez
           try clear cq
           try clear dk
           try clear d6
           try clear d8
           try clear dl
           try clear d7
           try clear d9
           try clear cw
           try clear cx
           try clear bN
           try clear bO
           try clear cy
           try clear cz
           try clear cA
           try clear cB
           try clear bP
           try clear bQ
           try clear cC
           try clear cD
           try clear gx
           try clear gy
           try clear dy
           try clear dz
           try clear d6
           try clear d7
           try clear dB
           try clear dC
           try clear d8
           try clear d9
           obtain ⟨kq, eb, rfl, HA, i3, M, B, U, HB⟩ := hcut; have hl9_82 := (KQ.S_reads' M.out).1; rw [hl9_82] at M; (try simp only [hl9_82]); (try simp only [hl9_82] at B); (try simp only [hl9_82] at U)
           cases kq with
           | zero => exact absurd HA.out (by simp [impl_JoinBits.j3])
           | succ dx =>
            have H := HA.out; clear HA; simp only [impl_JoinBits.j3] at H
            by_cases dM : eb = true
            ·subst dM; rw [if_pos rfl] at H
             by_cases dN : 0 ≤ l
             rotate_left
             ·rw [if_neg dN] at H; exact absurd H (by simp)
             rw [if_pos dN] at H; have i4 := decide_eq_true dN; clear dN
             by_cases dO : l < (Z.length : Int)
             rotate_left
             ·rw [if_neg dO] at H; exact absurd H (by simp)
             rw [if_pos dO] at H; have i5 := decide_eq_true dO; clear dO; obtain ⟨ak, fd⟩ : ∃ y_ : List (S52), y_ = (Z.set (l : Int).toNat (⟨(rd_T52 Z l).f0, (rd_T52 Z l).f1, (rd_T52 Z l).f2, (rd_T52 Z l).f3, wrap64 (ah + (al.size : Int)), (rd_T52 Z l).f5⟩ : S52)) := ⟨_, rfl⟩
             replace H : ((impl_whole.f dx ((rd_T52 ak l).f0) ((rd_T52 ak l).f1) ((rd_T52 ak l).f2) ((rd_T52 ak l).f3) ((rd_T52 ak l).f4) ((rd_T52 ak l).f5)).bind fun cW => (if cW.2 = true then (if l ≤ (Z.length : Int) then (if 0 ≤ (wrap64 (l + 1)) then (if (wrap64 (l + 1)) ≤ (Z.length : Int) then (some ((ak.eraseIdx (l : Int).toNat), ad, ag, ae, 0, false, cW.1, true)) else (none)) else (none)) else (none)) else (some (ak, 0, 0, 0, 0, false, (⟨#[]⟩ : ByteArray), false)))) = some (r1, r2, r3, r4, r5, r6, r7, r8) := hr fd H
             have b1 := am fd; clear fd; replace H := bsi H; obtain ⟨⟨bT, iv⟩, ei, H⟩ := H; (try dsimp only at H)
             by_cases dP : iv = true
             ·subst dP; rw [if_pos rfl] at H; have i6 := eq_true (dga : 0 ≤ l)
              by_cases cX : l ≤ (Z.length : Int)
              rotate_left
              ·rw [if_neg cX] at H; exact absurd H (by simp)
              rw [if_pos cX] at H; have i7 := eq_true cX; have i9 := decide_eq_true cX; clear cX; obtain ⟨eg, fe⟩ : ∃ y_ : List (S52), y_ = (ak.take (l : Int).toNat) := ⟨_, rfl⟩
              replace H : (if 0 ≤ (wrap64 (l + 1)) then (if (wrap64 (l + 1)) ≤ (Z.length : Int) then (some ((ak.eraseIdx (l : Int).toNat), ad, ag, ae, 0, false, bT, true)) else (none)) else (none)) = some (r1, r2, r3, r4, r5, r6, r7, r8) := hr fe H
              have fP := am fe; clear fe; obtain ⟨aD, cu⟩ : ∃ j_ : Int, (wrap64 (l + 1)) = j_ := ⟨_, rfl⟩
              replace H : (if 0 ≤ (aD) then (if (aD) ≤ (Z.length : Int) then (some ((ak.eraseIdx (l : Int).toNat), ad, ag, ae, 0, false, bT, true)) else (none)) else (none)) = some (r1, r2, r3, r4, r5, r6, r7, r8) := by first | (rw [cu] at H; exact H) | (simp only [cu] at H ⊢; exact H)
              (try rw [cu] at ei)
              have kc : (IntKind.i64.wrap (l + 1)) = aD := (i64_w _).trans cu
              by_cases cY : 0 ≤ (aD)
              rotate_left
              ·rw [if_neg cY] at H; exact absurd H (by simp)
              rw [if_pos cY] at H; have ja := eq_true cY; have jb := decide_eq_true cY; clear cY
              by_cases cZ : (aD) ≤ (Z.length : Int)
              rotate_left
              ·rw [if_neg cZ] at H; exact absurd H (by simp)
              rw [if_pos cZ] at H; have jc := eq_true cZ; have jd := decide_eq_true cZ; clear cZ; obtain ⟨dH, ff⟩ : ∃ y_ : List (S52), y_ = (ak.drop ((aD) : Int).toNat) := ⟨_, rfl⟩
              replace H : (some ((ak.eraseIdx (l : Int).toNat), ad, ag, ae, 0, false, bT, true)) = some (r1, r2, r3, r4, r5, r6, r7, r8) := hr ff H
              have fQ := am ff; clear ff; obtain ⟨gG, fg⟩ : ∃ y_ : List (S52), y_ = (ak.eraseIdx (l : Int).toNat) := ⟨_, rfl⟩
              replace H : (some (gG, ad, ag, ae, 0, false, bT, true)) = some (r1, r2, r3, r4, r5, r6, r7, r8) := hr fg H
              have hv := am fg; clear fg; simp only [Option.some.injEq, Prod.mk.injEq] at H; obtain ⟨rfl, rfl, rfl, rfl, rfl, rfl, rfl, rfl⟩ := H; have kH := D.out; have hgo114 := HNB274_go51.out; have hgp114 := HNB274_go51.out.symm; have hgq114 := HNB275_go51.out; have hgr114 := HNB275_go51.out.symm; have kT := av.out; obtain ⟨ms, mt, mw, my, mz, mB, nU, nV, nW, nX, nY, nZ⟩ := cf6 B
              have cj : 0 ≤ (l : Int) := dga
              have ck : (l : Int) < ((Z.length : Int) : Int) := dga
              obtain ⟨_, hM, eU, dq, aV, aW, _, _⟩ := KQ.S_elem M.out z52 (l : Int) cj ck; obtain ⟨ve106_2, ve106_3, rfl, ge106_2, ge106_3⟩ := k52_openM dq
              have ie : wc.cell? ⟨Y, of51 + (l : Int).toNat * 6, none⟩ = some (.int .i64 ((rd_T52 Z l).f0)) := aV 0 _ rfl
              have ig : wc.cell? ⟨Y, of51 + (l : Int).toNat * 6 + 1, none⟩ = some (.int .i64 ((rd_T52 Z l).f1)) := aV 1 _ rfl
              have ih : wc.cell? ⟨Y, of51 + (l : Int).toNat * 6 + 2, none⟩ = some (ve106_2) := aV 2 _ rfl
              have ii : wc.cell? ⟨Y, of51 + (l : Int).toNat * 6 + 3, none⟩ = some (ve106_3) := aV 3 _ rfl
              have ij : wc.cell? ⟨Y, of51 + (l : Int).toNat * 6 + 4, none⟩ = some (.int .i64 ((rd_T52 Z l).f4)) := aV 4 _ rfl
              have ik : wc.cell? ⟨Y, of51 + (l : Int).toNat * 6 + 5, none⟩ = some (.int .i64 ((rd_T52 Z l).f5)) := aV 5 _ rfl
              have h2 : wc.frozen? ⟨Y, of51 + (l : Int).toNat * 6, none⟩ = false := aW 0
              have h3 : wc.frozen? ⟨Y, of51 + (l : Int).toNat * 6 + 1, none⟩ = false := aW 1
              have h4 : wc.frozen? ⟨Y, of51 + (l : Int).toNat * 6 + 2, none⟩ = false := aW 2
              have h5 : wc.frozen? ⟨Y, of51 + (l : Int).toNat * 6 + 3, none⟩ = false := aW 3
              have h6 : wc.frozen? ⟨Y, of51 + (l : Int).toNat * 6 + 4, none⟩ = false := aW 4
              have h7 : wc.frozen? ⟨Y, of51 + (l : Int).toNat * 6 + 5, none⟩ = false := aW 5
              clear eU aV aW dq; replace cj := eq_true cj; replace ck := eq_true ck; have ha := am (show KQ.S k52 52 wc w.heap.size (fun k_ => ((fun _ => True)) k_ ∧ ¬ ((fun _ => False)) k_) (.slice (some ⟨Y, of51, none⟩) Z.length ap) Z from B96x26_); obtain ⟨oki116, jA, hY, f0, f3, gj, hoki116, hH116⟩ := KQ.S_elem ha.out z52 (l : Int) (dga) (by have h_ : (l : Int) < ((Z.length : Int) : Int) := dga; first | exact h_ | (have e_ := (KQ.S_reads' M.out).1; omega) | simpa using h_); obtain ⟨ve116_2, ve116_3, rfl, ge116_2, ge116_3⟩ := k52_openM f0; have eD := KQ.S_seg hH116 (dga) (by have h_ : (l : Int) < ((Z.length : Int) : Int) := dga; first | exact h_ | (have e_ := (KQ.S_reads' M.out).1; omega) | simpa using h_) (seg := [.int .i64 (wrap64 (ah + (al.size : Int)))]) (j := 4) (show 5 ≤ 6 from (by decide)) (x' := (⟨(rd_T52 Z l).f0, (rd_T52 Z l).f1, (rd_T52 Z l).f2, (rd_T52 Z l).f3, wrap64 (ah + (al.size : Int)), (rd_T52 Z l).f5⟩ : S52)) (k52_mkM _ _ _ (⟨(rd_T52 Z l).f0, (rd_T52 Z l).f1, (rd_T52 Z l).f2, (rd_T52 Z l).f3, wrap64 (ah + (al.size : Int)), (rd_T52 Z l).f5⟩ : S52) (Kd.R_mono ge116_2 (fun _ h_ => Or.inl h_)) (Kd.R_mono ge116_3 (fun _ h_ => Or.inl h_))) (fun _ hk => hk) (fun k_ hk_ => hk_.elim); have il := f3 4 _ rfl; (try simp only [show (k52).sz = 6 from rfl, Nat.mul_one, Nat.add_zero] at il); have h8 := gj 4; (try simp only [show (k52).sz = 6 from rfl, Nat.mul_one, Nat.add_zero] at h8); clear hY f3 gj f0 hoki116 hH116
              try go_wp2_with (first | ((with_reducible refine gate_store (t := 3) (p := 111) rfl ?_); refine store_event (t := 3) (p := 111) (v := ?vo_w117) (w1 := (wc.setCell ⟨Y, of51 + (l : Int).toNat * 6 + 4, none⟩ (.int .i64 (wrap64 (ah + (al.size : Int)))))) ?hg ?ho ?hn ?hr ?_; (case ho => rfl); (case hg => rfl); (case hn => rfl); (case hr => exact gs_); intro fv hw; have hg : wc.grownBy fv (some Y) := (by rw [hw]; exact eD.2); have hp_ : KQ.S k52 52 fv w.heap.size (fun _ => True) (.slice (some ⟨Y, of51, none⟩) Z.length ap) ak := (by rw [hw, b1.out]; exact eD.1); clear eD; replace B := bg B hg (KQ.S_ne M.out B.out (by decide)); replace U := bg U hg (KQ.S_ne M.out U.out (by decide)); replace M := am hp_; replace HB := am (by rw [hw]; exact below_set (HB.out) bW.out : Below w.heap.size w fv); clear hg hw hp_; have bB : 0 ≤ (l : Int) := dga; have bE : l < (ak.length : Int) := (by have h_ : (l : Int) < ((Z.length : Int) : Int) := dga; first | (have e_ := (KQ.S_reads' M.out).1; omega) | simpa only [b1.out, List.length_set] using h_); have ql313 : ((l : Int) < ((Z.length : Int) : Int)) = True := eq_true (dga); obtain ⟨eG, ek, eI, el, eJ, eN, ca, cc, br, bu, cd, ce, hl313_2, hi313_2, hl313_3, hi313_3⟩ := at_T52 (KQ.S_reads' M.out).2.2 l bB bE; obtain rfl : (⟨Y, of51, none⟩ : Addr) = eG := (by injection eN); obtain ⟨hO, hce313, hMe313, b3⟩ := KQ.S_get M.out z52 l bB B96x46_; obtain ⟨ve313_2, ve313_3, rfl, ge313_2, ge313_3⟩ := k52_openM hMe313; have hv313_2 := b3 2 _ rfl; rw [add_field _ _ 2 (by omega)] at hv313_2; replace hv313_2 := Option.some.inj (hv313_2.symm.trans br); rw [hv313_2] at ge313_2; have cR := am (show Kd.R Kd.string 9 _ _ _ _ ((rd_T52 ak l).f2) from ge313_2); clear hv313_2 ge313_2; have hv313_3 := b3 3 _ rfl; rw [add_field _ _ 3 (by omega)] at hv313_3; replace hv313_3 := Option.some.inj (hv313_3.symm.trans bu); rw [hv313_3] at ge313_3; have cS := am (show Kd.R (Kd.int .i64) 3 _ _ _ _ ((rd_T52 ak l).f3) from ge313_3); clear hv313_3 ge313_3; clear b3 hce313; (first | simp only [add_plain] at ca | simp only [add_at] at ca | simp only [Addr.add, Nat.zero_add] at ca | skip); (first | simp only [add_plain] at cc | simp only [add_at] at cc | simp only [Addr.add, Nat.zero_add] at cc | skip); (first | simp only [add_plain] at br | simp only [add_at] at br | simp only [Addr.add, Nat.zero_add] at br | skip); (first | simp only [add_plain] at bu | simp only [add_at] at bu | simp only [Addr.add, Nat.zero_add] at bu | skip); (first | simp only [add_plain] at cd | simp only [add_at] at cd | simp only [Addr.add, Nat.zero_add] at cd | skip); (first | simp only [add_plain] at ce | simp only [add_at] at ce | simp only [Addr.add, Nat.zero_add] at ce | skip); have bl := am hi313_2; have et := am hl313_2; clear hi313_2 hl313_2; have bm := am hi313_3; have eu := am hl313_3; clear hi313_3 hl313_3; replace bB := eq_true bB; replace bE := eq_true bE) | ((with_reducible refine gate_callee (f := 53) rfl ?_); refine gL (some 116) Try.func53 #[.agg #[.int .i64 ((rd_T52 ak l).f0), .int .i64 ((rd_T52 ak l).f1), .slice ek ((rd_T52 ak l).f2).length eI, .slice el ((rd_T52 ak l).f3).length eJ, .int .i64 ((rd_T52 ak l).f4), .int .i64 ((rd_T52 ak l).f5)]] ?_; (with_reducible refine (impl_whole.calls dx ((rd_T52 ak l).f0) ((rd_T52 ak l).f1) _ _ ((rd_T52 ak l).f2) _ _ ((rd_T52 ak l).f3) ((rd_T52 ak l).f4) ((rd_T52 ak l).f5) bT true _ ?z1 ?z2 ?z3 ?z4 ei.out).mono ?_); (case z1 => exact (tc (td bl.out))); (case z2 => exact et.out); (case z3 => exact (tc (td bm.out))); (case z4 => exact eu.out); rintro e iB ⟨rfl, hb⟩; refine ⟨_, rfl, ?_⟩; replace M := am (KQ.S_below (tsq M.out) hb); replace cR := rA cR hb; replace cS := rA cS hb; replace B := bA B hb; replace U := bA U hb; replace bl := am (cb bl.out hb); replace bm := am (cb bm.out hb); replace HB := am (below_step (te2 HB.out ar.out au.out) hb)))
              replace M := am (KQ.S_drew M.out); replace cR := eA cR; replace cS := eA cS; replace B := dA B; replace U := dA U; replace bl := am (Kd.C_drew bl.out); replace bm := am (Kd.C_drew bm.out); replace HB := bdr HB; have hlx120 := (KQ.S_reads' M.out).1
              have fm : (l : Int) ≤ ((Z.length : Int) : Int) := dga
              obtain ⟨i0120, hi0120, _, hsz120, _⟩ := info_parts info52
              have hroom120 : Z.length ≤ ap := (KQ.S_reads' M.out).2.1
              have hroomc120 : ak.length ≤ ap := (by rw [← hlx120]; exact hroom120)
              have hC120 : Kd.C k52 _ (some ⟨Y, of51, none⟩) ak.length ak := (KQ.S_reads' M.out).2.2
              have hcut120 := cut_to (P := Try.prog) 24 52 .i64 Try.underlying24 hi0120 (some ⟨Y, of51, none⟩) Z.length ap l (dga) fm hroom120; have eV := Kd.C_take (m := (l : Int).toNat) hC120 (by omega)
              have e4 : eg.length = (l : Int).toNat := (by rw [fP.out, List.length_take]; omega)
              rw [← fP.out] at eV; rw [← e4] at hcut120; have g6 := am eV; have iZ := am (show eg.length ≤ ap from (by omega)); clear eV hC120 hroom120 hi0120 hsz120 hroomc120; have KY120 := am e4; clear e4; have KE120 := am hlx120; have KL120 := am (show (l : Int).toNat ≤ ak.length from (by omega)); clear hlx120; replace fm := eq_true fm; have hlx121 := (KQ.S_reads' M.out).1
              have fn : ((aD) : Int) ≤ ((Z.length : Int) : Int) := dga
              obtain ⟨i0121, hi0121, _, hsz121, _⟩ := info_parts info52
              have hroom121 : Z.length ≤ ap := (KQ.S_reads' M.out).2.1
              have hroomc121 : ak.length ≤ ap := (by rw [← hlx121]; exact hroom121)
              have hC121 : Kd.C k52 _ (some ⟨Y, of51, none⟩) ak.length ak := (KQ.S_reads' M.out).2.2
              have ip : (0 : Int) ≤ ((aD) : Int) := dga
              have hcut121 := cut_from (P := Try.prog) 24 52 .i64 Try.underlying24 hi0121 6 hsz121 (some ⟨Y, of51, none⟩) Z.length ap (aD) ip fn; have du := Kd.C_drop (m := ((aD) : Int).toNat) (c := ap) hC121 (by omega) hroomc121; obtain ⟨gJ, hA121⟩ : ∃ A1, A1 = (if ap = ((aD) : Int).toNat then (some ⟨Y, of51, none⟩) else ((some ⟨Y, of51, none⟩) : Option Addr).map (·.add (((aD) : Int).toNat * 6))) := ⟨_, rfl⟩; obtain ⟨hD, eP⟩ : ∃ c1, c1 = ap - ((aD) : Int).toNat := ⟨_, rfl⟩
              have d1 : dH.length = Z.length - ((aD) : Int).toNat := (by rw [fQ.out, List.length_drop] <;> omega)
              rw [show (ak).drop ((aD) : Int).toNat = dH from fQ.out.symm] at du
              replace du : Kd.C k52 _ gJ dH.length dH := (by rw [hA121]; exact du)
              rw [← d1, ← hA121, ← eP] at hcut121; have g7 := am du; have i0 := am (show dH.length ≤ hD from (by rw [d1, eP]; exact Nat.sub_le_sub_right hroom121 _)); clear du hC121 hroom121 hi0121 hsz121 eP hroomc121; have KY121 := am d1; have KA121 := am hA121; clear d1 hA121; have KE121 := am hlx121; have KL121 := am (show ((aD) : Int).toNat ≤ ak.length from (by omega)); clear hlx121; replace fn := eq_true fn; refine st_ 19 (fun w' => w'.cell? ⟨ai, 0, none⟩ = some (.int .i64 ad) ∧ w'.cell? ⟨ai, 1, none⟩ = some (.int .i64 ag) ∧ w'.cell? ⟨ai, 2, none⟩ = some (.int .i64 ae) ∧ w'.cell? ⟨ai, 3, none⟩ = some (.int .i64 ah) ∧ w'.cell? ⟨ai, 4, none⟩ = some (.bool ao) ∧ w'.cell? ⟨ai, 5, none⟩ = some (.string al)) [] impl_JoinBits.tab20 impl_JoinBits.bits20 D8x0_ (fun aa ac aw => ?_); generalize iB.drew = l4 at M cR cS B U bl bm HB g6 g7 aa ⊢; refine pu_ 0 123 ac ?_; refine pu_ 1 124 ac ?_; refine pu_ 2 125 ac ?_; refine pu_ 3 126 ac ?_; refine pu_ 4 127 ac ?_; refine pu_ 5 128 ac ?_; refine pu_ 6 129 ac ?_; refine pu_ 8 131 ac ?_; refine pu_ 10 133 ac ?_; refine pu_ 12 135 ac ?_; refine pu_ 14 137 ac ?_; refine ta_ 9 132 ac aw aa ?_; refine ta_ 11 134 ac aw aa ?_; refine ta_ 13 136 ac aw aa ?_; refine pu_ 15 138 ac ?_; refine on_ 7 (some 130) ac (fun K hK => ?_)
              have hj_ : 0 ≤ (l : Int) := dga
              have hl_ : (aD : Int) ≤ (Z.length : Int) := dga
              have hh_ : (l : Int) ≤ (Z.length : Int) := dga
              have hb_ := (KQ.S_reads' M.out).2.2.2.1
              have bL : (0 : Int) ≤ (aD : Int) := dga
              have bR := KY120.out
              have hk_ : (aD : Int).toNat = eg.length + 1 := (by (try (have hsy305_ := congrArg List.length cn.out; rw [List.length_set] at hsy305_)); (try (have hsy310_ := congrArg List.length co.out; rw [List.length_set] at hsy310_)); (try (have hsy312_ := congrArg List.length b1.out; rw [List.length_set] at hsy312_)); have hw_ : (aD : Int) = l + 1 := (by have bK := bL; rw [← cu] at bK ⊢; unfold wrap64 at bK ⊢; omega); rw [hw_]; omega)
              refine KQ.S_delete_step k52 (w0 := w) w.heap.size (by rfl) (.tmp 125) (.tmp 129) 24 52 rfl Try.underlying24 gk_ (g := Y) (n := Z.length) (c := ap) (k := eg.length) rfl rfl ?hA ?hm (tsq M.out) ?hk (te2 HB.out ar.out au.out) (below_size (te2 HB.out ar.out au.out)) ?_
              (case hA => have ha_ := KA121.out; rw [hk_] at ha_; exact ha_)
              (case hm => have ha_ := KY121.out; omega)
              (case hk => omega)
              intro cK ho hb hg; clear hj_ hl_ hh_ hb_ hk_ bL; rw [bR, ← hv.out] at ho; clear bR
              have hn_ : Z.length - 1 = gG.length := B96x50_
              rw [hn_] at ho ⊢; clear hn_; replace B := bg B hg (KQ.S_ne M.out B.out (by decide)); replace U := bg U hg (KQ.S_ne M.out U.out (by decide)); replace M := am ho; replace HB := am hb; clear ho hb hg; refine hK.out _ _ D8x0_ (fun aa => ?_); clear hK K; refine norm_ (a' := ?_) ?_ ?_; rotate_left
              ·show Act.put _ (some 130) _ = _; simp only [Act.put, List.setIfInBounds_toArray, List.set_cons_zero, List.set_cons_succ, i64_w, i32_w]; rfl
              refine pu_ 16 6 ac ?_; refine on_ 17 none ac (fun K hK => ?_)
              have lw : cK.cell? ⟨z, 0, none⟩ = some (.int .i64 0) := bc U 0
              have jG := blk_frozen U.out 0; have k4 := D.out; have kg := av.out
              have lx : cK.cell? ⟨z, 1, none⟩ = some (.int .i64 0) := bc U 1
              have jH := blk_frozen U.out 1; have k5 := D.out; have kh := av.out
              have ly : cK.cell? ⟨z, 2, none⟩ = some (.int .i64 0) := bc U 2
              have jI := blk_frozen U.out 2; have k6 := D.out; have ki := av.out
              have lz : cK.cell? ⟨z, 3, none⟩ = some (.int .i64 0) := bc U 3
              have jJ := blk_frozen U.out 3; have k7 := D.out; have kj := av.out
              have lA : cK.cell? ⟨z, 4, none⟩ = some (.bool false) := bc U 4
              have jK := blk_frozen U.out 4; have k8 := D.out; have kk := av.out
              have lB : cK.cell? ⟨z, 5, none⟩ = some (.string (⟨#[]⟩ : ByteArray)) := bc U 5
              have jL := blk_frozen U.out 5; have k9 := D.out; have kl := av.out; refine skip_ (w1 := ?_) (by rfl) rfl ?_ ?_; rotate_left
              ·go_simp; rfl
              refine hK.out _ _ ⟨((cell_far (p := ⟨z, _, none⟩) D.out _).trans (((cell_far (p := ⟨z, _, none⟩) D.out _).trans (((cell_far (p := ⟨z, _, none⟩) D.out _).trans (((cell_far (p := ⟨z, _, none⟩) D.out _).trans (((cell_far (p := ⟨z, _, none⟩) D.out _).trans (((cell_far (p := ⟨z, _, none⟩) D.out _).trans (aa.1)))))))))))), ((cell_far (p := ⟨z, _, none⟩) D.out _).trans (((cell_far (p := ⟨z, _, none⟩) D.out _).trans (((cell_far (p := ⟨z, _, none⟩) D.out _).trans (((cell_far (p := ⟨z, _, none⟩) D.out _).trans (((cell_far (p := ⟨z, _, none⟩) D.out _).trans (((cell_far (p := ⟨z, _, none⟩) D.out _).trans (aa.2.1)))))))))))), ((cell_far (p := ⟨z, _, none⟩) D.out _).trans (((cell_far (p := ⟨z, _, none⟩) D.out _).trans (((cell_far (p := ⟨z, _, none⟩) D.out _).trans (((cell_far (p := ⟨z, _, none⟩) D.out _).trans (((cell_far (p := ⟨z, _, none⟩) D.out _).trans (((cell_far (p := ⟨z, _, none⟩) D.out _).trans (aa.2.2.1)))))))))))), ((cell_far (p := ⟨z, _, none⟩) D.out _).trans (((cell_far (p := ⟨z, _, none⟩) D.out _).trans (((cell_far (p := ⟨z, _, none⟩) D.out _).trans (((cell_far (p := ⟨z, _, none⟩) D.out _).trans (((cell_far (p := ⟨z, _, none⟩) D.out _).trans (((cell_far (p := ⟨z, _, none⟩) D.out _).trans (aa.2.2.2.1)))))))))))), ((cell_far (p := ⟨z, _, none⟩) D.out _).trans (((cell_far (p := ⟨z, _, none⟩) D.out _).trans (((cell_far (p := ⟨z, _, none⟩) D.out _).trans (((cell_far (p := ⟨z, _, none⟩) D.out _).trans (((cell_far (p := ⟨z, _, none⟩) D.out _).trans (((cell_far (p := ⟨z, _, none⟩) D.out _).trans (aa.2.2.2.2.1)))))))))))), ((cell_far (p := ⟨z, _, none⟩) D.out _).trans (((cell_far (p := ⟨z, _, none⟩) D.out _).trans (((cell_far (p := ⟨z, _, none⟩) D.out _).trans (((cell_far (p := ⟨z, _, none⟩) D.out _).trans (((cell_far (p := ⟨z, _, none⟩) D.out _).trans (((cell_far (p := ⟨z, _, none⟩) D.out _).trans (aa.2.2.2.2.2))))))))))))⟩ (fun aa => ?_); clear hK K; refine pu_ 18 8 ac ?_; refine done_ (done_of ac.out gk_) ?_
              try go_wp2
              refine bodyPost_ret (results_list (rs := [.tmp 6, .cell 7 44, .tmp 8]) rfl (by simp) (.tmp (.cell z 44 #[.int .i64 ad, .int .i64 ag, .int .i64 ae, .int .i64 0, .bool false, .string bT] (0, 0) _ rfl (tp0 U.out) Try.underlying44 rfl gk_ (.tmp .nil)))) rfl ?_
              exact ⟨_, (by first | rfl | (simp [errW_none, errW_some] <;> rfl) | (simp only [← cu]; first | rfl | (simp [errW_none, errW_some] <;> rfl)) | (simp [*, errW_none, errW_some] <;> rfl)), (by (with_reducible repeat (first | apply KQ.S_alloc | apply KQ.S_drewN | apply KQ.S_drew)); exact KQ.S_mono (KQ.S_far (p := ⟨z, 5, none⟩) (KQ.S_far (p := ⟨z, 4, none⟩) (KQ.S_far (p := ⟨z, 3, none⟩) (KQ.S_far (p := ⟨z, 2, none⟩) (KQ.S_far (p := ⟨z, 1, none⟩) (KQ.S_far (p := ⟨z, 0, none⟩) (KQ.S_types M.out U.out (by decide)) (fun _ hk => hk.2) (.int .i64 ad)) (fun _ hk => hk.2) (.int .i64 ag)) (fun _ hk => hk.2) (.int .i64 ae)) (fun _ hk => hk.2) (.int .i64 0)) (fun _ hk => hk.2) (.bool false)) (fun _ hk => hk.2) (.string bT)) (fun _ hk => trivial)), (te2 HB.out ar.out au.out)⟩
             ·replace dP := Bool.eq_false_iff.mpr dP; subst dP; rw [if_neg (show ¬ (false = true) by decide)] at H; simp only [Option.some.injEq, Prod.mk.injEq] at H; obtain ⟨rfl, rfl, rfl, rfl, rfl, rfl, rfl, rfl⟩ := H; have kJ := D.out; have hgo130 := HNB274_go51.out; have hgp130 := HNB274_go51.out.symm; have hgq130 := HNB275_go51.out; have hgr130 := HNB275_go51.out.symm; have kV := av.out; obtain ⟨mC, mD, mE, mF, mG, mH, n0, n1, n2, n3, oa, ob⟩ := cf6 B
              have cj : 0 ≤ (l : Int) := dga
              have ck : (l : Int) < ((Z.length : Int) : Int) := dga
              obtain ⟨_, hM, eU, dq, aV, aW, _, _⟩ := KQ.S_elem M.out z52 (l : Int) cj ck; obtain ⟨ve106_2, ve106_3, rfl, ge106_2, ge106_3⟩ := k52_openM dq
              have ie : wc.cell? ⟨Y, of51 + (l : Int).toNat * 6, none⟩ = some (.int .i64 ((rd_T52 Z l).f0)) := aV 0 _ rfl
              have ig : wc.cell? ⟨Y, of51 + (l : Int).toNat * 6 + 1, none⟩ = some (.int .i64 ((rd_T52 Z l).f1)) := aV 1 _ rfl
              have ih : wc.cell? ⟨Y, of51 + (l : Int).toNat * 6 + 2, none⟩ = some (ve106_2) := aV 2 _ rfl
              have ii : wc.cell? ⟨Y, of51 + (l : Int).toNat * 6 + 3, none⟩ = some (ve106_3) := aV 3 _ rfl
              have ij : wc.cell? ⟨Y, of51 + (l : Int).toNat * 6 + 4, none⟩ = some (.int .i64 ((rd_T52 Z l).f4)) := aV 4 _ rfl
              have ik : wc.cell? ⟨Y, of51 + (l : Int).toNat * 6 + 5, none⟩ = some (.int .i64 ((rd_T52 Z l).f5)) := aV 5 _ rfl
              have h2 : wc.frozen? ⟨Y, of51 + (l : Int).toNat * 6, none⟩ = false := aW 0
              have h3 : wc.frozen? ⟨Y, of51 + (l : Int).toNat * 6 + 1, none⟩ = false := aW 1
              have h4 : wc.frozen? ⟨Y, of51 + (l : Int).toNat * 6 + 2, none⟩ = false := aW 2
              have h5 : wc.frozen? ⟨Y, of51 + (l : Int).toNat * 6 + 3, none⟩ = false := aW 3
              have h6 : wc.frozen? ⟨Y, of51 + (l : Int).toNat * 6 + 4, none⟩ = false := aW 4
              have h7 : wc.frozen? ⟨Y, of51 + (l : Int).toNat * 6 + 5, none⟩ = false := aW 5
              clear eU aV aW dq; replace cj := eq_true cj; replace ck := eq_true ck; have he := am (show KQ.S k52 52 wc w.heap.size (fun k_ => ((fun _ => True)) k_ ∧ ¬ ((fun _ => False)) k_) (.slice (some ⟨Y, of51, none⟩) Z.length ap) Z from B96x26_); obtain ⟨oki132, jB, hZ, f1, f4, gl, hoki132, hH132⟩ := KQ.S_elem he.out z52 (l : Int) (dga) (by have h_ : (l : Int) < ((Z.length : Int) : Int) := dga; first | exact h_ | (have e_ := (KQ.S_reads' M.out).1; omega) | simpa using h_); obtain ⟨ve132_2, ve132_3, rfl, ge132_2, ge132_3⟩ := k52_openM f1; have eE := KQ.S_seg hH132 (dga) (by have h_ : (l : Int) < ((Z.length : Int) : Int) := dga; first | exact h_ | (have e_ := (KQ.S_reads' M.out).1; omega) | simpa using h_) (seg := [.int .i64 (wrap64 (ah + (al.size : Int)))]) (j := 4) (show 5 ≤ 6 from (by decide)) (x' := (⟨(rd_T52 Z l).f0, (rd_T52 Z l).f1, (rd_T52 Z l).f2, (rd_T52 Z l).f3, wrap64 (ah + (al.size : Int)), (rd_T52 Z l).f5⟩ : S52)) (k52_mkM _ _ _ (⟨(rd_T52 Z l).f0, (rd_T52 Z l).f1, (rd_T52 Z l).f2, (rd_T52 Z l).f3, wrap64 (ah + (al.size : Int)), (rd_T52 Z l).f5⟩ : S52) (Kd.R_mono ge132_2 (fun _ h_ => Or.inl h_)) (Kd.R_mono ge132_3 (fun _ h_ => Or.inl h_))) (fun _ hk => hk) (fun k_ hk_ => hk_.elim); have im := f4 4 _ rfl; (try simp only [show (k52).sz = 6 from rfl, Nat.mul_one, Nat.add_zero] at im); have h9 := gl 4; (try simp only [show (k52).sz = 6 from rfl, Nat.mul_one, Nat.add_zero] at h9); clear hZ f4 gl f1 hoki132 hH132
              go_wp2_with (first | ((with_reducible refine gate_store (t := 3) (p := 111) rfl ?_); refine store_event (t := 3) (p := 111) (v := ?vo_w133) (w1 := (wc.setCell ⟨Y, of51 + (l : Int).toNat * 6 + 4, none⟩ (.int .i64 (wrap64 (ah + (al.size : Int)))))) ?hg ?ho ?hn ?hr ?_; (case ho => rfl); (case hg => rfl); (case hn => rfl); (case hr => exact gs_); intro fw hw; have hg : wc.grownBy fw (some Y) := (by rw [hw]; exact eE.2); have hp_ : KQ.S k52 52 fw w.heap.size (fun _ => True) (.slice (some ⟨Y, of51, none⟩) Z.length ap) ak := (by rw [hw, b1.out]; exact eE.1); clear eE; replace U := bg U hg (KQ.S_ne M.out U.out (by decide)); replace M := am hp_; replace HB := am (by rw [hw]; exact below_set (HB.out) bW.out : Below w.heap.size w fw); clear hg hw hp_; have bB : 0 ≤ (l : Int) := dga; have bE : l < (ak.length : Int) := (by have h_ : (l : Int) < ((Z.length : Int) : Int) := dga; first | (have e_ := (KQ.S_reads' M.out).1; omega) | simpa only [b1.out, List.length_set] using h_); have ql313 : ((l : Int) < ((Z.length : Int) : Int)) = True := eq_true (dga); obtain ⟨eG, ek, eI, el, eJ, eN, ca, cc, br, bu, cd, ce, hl313_2, hi313_2, hl313_3, hi313_3⟩ := at_T52 (KQ.S_reads' M.out).2.2 l bB bE; obtain rfl : (⟨Y, of51, none⟩ : Addr) = eG := (by injection eN); obtain ⟨hO, hce313, hMe313, b3⟩ := KQ.S_get M.out z52 l bB B96x46_; obtain ⟨ve313_2, ve313_3, rfl, ge313_2, ge313_3⟩ := k52_openM hMe313; have hv313_2 := b3 2 _ rfl; rw [add_field _ _ 2 (by omega)] at hv313_2; replace hv313_2 := Option.some.inj (hv313_2.symm.trans br); rw [hv313_2] at ge313_2; clear hv313_2 ge313_2; have hv313_3 := b3 3 _ rfl; rw [add_field _ _ 3 (by omega)] at hv313_3; replace hv313_3 := Option.some.inj (hv313_3.symm.trans bu); rw [hv313_3] at ge313_3; clear hv313_3 ge313_3; clear b3 hce313; (first | simp only [add_plain] at ca | simp only [add_at] at ca | simp only [Addr.add, Nat.zero_add] at ca | skip); (first | simp only [add_plain] at cc | simp only [add_at] at cc | simp only [Addr.add, Nat.zero_add] at cc | skip); (first | simp only [add_plain] at br | simp only [add_at] at br | simp only [Addr.add, Nat.zero_add] at br | skip); (first | simp only [add_plain] at bu | simp only [add_at] at bu | simp only [Addr.add, Nat.zero_add] at bu | skip); (first | simp only [add_plain] at cd | simp only [add_at] at cd | simp only [Addr.add, Nat.zero_add] at cd | skip); (first | simp only [add_plain] at ce | simp only [add_at] at ce | simp only [Addr.add, Nat.zero_add] at ce | skip); have bl := am hi313_2; have et := am hl313_2; clear hi313_2 hl313_2; have bm := am hi313_3; have eu := am hl313_3; clear hi313_3 hl313_3; replace bB := eq_true bB; replace bE := eq_true bE) | ((with_reducible refine gate_callee (f := 53) rfl ?_); refine gL (some 116) Try.func53 #[.agg #[.int .i64 ((rd_T52 ak l).f0), .int .i64 ((rd_T52 ak l).f1), .slice ek ((rd_T52 ak l).f2).length eI, .slice el ((rd_T52 ak l).f3).length eJ, .int .i64 ((rd_T52 ak l).f4), .int .i64 ((rd_T52 ak l).f5)]] ?_; (with_reducible refine (impl_whole.calls dx ((rd_T52 ak l).f0) ((rd_T52 ak l).f1) _ _ ((rd_T52 ak l).f2) _ _ ((rd_T52 ak l).f3) ((rd_T52 ak l).f4) ((rd_T52 ak l).f5) bT false _ ?z1 ?z2 ?z3 ?z4 ei.out).mono ?_); (case z1 => exact (tc (td bl.out))); (case z2 => exact et.out); (case z3 => exact (tc (td bm.out))); (case z4 => exact eu.out); rintro e iC ⟨rfl, hb⟩; refine ⟨_, rfl, ?_⟩; replace M := am (KQ.S_below (tsq M.out) hb); replace U := bA U hb; replace bl := am (cb bl.out hb); replace bm := am (cb bm.out hb); replace HB := am (below_step (te2 HB.out ar.out au.out) hb); obtain ⟨mI, mJ, mK, mL, mM, mN, oc, od, oe, og, oh, oi⟩ := cf6 U) | ((with_reducible refine gate_store (t := 44) (p := 7) rfl ?_); refine store_event (t := 44) (p := 7) (v := ?vo_w136) (w1 := ((((((iC.setCell ⟨z, 0, none⟩ (.int .i64 0)).setCell ⟨z, 1, none⟩ (.int .i64 0)).setCell ⟨z, 2, none⟩ (.int .i64 0)).setCell ⟨z, 3, none⟩ (.int .i64 0)).setCell ⟨z, 4, none⟩ (.bool false)).setCell ⟨z, 5, none⟩ (.string (⟨#[]⟩ : ByteArray)))) ?hg ?ho ?hn ?hr ?_; (case ho => rfl); (case hg => rfl); (case hn => rfl); (case hr => exact gs_); intro fx hw; replace M : Aside0 (KQ.S k52 52 fx w.heap.size (fun _ => True) (.slice (some ⟨Y, of51, none⟩) Z.length ap) ak) := ⟨B96x5_⟩; replace U : Hc fx z #[.int .i64 0, .int .i64 0, .int .i64 0, .int .i64 0, .bool false, .string (⟨#[]⟩ : ByteArray)] 44 := ⟨B97x52_⟩; replace HB : Hb w fx := ⟨B97x51_⟩; clear hw))
              refine bodyPost_ret (results_list (rs := [.tmp 6, .cell 7 44, .tmp 8]) rfl (by simp) (.tmp (.cell z 44 #[.int .i64 0, .int .i64 0, .int .i64 0, .int .i64 0, .bool false, .string (⟨#[]⟩ : ByteArray)] (0, 0) _ rfl (tb U.out) Try.underlying44 rfl gk_ (.tmp .nil)))) rfl ?_; exact ⟨_, B97x24_, (tsq M.out), (te2 HB.out ar.out au.out)⟩
            ·replace dM := Bool.eq_false_iff.mpr dM; subst dM; rw [if_neg (show ¬ (false = true) by decide)] at H
             by_cases dQ : 0 ≤ l
             rotate_left
             ·rw [if_neg dQ] at H; exact absurd H (by simp)
             rw [if_pos dQ] at H; have je := decide_eq_true dQ; clear dQ
             by_cases dR : l < (Z.length : Int)
             rotate_left
             ·rw [if_neg dR] at H; exact absurd H (by simp)
             rw [if_pos dR] at H; have jf := decide_eq_true dR; clear dR; replace H := bsi H; obtain ⟨⟨bU, iw⟩, ej, H⟩ := H; (try dsimp only at H)
             by_cases dS : iw = true
             ·subst dS; rw [if_pos rfl] at H; have jg := eq_true (dga : 0 ≤ l)
              by_cases da : l ≤ (Z.length : Int)
              rotate_left
              ·rw [if_neg da] at H; exact absurd H (by simp)
              rw [if_pos da] at H; have jh := eq_true da; have ji := decide_eq_true da; clear da; obtain ⟨eh, fh⟩ : ∃ y_ : List (S52), y_ = (Z.take (l : Int).toNat) := ⟨_, rfl⟩
              replace H : (if 0 ≤ (wrap64 (l + 1)) then (if (wrap64 (l + 1)) ≤ (Z.length : Int) then (some ((Z.eraseIdx (l : Int).toNat), ad, ag, ae, 0, false, bU, true)) else (none)) else (none)) = some (r1, r2, r3, r4, r5, r6, r7, r8) := hr fh H
              have fR := am fh; clear fh; obtain ⟨aE, cv⟩ : ∃ j_ : Int, (wrap64 (l + 1)) = j_ := ⟨_, rfl⟩
              replace H : (if 0 ≤ (aE) then (if (aE) ≤ (Z.length : Int) then (some ((Z.eraseIdx (l : Int).toNat), ad, ag, ae, 0, false, bU, true)) else (none)) else (none)) = some (r1, r2, r3, r4, r5, r6, r7, r8) := by first | (rw [cv] at H; exact H) | (simp only [cv] at H ⊢; exact H)
              (try rw [cv] at ej)
              have kd : (IntKind.i64.wrap (l + 1)) = aE := (i64_w _).trans cv
              by_cases db : 0 ≤ (aE)
              rotate_left
              ·rw [if_neg db] at H; exact absurd H (by simp)
              rw [if_pos db] at H; have jj := eq_true db; have jk := decide_eq_true db; clear db
              by_cases dc : (aE) ≤ (Z.length : Int)
              rotate_left
              ·rw [if_neg dc] at H; exact absurd H (by simp)
              rw [if_pos dc] at H; have jl := eq_true dc; have jm := decide_eq_true dc; clear dc; obtain ⟨dI, fi⟩ : ∃ y_ : List (S52), y_ = (Z.drop ((aE) : Int).toNat) := ⟨_, rfl⟩
              replace H : (some ((Z.eraseIdx (l : Int).toNat), ad, ag, ae, 0, false, bU, true)) = some (r1, r2, r3, r4, r5, r6, r7, r8) := hr fi H
              have fS := am fi; clear fi; obtain ⟨gH, fj⟩ : ∃ y_ : List (S52), y_ = (Z.eraseIdx (l : Int).toNat) := ⟨_, rfl⟩
              replace H : (some (gH, ad, ag, ae, 0, false, bU, true)) = some (r1, r2, r3, r4, r5, r6, r7, r8) := hr fj H
              have hx := am fj; clear fj; simp only [Option.some.injEq, Prod.mk.injEq] at H; obtain ⟨rfl, rfl, rfl, rfl, rfl, rfl, rfl, rfl⟩ := H
              have bC : 0 ≤ (l : Int) := dga
              have bF : l < (Z.length : Int) := dga
              obtain ⟨eH, em, eK, en, eL, eO, cf, cg, bv, bw, ch, ci, hl327_2, hi327_2, hl327_3, hi327_3⟩ := at_T52 (KQ.S_reads' M.out).2.2 l bC bF; obtain rfl : (⟨Y, of51, none⟩ : Addr) = eH := (by injection eO); obtain ⟨hP, hce327, hMe327, b4⟩ := KQ.S_get M.out z52 l bC B96x47_; obtain ⟨ve327_2, ve327_3, rfl, ge327_2, ge327_3⟩ := k52_openM hMe327; have hv327_2 := b4 2 _ rfl; rw [add_field _ _ 2 (by omega)] at hv327_2; replace hv327_2 := Option.some.inj (hv327_2.symm.trans bv); rw [hv327_2] at ge327_2; have cT := am (show Kd.R Kd.string 9 _ _ _ _ ((rd_T52 Z l).f2) from ge327_2); clear hv327_2 ge327_2; have hv327_3 := b4 3 _ rfl; rw [add_field _ _ 3 (by omega)] at hv327_3; replace hv327_3 := Option.some.inj (hv327_3.symm.trans bw); rw [hv327_3] at ge327_3; have cU := am (show Kd.R (Kd.int .i64) 3 _ _ _ _ ((rd_T52 Z l).f3) from ge327_3); clear hv327_3 ge327_3; clear b4 hce327
              (first | simp only [add_plain] at cf | simp only [add_at] at cf | simp only [Addr.add, Nat.zero_add] at cf | skip)
              (first | simp only [add_plain] at cg | simp only [add_at] at cg | simp only [Addr.add, Nat.zero_add] at cg | skip)
              (first | simp only [add_plain] at bv | simp only [add_at] at bv | simp only [Addr.add, Nat.zero_add] at bv | skip)
              (first | simp only [add_plain] at bw | simp only [add_at] at bw | simp only [Addr.add, Nat.zero_add] at bw | skip)
              (first | simp only [add_plain] at ch | simp only [add_at] at ch | simp only [Addr.add, Nat.zero_add] at ch | skip)
              (first | simp only [add_plain] at ci | simp only [add_at] at ci | simp only [Addr.add, Nat.zero_add] at ci | skip)
              have bn := am hi327_2; have ev := am hl327_2; clear hi327_2 hl327_2; have bo := am hi327_3; have ew := am hl327_3; clear hi327_3 hl327_3; replace bC := eq_true bC; replace bF := eq_true bF
              try go_wp2_with (first | ((with_reducible refine gate_callee (f := 53) rfl ?_); refine gL (some 116) Try.func53 #[.agg #[.int .i64 ((rd_T52 Z l).f0), .int .i64 ((rd_T52 Z l).f1), .slice em ((rd_T52 Z l).f2).length eK, .slice en ((rd_T52 Z l).f3).length eL, .int .i64 ((rd_T52 Z l).f4), .int .i64 ((rd_T52 Z l).f5)]] ?_; (with_reducible refine (impl_whole.calls dx ((rd_T52 Z l).f0) ((rd_T52 Z l).f1) _ _ ((rd_T52 Z l).f2) _ _ ((rd_T52 Z l).f3) ((rd_T52 Z l).f4) ((rd_T52 Z l).f5) bU true _ ?z1 ?z2 ?z3 ?z4 ej.out).mono ?_); (case z1 => exact (tc (td bn.out))); (case z2 => exact ev.out); (case z3 => exact (tc (td bo.out))); (case z4 => exact ew.out); rintro e iD ⟨rfl, hb⟩; refine ⟨_, rfl, ?_⟩; replace M := am (KQ.S_below (tsq M.out) hb); replace cT := rA cT hb; replace cU := rA cU hb; replace B := bA B hb; replace U := bA U hb; replace bn := am (cb bn.out hb); replace bo := am (cb bo.out hb); replace HB := am (below_step (te2 HB.out ar.out au.out) hb)))
              replace M := am (KQ.S_drew M.out); replace cT := eA cT; replace cU := eA cU; replace B := dA B; replace U := dA U; replace bn := am (Kd.C_drew bn.out); replace bo := am (Kd.C_drew bo.out); replace HB := bdr HB
              have fo : (l : Int) ≤ ((Z.length : Int) : Int) := dga
              obtain ⟨i0148, hi0148, _, hsz148, _⟩ := info_parts info52
              have hroom148 : Z.length ≤ ap := (KQ.S_reads' M.out).2.1
              have hC148 : Kd.C k52 _ (some ⟨Y, of51, none⟩) Z.length Z := (KQ.S_reads' M.out).2.2
              have hcut148 := cut_to (P := Try.prog) 24 52 .i64 Try.underlying24 hi0148 (some ⟨Y, of51, none⟩) Z.length ap l (dga) fo hroom148; have eW := Kd.C_take (m := (l : Int).toNat) hC148 (by omega)
              have e5 : eh.length = (l : Int).toNat := (by rw [fR.out, List.length_take]; omega)
              rw [← fR.out] at eW; rw [← e5] at hcut148; have g8 := am eW; have i1 := am (show eh.length ≤ ap from (by omega)); clear eW hC148 hroom148 hi0148 hsz148; have KY148 := am e5; clear e5; have KL148 := am (show (l : Int).toNat ≤ Z.length from (by omega)); replace fo := eq_true fo
              have fp : ((aE) : Int) ≤ ((Z.length : Int) : Int) := dga
              obtain ⟨i0149, hi0149, _, hsz149, _⟩ := info_parts info52
              have hroom149 : Z.length ≤ ap := (KQ.S_reads' M.out).2.1
              have hC149 : Kd.C k52 _ (some ⟨Y, of51, none⟩) Z.length Z := (KQ.S_reads' M.out).2.2
              have iq : (0 : Int) ≤ ((aE) : Int) := dga
              have hcut149 := cut_from (P := Try.prog) 24 52 .i64 Try.underlying24 hi0149 6 hsz149 (some ⟨Y, of51, none⟩) Z.length ap (aE) iq fp; have dv := Kd.C_drop (m := ((aE) : Int).toNat) (c := ap) hC149 (by omega) hroom149; obtain ⟨gN, hA149⟩ : ∃ A1, A1 = (if ap = ((aE) : Int).toNat then (some ⟨Y, of51, none⟩) else ((some ⟨Y, of51, none⟩) : Option Addr).map (·.add (((aE) : Int).toNat * 6))) := ⟨_, rfl⟩; obtain ⟨hE, eQ⟩ : ∃ c1, c1 = ap - ((aE) : Int).toNat := ⟨_, rfl⟩
              have d2 : dI.length = Z.length - ((aE) : Int).toNat := (by rw [fS.out, List.length_drop] <;> omega)
              rw [show (Z).drop ((aE) : Int).toNat = dI from fS.out.symm] at dv
              replace dv : Kd.C k52 _ gN dI.length dI := (by rw [hA149]; exact dv)
              rw [← d2, ← hA149, ← eQ] at hcut149; have g9 := am dv; have i2 := am (show dI.length ≤ hE from (by rw [d2, eQ]; exact Nat.sub_le_sub_right hroom149 _)); clear dv hC149 hroom149 hi0149 hsz149 eQ; have KY149 := am d2; have KA149 := am hA149; clear d2 hA149; have KL149 := am (show ((aE) : Int).toNat ≤ Z.length from (by omega)); replace fp := eq_true fp; refine st_ 19 (fun w' => w'.cell? ⟨ai, 0, none⟩ = some (.int .i64 ad) ∧ w'.cell? ⟨ai, 1, none⟩ = some (.int .i64 ag) ∧ w'.cell? ⟨ai, 2, none⟩ = some (.int .i64 ae) ∧ w'.cell? ⟨ai, 3, none⟩ = some (.int .i64 ah) ∧ w'.cell? ⟨ai, 4, none⟩ = some (.bool ao) ∧ w'.cell? ⟨ai, 5, none⟩ = some (.string al)) [] impl_JoinBits.tab20 impl_JoinBits.bits20 D8x0_ (fun aa ac aw => ?_); generalize iD.drew = l6 at M cT cU B U bn bo HB g8 g9 aa ⊢; refine pu_ 0 123 ac ?_; refine pu_ 1 124 ac ?_; refine pu_ 2 125 ac ?_; refine pu_ 3 126 ac ?_; refine pu_ 4 127 ac ?_; refine pu_ 5 128 ac ?_; refine pu_ 6 129 ac ?_; refine pu_ 8 131 ac ?_; refine pu_ 10 133 ac ?_; refine pu_ 12 135 ac ?_; refine pu_ 14 137 ac ?_; refine ta_ 9 132 ac aw aa ?_; refine ta_ 11 134 ac aw aa ?_; refine ta_ 13 136 ac aw aa ?_; refine pu_ 15 138 ac ?_; refine on_ 7 (some 130) ac (fun K hK => ?_)
              have hj_ : 0 ≤ (l : Int) := dga
              have hl_ : (aE : Int) ≤ (Z.length : Int) := dga
              have hh_ : (l : Int) ≤ (Z.length : Int) := dga
              have hb_ := (KQ.S_reads' M.out).2.2.2.1
              have bL : (0 : Int) ≤ (aE : Int) := dga
              have bR := KY148.out
              have hk_ : (aE : Int).toNat = eh.length + 1 := (by (try (have hsy305_ := congrArg List.length cn.out; rw [List.length_set] at hsy305_)); (try (have hsy310_ := congrArg List.length co.out; rw [List.length_set] at hsy310_)); (try (have hsy312_ := congrArg List.length b1.out; rw [List.length_set] at hsy312_)); have hw_ : (aE : Int) = l + 1 := (by have bK := bL; rw [← cv] at bK ⊢; unfold wrap64 at bK ⊢; omega); rw [hw_]; omega)
              refine KQ.S_delete_step k52 (w0 := w) w.heap.size (by rfl) (.tmp 125) (.tmp 129) 24 52 rfl Try.underlying24 gk_ (g := Y) (n := Z.length) (c := ap) (k := eh.length) rfl rfl ?hA ?hm (tsq M.out) ?hk (te2 HB.out ar.out au.out) (below_size (te2 HB.out ar.out au.out)) ?_
              (case hA => have ha_ := KA149.out; rw [hk_] at ha_; exact ha_)
              (case hm => have ha_ := KY149.out; omega)
              (case hk => omega)
              intro cL ho hb hg; clear hj_ hl_ hh_ hb_ hk_ bL; rw [bR, ← hx.out] at ho; clear bR
              have hn_ : Z.length - 1 = gH.length := B96x50_
              rw [hn_] at ho ⊢; clear hn_; replace B := bg B hg (KQ.S_ne M.out B.out (by decide)); replace U := bg U hg (KQ.S_ne M.out U.out (by decide)); replace M := am ho; replace HB := am hb; clear ho hb hg; refine hK.out _ _ D8x0_ (fun aa => ?_); clear hK K; refine norm_ (a' := ?_) ?_ ?_; rotate_left
              ·show Act.put _ (some 130) _ = _; simp only [Act.put, List.setIfInBounds_toArray, List.set_cons_zero, List.set_cons_succ, i64_w, i32_w]; rfl
              refine pu_ 16 6 ac ?_; refine on_ 17 none ac (fun K hK => ?_)
              have lC : cL.cell? ⟨z, 0, none⟩ = some (.int .i64 0) := bc U 0
              have jM := blk_frozen U.out 0; have lb := D.out; have km := av.out
              have lD : cL.cell? ⟨z, 1, none⟩ = some (.int .i64 0) := bc U 1
              have jN := blk_frozen U.out 1; have lc := D.out; have kn := av.out
              have lE : cL.cell? ⟨z, 2, none⟩ = some (.int .i64 0) := bc U 2
              have jO := blk_frozen U.out 2; have ld := D.out; have ko := av.out
              have lF : cL.cell? ⟨z, 3, none⟩ = some (.int .i64 0) := bc U 3
              have jP := blk_frozen U.out 3; have lf := D.out; have kp := av.out
              have lG : cL.cell? ⟨z, 4, none⟩ = some (.bool false) := bc U 4
              have jQ := blk_frozen U.out 4; have lg := D.out; have kr := av.out
              have lH : cL.cell? ⟨z, 5, none⟩ = some (.string (⟨#[]⟩ : ByteArray)) := bc U 5
              have jR := blk_frozen U.out 5; have lh := D.out; have ks := av.out; refine skip_ (w1 := ?_) (by rfl) rfl ?_ ?_; rotate_left
              ·go_simp; rfl
              refine hK.out _ _ ⟨((cell_far (p := ⟨z, _, none⟩) D.out _).trans (((cell_far (p := ⟨z, _, none⟩) D.out _).trans (((cell_far (p := ⟨z, _, none⟩) D.out _).trans (((cell_far (p := ⟨z, _, none⟩) D.out _).trans (((cell_far (p := ⟨z, _, none⟩) D.out _).trans (((cell_far (p := ⟨z, _, none⟩) D.out _).trans (aa.1)))))))))))), ((cell_far (p := ⟨z, _, none⟩) D.out _).trans (((cell_far (p := ⟨z, _, none⟩) D.out _).trans (((cell_far (p := ⟨z, _, none⟩) D.out _).trans (((cell_far (p := ⟨z, _, none⟩) D.out _).trans (((cell_far (p := ⟨z, _, none⟩) D.out _).trans (((cell_far (p := ⟨z, _, none⟩) D.out _).trans (aa.2.1)))))))))))), ((cell_far (p := ⟨z, _, none⟩) D.out _).trans (((cell_far (p := ⟨z, _, none⟩) D.out _).trans (((cell_far (p := ⟨z, _, none⟩) D.out _).trans (((cell_far (p := ⟨z, _, none⟩) D.out _).trans (((cell_far (p := ⟨z, _, none⟩) D.out _).trans (((cell_far (p := ⟨z, _, none⟩) D.out _).trans (aa.2.2.1)))))))))))), ((cell_far (p := ⟨z, _, none⟩) D.out _).trans (((cell_far (p := ⟨z, _, none⟩) D.out _).trans (((cell_far (p := ⟨z, _, none⟩) D.out _).trans (((cell_far (p := ⟨z, _, none⟩) D.out _).trans (((cell_far (p := ⟨z, _, none⟩) D.out _).trans (((cell_far (p := ⟨z, _, none⟩) D.out _).trans (aa.2.2.2.1)))))))))))), ((cell_far (p := ⟨z, _, none⟩) D.out _).trans (((cell_far (p := ⟨z, _, none⟩) D.out _).trans (((cell_far (p := ⟨z, _, none⟩) D.out _).trans (((cell_far (p := ⟨z, _, none⟩) D.out _).trans (((cell_far (p := ⟨z, _, none⟩) D.out _).trans (((cell_far (p := ⟨z, _, none⟩) D.out _).trans (aa.2.2.2.2.1)))))))))))), ((cell_far (p := ⟨z, _, none⟩) D.out _).trans (((cell_far (p := ⟨z, _, none⟩) D.out _).trans (((cell_far (p := ⟨z, _, none⟩) D.out _).trans (((cell_far (p := ⟨z, _, none⟩) D.out _).trans (((cell_far (p := ⟨z, _, none⟩) D.out _).trans (((cell_far (p := ⟨z, _, none⟩) D.out _).trans (aa.2.2.2.2.2))))))))))))⟩ (fun aa => ?_); clear hK K; refine pu_ 18 8 ac ?_; refine done_ (done_of ac.out gk_) ?_
              try go_wp2
              refine bodyPost_ret (results_list (rs := [.tmp 6, .cell 7 44, .tmp 8]) rfl (by simp) (.tmp (.cell z 44 #[.int .i64 ad, .int .i64 ag, .int .i64 ae, .int .i64 0, .bool false, .string bU] (0, 0) _ rfl (tp0 U.out) Try.underlying44 rfl gk_ (.tmp .nil)))) rfl ?_
              exact ⟨_, (by first | rfl | (simp [errW_none, errW_some] <;> rfl) | (simp only [← cv]; first | rfl | (simp [errW_none, errW_some] <;> rfl)) | (simp [*, errW_none, errW_some] <;> rfl)), (by (with_reducible repeat (first | apply KQ.S_alloc | apply KQ.S_drewN | apply KQ.S_drew)); exact KQ.S_mono (KQ.S_far (p := ⟨z, 5, none⟩) (KQ.S_far (p := ⟨z, 4, none⟩) (KQ.S_far (p := ⟨z, 3, none⟩) (KQ.S_far (p := ⟨z, 2, none⟩) (KQ.S_far (p := ⟨z, 1, none⟩) (KQ.S_far (p := ⟨z, 0, none⟩) (KQ.S_types M.out U.out (by decide)) (fun _ hk => hk.2) (.int .i64 ad)) (fun _ hk => hk.2) (.int .i64 ag)) (fun _ hk => hk.2) (.int .i64 ae)) (fun _ hk => hk.2) (.int .i64 0)) (fun _ hk => hk.2) (.bool false)) (fun _ hk => hk.2) (.string bU)) (fun _ hk => trivial)), (te2 HB.out ar.out au.out)⟩
             ·replace dS := Bool.eq_false_iff.mpr dS; subst dS; rw [if_neg (show ¬ (false = true) by decide)] at H; simp only [Option.some.injEq, Prod.mk.injEq] at H; obtain ⟨rfl, rfl, rfl, rfl, rfl, rfl, rfl, rfl⟩ := H
              have bC : 0 ≤ (l : Int) := dga
              have bF : l < (Z.length : Int) := dga
              obtain ⟨eH, em, eK, en, eL, eO, cf, cg, bv, bw, ch, ci, hl327_2, hi327_2, hl327_3, hi327_3⟩ := at_T52 (KQ.S_reads' M.out).2.2 l bC bF; obtain rfl : (⟨Y, of51, none⟩ : Addr) = eH := (by injection eO); obtain ⟨hP, hce327, hMe327, b4⟩ := KQ.S_get M.out z52 l bC B96x47_; obtain ⟨ve327_2, ve327_3, rfl, ge327_2, ge327_3⟩ := k52_openM hMe327; have hv327_2 := b4 2 _ rfl; rw [add_field _ _ 2 (by omega)] at hv327_2; replace hv327_2 := Option.some.inj (hv327_2.symm.trans bv); rw [hv327_2] at ge327_2; clear hv327_2 ge327_2; have hv327_3 := b4 3 _ rfl; rw [add_field _ _ 3 (by omega)] at hv327_3; replace hv327_3 := Option.some.inj (hv327_3.symm.trans bw); rw [hv327_3] at ge327_3; clear hv327_3 ge327_3; clear b4 hce327
              (first | simp only [add_plain] at cf | simp only [add_at] at cf | simp only [Addr.add, Nat.zero_add] at cf | skip)
              (first | simp only [add_plain] at cg | simp only [add_at] at cg | simp only [Addr.add, Nat.zero_add] at cg | skip)
              (first | simp only [add_plain] at bv | simp only [add_at] at bv | simp only [Addr.add, Nat.zero_add] at bv | skip)
              (first | simp only [add_plain] at bw | simp only [add_at] at bw | simp only [Addr.add, Nat.zero_add] at bw | skip)
              (first | simp only [add_plain] at ch | simp only [add_at] at ch | simp only [Addr.add, Nat.zero_add] at ch | skip)
              (first | simp only [add_plain] at ci | simp only [add_at] at ci | simp only [Addr.add, Nat.zero_add] at ci | skip)
              have bn := am hi327_2; have ev := am hl327_2; clear hi327_2 hl327_2; have bo := am hi327_3; have ew := am hl327_3; clear hi327_3 hl327_3; replace bC := eq_true bC; replace bF := eq_true bF
              go_wp2_with (first | ((with_reducible refine gate_callee (f := 53) rfl ?_); refine gL (some 116) Try.func53 #[.agg #[.int .i64 ((rd_T52 Z l).f0), .int .i64 ((rd_T52 Z l).f1), .slice em ((rd_T52 Z l).f2).length eK, .slice en ((rd_T52 Z l).f3).length eL, .int .i64 ((rd_T52 Z l).f4), .int .i64 ((rd_T52 Z l).f5)]] ?_; (with_reducible refine (impl_whole.calls dx ((rd_T52 Z l).f0) ((rd_T52 Z l).f1) _ _ ((rd_T52 Z l).f2) _ _ ((rd_T52 Z l).f3) ((rd_T52 Z l).f4) ((rd_T52 Z l).f5) bU false _ ?z1 ?z2 ?z3 ?z4 ej.out).mono ?_); (case z1 => exact (tc (td bn.out))); (case z2 => exact ev.out); (case z3 => exact (tc (td bo.out))); (case z4 => exact ew.out); rintro e iE ⟨rfl, hb⟩; refine ⟨_, rfl, ?_⟩; replace M := am (KQ.S_below (tsq M.out) hb); replace U := bA U hb; replace bn := am (cb bn.out hb); replace bo := am (cb bo.out hb); replace HB := am (below_step (te2 HB.out ar.out au.out) hb); have kL := av.out; have hgo159 := HNB274_go51.out; have hgp159 := HNB274_go51.out.symm; have hgq159 := HNB275_go51.out; have hgr159 := HNB275_go51.out.symm; have kX := D.out; obtain ⟨mU, mV, mW, mX, mY, mZ, ou, ov, ow, ox, oy, oz⟩ := cf6 U) | ((with_reducible refine gate_store (t := 44) (p := 7) rfl ?_); refine store_event (t := 44) (p := 7) (v := ?vo_w161) (w1 := ((((((iE.setCell ⟨z, 0, none⟩ (.int .i64 0)).setCell ⟨z, 1, none⟩ (.int .i64 0)).setCell ⟨z, 2, none⟩ (.int .i64 0)).setCell ⟨z, 3, none⟩ (.int .i64 0)).setCell ⟨z, 4, none⟩ (.bool false)).setCell ⟨z, 5, none⟩ (.string (⟨#[]⟩ : ByteArray)))) ?hg ?ho ?hn ?hr ?_; (case ho => rfl); (case hg => rfl); (case hn => rfl); (case hr => exact gs_); intro fy hw; replace M : Aside0 (KQ.S k52 52 fy w.heap.size (fun _ => True) (.slice (some ⟨Y, of51, none⟩) Z.length ap) Z) := ⟨B96x5_⟩; replace U : Hc fy z #[.int .i64 0, .int .i64 0, .int .i64 0, .int .i64 0, .bool false, .string (⟨#[]⟩ : ByteArray)] 44 := ⟨B97x52_⟩; replace HB : Hb w fy := ⟨B97x51_⟩; clear hw))
              refine bodyPost_ret (results_list (rs := [.tmp 6, .cell 7 44, .tmp 8]) rfl (by simp) (.tmp (.cell z 44 #[.int .i64 0, .int .i64 0, .int .i64 0, .int .i64 0, .bool false, .string (⟨#[]⟩ : ByteArray)] (0, 0) _ rfl (tb U.out) Try.underlying44 rfl gk_ (.tmp .nil)))) rfl ?_; exact ⟨_, B97x24_, (tsq M.out), (te2 HB.out ar.out au.out)⟩
end
end Go.Proofs.Ytjaamflffmhicaa.QFnExactUnwrap
