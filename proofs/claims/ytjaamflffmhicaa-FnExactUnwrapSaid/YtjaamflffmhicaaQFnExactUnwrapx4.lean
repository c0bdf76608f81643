/- Functions that a law reaches, as functions of Lean, and the walks that show that the calls come to their answers. No condition. -/
import Derived.Test.YtjaamflffmhicaaQFnExactUnwrapx0
import Derived.Test.YtjaamflffmhicaaQFnExactUnwrapx1
import Derived.Test.YtjaamflffmhicaaQFnExactUnwrapx2
import Derived.Test.YtjaamflffmhicaaQFnExactUnwrapx3
import Derived.Test.YtjaamflffmhicaaVFnExactUnwraphort3
import Derived.Test.YtjaamflffmhicaaVFnExactUnwraphort2
import Derived.Test.YtjaamflffmhicaaVFnExactUnwraphort
import Derived.Test.YtjaamflffmhicaaVFnExactUnwraphort8
namespace Go.Proofs.Ytjaamflffmhicaa.QFnExactUnwrap
open Go.RowKit Go.Proofs.YtjaamflffmhicaaW.PrintWords Go.Proofs.YtjaamflffmhicaaW.PrintLast Go.Proofs.YtjaamflffmhicaaW.PrintMore Go.Proofs.Ytjaamflffmhicaa.Short
set_option linter.unusedVariables false
set_option linter.unusedSimpArgs false
set_option maxHeartbeats 8000000
set_option maxRecDepth 100000
variable {p : Prop}
theorem D4x0_ (h : p := by exact ⟨⟨gl_⟩, Cb l, Cb z, Cb B, Ce3 HB Z ad ae⟩) : p := h
section
attribute [local go_sem] max2_int min2_int max_two min_two max_three min_three max_four min_four
theorem B9x2_ (h : p := by first | rfl | (simp [errW_none, errW_some] <;> rfl) | (simp [*, errW_none, errW_some] <;> rfl)) : p := h
def spec_l12Has.f (J : Int) (M : Int) (al : Int) (ao : ByteArray) (a1 : Int) : Option (Bool) := if a1 = 0 then (none) else (some ((Int.tmod (wrap64 (Int.tdiv al a1)) 2) == 1))
theorem spec_l12Has.calls (J : Int) (M : Int) (al : Int) (ao : ByteArray) (a1 : Int) (r : Bool) (w : World) (h : spec_l12Has.f J M al ao a1 = some r) :
  Calls Try.prog 63 #[.agg #[.int .i64 J, .int .i64 M, .int .i64 al, .string ao], .int .i64 a1] w fun e w' => e = .returned (.bool r) ∧ Below w.heap.size w w' := by
 have dN := Try.underlying26
 have HB := am (Below.refl w.heap.size w)
 have aa := h
 clear h
 unfold spec_l12Has.f at aa
 obtain ⟨c3, ai⟩ | ⟨c3, ai⟩ := sp aa
 ·exact absurd ai (by simp)
 ·obtain ⟨cW, cX⟩ := nE c3; obtain rfl := Option.some.inj ai; clear ai aa; go_enter Try.func63, Try.ntmps63
  go_wp2_with (first | ((with_reducible refine gate_dst (N := 2) rfl ?_); refine bx (N := 2) (cs := #[.int .i64 J, .int .i64 M, .int .i64 al, .string ao]) (t := 26) ?_; intro gR hg w4 hbox hb; have fh := am hbox; have fi := gA hg HB; replace HB := hA HB hb; clear hb hbox hg; obtain ⟨jP, jQ, jR, jS, jZ, j4, j6, j9⟩ := cf4 fh))
  go_ret; exact ⟨B9x2_, (Ae1 HB fi)⟩

def spec_SegOk.j0 : Nat → Bool → Int → Int → Int → ByteArray → Option (Bool)
 | 0, _, _, _, _, _ => none
 | k + 1, f0, dV, cO, dW, da => if f0 = true then (some false) else ((spec_l12Has.f dV cO dW da 1).bind fun ek => (if ek = true then (if da.toList = ([] : List UInt8) then ((spec_l12Has.f dV cO dW da 2).bind fun el => (if el = true then (some true) else (some (cO == 0)))) else (some false)) else ((spec_l12Has.f dV cO dW da 2).bind fun em => (if em = true then (some true) else (some (cO == 0))))))
def spec_SegOk.f (k : Nat) (J : Int) (M : Int) (al : Int) (ao : ByteArray) : Option (Bool) := (spec_l01In.f J 0 65535).bind fun eh => (if eh = true then ((spec_l01In.f M 0 65535).bind fun ei => (if ei = true then ((spec_l01In.f al 0 7).bind fun ej => (if ej = true then (spec_SegOk.j0 k (decide ((ao.size : Int) > 8)) J M al ao) else (spec_SegOk.j0 k true J M al ao))) else (spec_SegOk.j0 k true J M al ao))) else (spec_SegOk.j0 k true J M al ao))
theorem spec_SegOk.calls (k : Nat) (J : Int) (M : Int) (al : Int) (ao : ByteArray) (r : Bool) (w : World) (h : spec_SegOk.f k J M al ao = some r) :
  Calls Try.prog 37 #[.agg #[.int .i64 J, .int .i64 M, .int .i64 al, .string ao]] w fun e w' => e = .returned (.bool r) ∧ Below w.heap.size w w' := by
 have dN := Try.underlying26
 have HB := am (Below.refl w.heap.size w)
 have aa := h
 clear h
 unfold spec_SegOk.f at aa
 replace aa := am aa
 go_enter Try.func37, Try.ntmps37
 go_upto_region 1 with (first | ((with_reducible refine gate_dst (N := 1) rfl ?_); (try (refine gate_guard (by rfl) ?_; dsimp only)); refine bx (N := 1) (cs := #[.int .i64 J, .int .i64 M, .int .i64 al, .string ao]) (t := 26) ?_; intro fD hg w3 hbox hb; have Y := am hbox; have aH := gA hg HB; replace HB := hA HB hb; clear hb hbox hg))
 (try simp only [Act.put, List.setIfInBounds_toArray, List.set_cons_zero, List.set_cons_succ])
 go_cut [24] (fun fN wc => ∃ (kq : Nat) (dX : Bool), fN = .bool dX ∧ Aside0 (spec_SegOk.j0 kq dX J M al ao = some r) ∧ Aside0 (kq ≤ k) ∧ Hc wc fD #[.int .i64 J, .int .i64 M, .int .i64 al, .string ao] 26 ∧ Hb w wc)
 case first =>
  replace aa := aa.out; obtain ⟨eh, A4, ai⟩ := bsi aa; (try dsimp only at ai)
  obtain ⟨rfl, D⟩ | ⟨rfl, D⟩ := sb ai
  ·obtain ⟨ei, A6, af⟩ := bsi D; (try dsimp only at af)
   obtain ⟨rfl, aj⟩ | ⟨rfl, aj⟩ := sb af
   ·obtain ⟨ej, A8, az⟩ := bsi aj; (try dsimp only at az)
    obtain ⟨rfl, ac⟩ | ⟨rfl, ac⟩ := sb az
    ·replace ac := am ac; clear aa ai D af aj az; obtain ⟨aN, aO, aP, aQ, aR, aS, aT, aU⟩ := cf4 Y
     go_wp2_with (first | ((with_reducible refine gate_callee (f := 35) rfl ?_); refine gM (some 5) Try.func35 (spec_l01In.calls J 0 65535 true _ A4.out) ?_; rintro w' ⟨nd, rfl⟩) | (go_at_call 35; (with_reducible refine (spec_l01In.calls M 0 65535 true _ A6.out).mono ?_); rintro e w' ⟨rfl, ⟨nd, rfl⟩⟩) | (go_at_call 35; (with_reducible refine (spec_l01In.calls al 0 7 true _ A8.out).mono ?_); rintro e w' ⟨rfl, ⟨nd, rfl⟩⟩))
     go_meet
     case rel => exact ⟨_, (decide ((ao.size : Int) > 8)), be_, ac, ⟨gl_⟩, Cb Y, Ce1 HB aH⟩
    replace ac := am ac; clear aa ai D af aj az; obtain ⟨aN, aO, aP, aQ, aR, aS, aT, aU⟩ := cf4 Y
    go_wp2_with (first | ((with_reducible refine gate_callee (f := 35) rfl ?_); refine gM (some 5) Try.func35 (spec_l01In.calls J 0 65535 true _ A4.out) ?_; rintro w' ⟨nd, rfl⟩) | (go_at_call 35; (with_reducible refine (spec_l01In.calls M 0 65535 true _ A6.out).mono ?_); rintro e w' ⟨rfl, ⟨nd, rfl⟩⟩) | (go_at_call 35; (with_reducible refine (spec_l01In.calls al 0 7 false _ A8.out).mono ?_); rintro e w' ⟨rfl, ⟨nd, rfl⟩⟩))
    go_meet
    case rel => exact ⟨_, true, be_, ac, ⟨gl_⟩, Cb Y, Ce1 HB aH⟩
   replace aj := am aj; clear aa ai D af; obtain ⟨aN, aO, aP, aQ, aR, aS, aT, aU⟩ := cf4 Y
   go_wp2_with (first | ((with_reducible refine gate_callee (f := 35) rfl ?_); refine gM (some 5) Try.func35 (spec_l01In.calls J 0 65535 true _ A4.out) ?_; rintro w' ⟨nd, rfl⟩) | (go_at_call 35; refine (spec_l01In.calls M 0 65535 false _ A6.out).mono ?_; rintro e w' ⟨rfl, ⟨nd, rfl⟩⟩))
   go_meet
   case rel => exact ⟨_, true, be_, aj, ⟨gl_⟩, Cb Y, Ce1 HB aH⟩
  replace D := am D; clear aa ai; obtain ⟨aN, aO, aP, aQ, aR, aS, aT, aU⟩ := cf4 Y
  go_wp2_with (first | ((with_reducible refine gate_callee (f := 35) rfl ?_); refine gM (some 5) Try.func35 (spec_l01In.calls J 0 65535 false _ A4.out) ?_; rintro w' ⟨nd, rfl⟩))
  go_meet
  case rel => exact ⟨_, true, be_, D, ⟨gl_⟩, Cb Y, Ce1 HB aH⟩
 clear aa
 obtain ⟨kq, dX, rfl, ax, gx, Y, HB⟩ := hcut
 cases kq with
 | zero => exact absurd ax.out (by simp [spec_SegOk.j0])
 | succ jt => ?_
 replace ax := ax.out
 simp only [spec_SegOk.j0] at ax
 obtain ⟨rfl, ay⟩ | ⟨rfl, ay⟩ := sb ax
 ·obtain rfl := Option.some.inj ay; clear ay ax
  go_wp2
  go_ret; exact ⟨B9x2_, (Ae1 HB aH)⟩
 obtain ⟨ek, co, aI⟩ := bsi ay
 (try dsimp only at aI)
 obtain ⟨rfl, aM⟩ | ⟨rfl, aM⟩ := sb aI
 ·obtain ⟨cU, bp⟩ | ⟨cU, bp⟩ := sp aM
  ·obtain ⟨fv, fw⟩ := yE cU; clear cU; obtain ⟨el, d0, bG⟩ := bsi bp; (try dsimp only at bG)
   obtain ⟨rfl, cu⟩ | ⟨rfl, cu⟩ := sb bG
   ·obtain rfl := Option.some.inj cu; clear cu ax ay aI aM bp bG; obtain ⟨aN, aO, aP, aQ, aR, aS, aT, aU⟩ := cf4 Y
    go_wp2_with (first | ((with_reducible refine gate_callee (f := 63) rfl ?_); refine gM (some 26) Try.func63 (spec_l12Has.calls J M al ao 1 true _ co.out) ?_; rintro b7 hb; replace Y := bA Y hb; replace HB := De1 HB aH hb; obtain ⟨aN, aO, aP, aQ, aR, aS, aT, aU⟩ := cf4 Y) | (go_at_call 63; refine (spec_l12Has.calls J M al ao 2 true _ d0.out).mono ?_; rintro e jD ⟨rfl, hb⟩; replace Y := bA Y hb; replace HB := De1 HB aH hb))
    go_ret; exact ⟨B9x2_, (Ae1 HB aH)⟩
   obtain rfl := Option.some.inj cu; clear cu ax ay aI aM bp bG; obtain ⟨aN, aO, aP, aQ, aR, aS, aT, aU⟩ := cf4 Y
   go_wp2_with (first | ((with_reducible refine gate_callee (f := 63) rfl ?_); refine gM (some 26) Try.func63 (spec_l12Has.calls J M al ao 1 true _ co.out) ?_; rintro jE hb; replace Y := bA Y hb; replace HB := De1 HB aH hb; obtain ⟨aN, aO, aP, aQ, aR, aS, aT, aU⟩ := cf4 Y) | (go_at_call 63; refine (spec_l12Has.calls J M al ao 2 false _ d0.out).mono ?_; rintro e fT ⟨rfl, hb⟩; replace Y := bA Y hb; replace HB := De1 HB aH hb; obtain ⟨aN, aO, aP, aQ, aR, aS, aT, aU⟩ := cf4 Y))
   go_ret; exact ⟨B9x2_, (Ae1 HB aH)⟩
  obtain ⟨fv, fw⟩ := nE cU; obtain rfl := Option.some.inj bp; clear bp ax ay aI aM; obtain ⟨aN, aO, aP, aQ, aR, aS, aT, aU⟩ := cf4 Y
  go_wp2_with (first | ((with_reducible refine gate_callee (f := 63) rfl ?_); refine gM (some 26) Try.func63 (spec_l12Has.calls J M al ao 1 true _ co.out) ?_; rintro jF hb; replace Y := bA Y hb; replace HB := De1 HB aH hb; obtain ⟨aN, aO, aP, aQ, aR, aS, aT, aU⟩ := cf4 Y))
  go_ret; exact ⟨B9x2_, (Ae1 HB aH)⟩
 obtain ⟨em, d1, cR⟩ := bsi aM
 (try dsimp only at cR)
 obtain ⟨rfl, cv⟩ | ⟨rfl, cv⟩ := sb cR
 ·obtain rfl := Option.some.inj cv; clear cv ax ay aI aM cR; obtain ⟨aN, aO, aP, aQ, aR, aS, aT, aU⟩ := cf4 Y
  go_wp2_with (first | ((with_reducible refine gate_callee (f := 63) rfl ?_); refine gM (some 26) Try.func63 (spec_l12Has.calls J M al ao 1 false _ co.out) ?_; rintro jH hb; replace Y := bA Y hb; replace HB := De1 HB aH hb; obtain ⟨aN, aO, aP, aQ, aR, aS, aT, aU⟩ := cf4 Y) | (go_at_call 63; refine (spec_l12Has.calls J M al ao 2 true _ d1.out).mono ?_; rintro e jI ⟨rfl, hb⟩; replace Y := bA Y hb; replace HB := De1 HB aH hb))
  go_ret; exact ⟨B9x2_, (Ae1 HB aH)⟩
 obtain rfl := Option.some.inj cv
 clear cv ax ay aI aM cR
 obtain ⟨aN, aO, aP, aQ, aR, aS, aT, aU⟩ := cf4 Y
 go_wp2_with (first | ((with_reducible refine gate_callee (f := 63) rfl ?_); refine gM (some 26) Try.func63 (spec_l12Has.calls J M al ao 1 false _ co.out) ?_; rintro fU hb; replace Y := bA Y hb; replace HB := De1 HB aH hb; obtain ⟨aN, aO, aP, aQ, aR, aS, aT, aU⟩ := cf4 Y) | (go_at_call 63; refine (spec_l12Has.calls J M al ao 2 false _ d1.out).mono ?_; rintro e jJ ⟨rfl, hb⟩; replace Y := bA Y hb; replace HB := De1 HB aH hb; obtain ⟨aN, aO, aP, aQ, aR, aS, aT, aU⟩ := cf4 Y))
 go_ret
 exact ⟨B9x2_, (Ae1 HB aH)⟩
def spec_ReadSeg.f (k : Nat) (j : ByteArray) : Option (Int × Int × Int × ByteArray × Bool) := if (j.size : Int) < 5 then (some (0, 0, 0, (⟨#[]⟩ : ByteArray), false)) else (if 0 < (j.size : Int) then (if 1 < (j.size : Int) then (if 2 < (j.size : Int) then (if 3 < (j.size : Int) then (if 4 < (j.size : Int) then (if 5 ≤ (j.size : Int) then ((spec_SegOk.f k (wrap64 ((wrap64 (256 * (wrap64 (bt j 0)))) + (wrap64 (bt j 1)))) (wrap64 ((wrap64 (256 * (wrap64 (bt j 2)))) + (wrap64 (bt j 3)))) (wrap64 (bt j 4)) (j.extract 5 j.size)).bind fun en => (if en = true then (some (wrap64 ((wrap64 (256 * (wrap64 (bt j 0)))) + (wrap64 (bt j 1))), wrap64 ((wrap64 (256 * (wrap64 (bt j 2)))) + (wrap64 (bt j 3))), wrap64 (bt j 4), j.extract 5 j.size, true)) else (some (0, 0, 0, (⟨#[]⟩ : ByteArray), false)))) else (none)) else (none)) else (none)) else (none)) else (none)) else (none))
def spec_ReadSeg.T3 : Bool × List (List Nat × List Nat) := (true, [([], []), ([0], [0]), ([1], [1]), ([2], [2]), ([], []), ([4], [4]), ([5], [5]), ([3, 6], [3, 6]), ([], []), ([8], [8]), ([9], [9]), ([10], [10]), ([], []), ([12], [12]), ([13], [13]), ([11, 14], [11, 14]), ([], []), ([16], [16]), ([17], [17]), ([], []), ([19], [19]), ([7, 15, 18, 20], [7, 15, 18, 20]), ([], []), ([22, 21, 0, 1, 2, 3, 4, 5, 6, 7, 8, 9, 10, 11, 12, 13, 14, 15, 16, 17, 18, 19, 20, 21, 22], [21, 22])])
def spec_ReadSeg.B3 : List Nat := [0, 1, 3, 7, 0, 16, 48, 127, 0, 256, 768, 1792, 0, 4096, 12288, 32512, 0, 65536, 196608, 0, 524288, 2097151, 0, 8388607]
theorem spec_ReadSeg.tab3 : rtab .any (opsOf Try.f17 3) = spec_ReadSeg.T3 := by kernel_rfl
theorem spec_ReadSeg.bits3 : waitsOk spec_ReadSeg.T3.2 spec_ReadSeg.B3 = true := by kernel_rfl
theorem spec_ReadSeg.calls (k : Nat) (j : ByteArray) (r1 : Int) (r2 : Int) (r3 : Int) (r4 : ByteArray) (r5 : Bool) (w : World) (h : spec_ReadSeg.f k j = some (r1, r2, r3, r4, r5)) :
  Calls Try.prog 17 #[.string j] w fun e w' => e = .returned (.tuple #[.agg #[.int .i64 r1, .int .i64 r2, .int .i64 r3, .string r4], .bool r5]) ∧ Below w.heap.size w w' := by
 have dN := Try.underlying26
 have HB := am (Below.refl w.heap.size w)
 have aa := h
 clear h
 unfold spec_ReadSeg.f at aa
 obtain ⟨c2, ai⟩ | ⟨c2, ai⟩ := sp aa
 ·have cF := decide_eq_true c2
  have cG : decide (j.size < 5) = true := decide_eq_true (by omega)
  clear c2; obtain ⟨rfl, rfl, rfl, rfl, rfl⟩ := s5 ai; clear ai aa; go_enter Try.func17, Try.ntmps17
  go_wp2_with (first | ((with_reducible refine gate_dst (N := 2) rfl ?_); refine bx (N := 2) (cs := #[.int .i64 0, .int .i64 0, .int .i64 0, .string (⟨#[]⟩ : ByteArray)]) (t := 26) ?_; intro ch hg w3 hbox hb; have aJ := am hbox; have bY := gA hg HB; replace HB := hA HB hb; clear hb hbox hg; obtain ⟨et, eu, ev, ew, eS, eT, eU, eV⟩ := cf4 aJ))
  refine bodyPost_ret (results_ct rfl _ _ ch 26 #[.int .i64 0, .int .i64 0, .int .i64 0, .string (⟨#[]⟩ : ByteArray)] (0, 0) _ rfl (Ap0 aJ) Try.underlying26 rfl gk_) rfl ?_; exact ⟨B9x2_, (Ae1 HB bY)⟩
 have cF := decide_eq_false c2
 have cG : decide (j.size < 5) = false := decide_eq_false (by omega)
 clear c2
 obtain ⟨c5, D⟩ := yn ai
 have gJ := decide_eq_true c5
 have gN : decide (0 < j.size) = true := decide_eq_true (by omega)
 clear c5
 obtain ⟨c7, af⟩ := yn D
 have d9 := decide_eq_true c7
 have gO : decide (1 < j.size) = true := decide_eq_true (by omega)
 clear c7
 obtain ⟨c9, aj⟩ := yn af
 have gP := decide_eq_true c9
 have gQ : decide (2 < j.size) = true := decide_eq_true (by omega)
 clear c9
 obtain ⟨d7, az⟩ := yn aj
 have gD := decide_eq_true d7
 have gE : decide (3 < j.size) = true := decide_eq_true (by omega)
 clear d7
 obtain ⟨d8, ac⟩ := yn az
 have gF := decide_eq_true d8
 have gG : decide (4 < j.size) = true := decide_eq_true (by omega)
 clear d8
 obtain ⟨gH, gI, ax⟩ := ye ac
 obtain ⟨en, dZ, ay⟩ := bsi ax
 (try dsimp only at ay)
 replace ay := am ay
 clear aa ai D af aj az ac ax
 go_enter Try.func17, Try.ntmps17
 try go_wp2_with (first | ((with_reducible refine gate_dst (N := 2) rfl ?_); refine bx (N := 2) (cs := #[.int .i64 0, .int .i64 0, .int .i64 0, .string (⟨#[]⟩ : ByteArray)]) (t := 26) ?_; intro ch hg ck hbox hb; have aJ := am hbox; have bY := gA hg HB; replace HB := hA HB hb; clear hb hbox hg))
 replace aJ := dA aJ
 replace HB := bdr HB
 have p6 : 0 ≤ (0 : Int) := (by omega)
 have q6 : 0 < j.size := (by have : (0 : Int) < (j.size : Int) := dga; omega)
 have jr : ∀ h : 0 < j.size, ((j[0]'h).toNat : Int) = bt j 0 := bt_at j 0
 clear p6
 have qi6 : (0 < (j.size : Int)) = True := eq_true (dga)
 replace q6 := eq_true q6
 have p8 : 0 ≤ (1 : Int) := (by omega)
 have q8 : 1 < j.size := (by have : (1 : Int) < (j.size : Int) := dga; omega)
 have js : ∀ h : 1 < j.size, ((j[1]'h).toNat : Int) = bt j 1 := bt_at j 1
 clear p8
 have qi8 : (1 < (j.size : Int)) = True := eq_true (dga)
 replace q8 := eq_true q8
 have fI : 0 ≤ (2 : Int) := (by omega)
 have ee : 2 < j.size := (by have : (2 : Int) < (j.size : Int) := dga; omega)
 have jo : ∀ h : 2 < j.size, ((j[2]'h).toNat : Int) = bt j 2 := bt_at j 2
 clear fI
 have qi10 : (2 < (j.size : Int)) = True := eq_true (dga)
 replace ee := eq_true ee
 have fJ : 0 ≤ (3 : Int) := (by omega)
 have ef : 3 < j.size := (by have : (3 : Int) < (j.size : Int) := dga; omega)
 have jp : ∀ h : 3 < j.size, ((j[3]'h).toNat : Int) = bt j 3 := bt_at j 3
 clear fJ
 have qi12 : (3 < (j.size : Int)) = True := eq_true (dga)
 replace ef := eq_true ef
 have fK : 0 ≤ (4 : Int) := (by omega)
 have eg : 4 < j.size := (by have : (4 : Int) < (j.size : Int) := dga; omega)
 have jq : ∀ h : 4 < j.size, ((j[4]'h).toNat : Int) = bt j 4 := bt_at j 4
 clear fK
 have qi14 : (4 < (j.size : Int)) = True := eq_true (dga)
 replace eg := eq_true eg
 refine st_ 24 (fun w' => True) [] spec_ReadSeg.tab3 spec_ReadSeg.bits3 trivial (fun aL au ct => ?_)
 generalize ck.drew = jC at aJ HB aL ⊢
 refine pu_ 0 9 au ?_
 refine pu_ 4 13 au ?_
 refine pu_ 8 17 au ?_
 refine pu_ 12 21 au ?_
 refine pu_ 16 25 au ?_
 refine pu_ 19 28 au ?_
 refine pu_ 20 29 au ?_
 refine take_ (i := 1) (N := some 10) (v := ?_) (a' := ?_) #[true, true, false, false, true, false, false, false, true, false, false, false, true, false, false, false, true, false, false, true, true, false, false, false] rfl rfl (take_ofW au.out ct.out gk_) (fun _ _ _ h => h) (Or.inl ⟨(by rfl), ?_⟩) aL ?_ ?_
 rotate_left
 ·intro w' _; go_simp; with_reducible rfl
 rotate_left
 ·simp only [Act.put, List.setIfInBounds_toArray, List.set_cons_zero, List.set_cons_succ, i64_w, i32_w]; rfl
 refine pu_ 2 11 au ?_
 refine pu_ 3 12 au ?_
 refine take_ (i := 5) (N := some 14) (v := ?_) (a' := ?_) #[true, true, true, true, true, true, false, false, true, false, false, false, true, false, false, false, true, false, false, true, true, false, false, false] rfl rfl (take_ofW au.out ct.out gk_) (fun _ _ _ h => h) (Or.inl ⟨(by rfl), ?_⟩) aL ?_ ?_
 rotate_left
 ·intro w' _; go_simp; with_reducible rfl
 rotate_left
 ·simp only [Act.put, List.setIfInBounds_toArray, List.set_cons_zero, List.set_cons_succ, i64_w, i32_w]; rfl
 refine pu_ 6 15 au ?_
 refine pu_ 7 16 au ?_
 refine take_ (i := 9) (N := some 18) (v := ?_) (a' := ?_) #[true, true, true, true, true, true, true, true, true, true, false, false, true, false, false, false, true, false, false, true, true, false, false, false] rfl rfl (take_ofW au.out ct.out gk_) (fun _ _ _ h => h) (Or.inl ⟨(by rfl), ?_⟩) aL ?_ ?_
 rotate_left
 ·intro w' _; go_simp; with_reducible rfl
 rotate_left
 ·simp only [Act.put, List.setIfInBounds_toArray, List.set_cons_zero, List.set_cons_succ, i64_w, i32_w]; rfl
 refine pu_ 10 19 au ?_
 refine pu_ 11 20 au ?_
 refine take_ (i := 13) (N := some 22) (v := ?_) (a' := ?_) #[true, true, true, true, true, true, true, true, true, true, true, true, true, true, false, false, true, false, false, true, true, false, false, false] rfl rfl (take_ofW au.out ct.out gk_) (fun _ _ _ h => h) (Or.inl ⟨(by rfl), ?_⟩) aL ?_ ?_
 rotate_left
 ·intro w' _; go_simp; with_reducible rfl
 rotate_left
 ·simp only [Act.put, List.setIfInBounds_toArray, List.set_cons_zero, List.set_cons_succ, i64_w, i32_w]; rfl
 refine pu_ 14 23 au ?_
 refine pu_ 15 24 au ?_
 refine take_ (i := 17) (N := some 26) (v := ?_) (a' := ?_) #[true, true, true, true, true, true, true, true, true, true, true, true, true, true, true, true, true, true, false, true, true, false, false, false] rfl rfl (take_ofW au.out ct.out gk_) (fun _ _ _ h => h) (Or.inl ⟨(by rfl), ?_⟩) aL ?_ ?_
 rotate_left
 ·intro w' _; go_simp; with_reducible rfl
 rotate_left
 ·simp only [Act.put, List.setIfInBounds_toArray, List.set_cons_zero, List.set_cons_succ, i64_w, i32_w]; rfl
 refine pu_ 18 27 au ?_
 refine pu_ 21 30 au ?_
 refine on_ 22 (some 4) au (fun K hK => ?_)
 refine box_step ?hg (N := 4) ?hd (cs := #[.int .i64 0, .int .i64 0, .int .i64 0, .string (⟨#[]⟩ : ByteArray)]) (t := 26) ?hr ?_; (case hd => rfl); (case hg => rfl); (case hr => exact gs_)
 intro cI hg cY hbox hb
 have bh := am hbox
 have cP := gA hg HB
 replace HB := De1 HB bY hb
 have b0 := nA hg aJ
 have cw := mA hg aJ
 replace aJ := bA aJ hb
 clear hb hbox hg
 refine hK.out _ _ trivial (fun aL => nm_ ?_)
 clear hK K
 refine on_ 23 none au (fun K hK => ?_)
 have jc : cY.cell? ⟨cI, 0, none⟩ = some (.int .i64 0) := bc bh 0
 have gU := blk_frozen bh.out 0
 obtain ⟨iR, g2⟩ := o2_ b0 cw
 have jd : cY.cell? ⟨cI, 1, none⟩ = some (.int .i64 0) := bc bh 1
 have gV := blk_frozen bh.out 1
 obtain ⟨iS, g3⟩ := o2_ b0 cw
 have je : cY.cell? ⟨cI, 2, none⟩ = some (.int .i64 0) := bc bh 2
 have gW := blk_frozen bh.out 2
 obtain ⟨iT, g4⟩ := o2_ b0 cw
 have jf : cY.cell? ⟨cI, 3, none⟩ = some (.string (⟨#[]⟩ : ByteArray)) := bc bh 3
 have gX := blk_frozen bh.out 3
 obtain ⟨iU, g5⟩ := o2_ b0 cw
 refine skip_ (w1 := ?_) (by rfl) rfl ?_ ?_
 rotate_left
 ·go_simp; rfl
 refine hK.out _ _ trivial (fun aL => ?_)
 clear hK K
 refine done_ (done_of au.out gk_) ?_
 obtain ⟨fF, fG⟩ := o2_ cw b0
 obtain ⟨ga, gb, gg, gh, gn, gp, gq, gr⟩ := cf4 bh
 replace ay := ay.out
 obtain ⟨rfl, aI⟩ | ⟨rfl, aI⟩ := sb ay
 ·obtain ⟨rfl, rfl, rfl, rfl, rfl⟩ := s5 aI; clear aI ay
  try go_wp2_with (first | ((with_reducible refine gate_callee (f := 37) rfl ?_); refine gM (some 32) Try.func37 (spec_SegOk.calls k (wrap64 ((wrap64 (256 * (wrap64 (bt j 0)))) + (wrap64 (bt j 1)))) (wrap64 ((wrap64 (256 * (wrap64 (bt j 2)))) + (wrap64 (bt j 3)))) (wrap64 (bt j 4)) (j.extract 5 j.size) true _ dZ.out) ?_; rintro fT hb; replace aJ := am (blk_below (g := ch) (o := .cells #[.int .i64 0, .int .i64 0, .int .i64 0, .string (⟨#[]⟩ : ByteArray)] 26 (0, 0)) (Ap1 aJ b0) hb); replace bh := am (blk_below (g := cI) (o := .cells #[.int .i64 (wrap64 ((wrap64 (256 * (wrap64 (bt j 0)))) + (wrap64 (bt j 1)))), .int .i64 (wrap64 ((wrap64 (256 * (wrap64 (bt j 2)))) + (wrap64 (bt j 3)))), .int .i64 (wrap64 (bt j 4)), .string (j.extract 5 j.size)] 26 (0, 0)) (Ap0 bh) hb); replace HB := De2 HB bY cP hb; obtain ⟨ga, gb, gg, gh, gn, gp, gq, gr⟩ := cf4 bh; obtain ⟨et, eu, ev, ew, eS, eT, eU, eV⟩ := cf4 aJ))
  refine bodyPost_ret (results_ct rfl _ _ ch 26 #[.int .i64 (wrap64 ((wrap64 (256 * (wrap64 (bt j 0)))) + (wrap64 (bt j 1)))), .int .i64 (wrap64 ((wrap64 (256 * (wrap64 (bt j 2)))) + (wrap64 (bt j 3)))), .int .i64 (wrap64 (bt j 4)), .string (j.extract 5 j.size)] (0, 0) _ rfl (Ap0 aJ) Try.underlying26 rfl gk_) rfl ?_; exact ⟨B9x2_, (Ae2 HB bY cP)⟩
 obtain ⟨rfl, rfl, rfl, rfl, rfl⟩ := s5 aI
 clear aI ay
 try go_wp2_with (first | ((with_reducible refine gate_callee (f := 37) rfl ?_); refine gM (some 32) Try.func37 (spec_SegOk.calls k (wrap64 ((wrap64 (256 * (wrap64 (bt j 0)))) + (wrap64 (bt j 1)))) (wrap64 ((wrap64 (256 * (wrap64 (bt j 2)))) + (wrap64 (bt j 3)))) (wrap64 (bt j 4)) (j.extract 5 j.size) false _ dZ.out) ?_; rintro fU hb; replace aJ := am (blk_below (g := ch) (o := .cells #[.int .i64 0, .int .i64 0, .int .i64 0, .string (⟨#[]⟩ : ByteArray)] 26 (0, 0)) (Ap1 aJ b0) hb); replace HB := De2 HB bY cP hb; obtain ⟨et, eu, ev, ew, eS, eT, eU, eV⟩ := cf4 aJ))
 refine bodyPost_ret (results_ct rfl _ _ ch 26 #[.int .i64 0, .int .i64 0, .int .i64 0, .string (⟨#[]⟩ : ByteArray)] (0, 0) _ rfl (Ap0 aJ) Try.underlying26 rfl gk_) rfl ?_
 exact ⟨B9x2_, (Ae2 HB bY cP)⟩
theorem B11x3_ (h : p := by rw [hw]; exact (by (with_reducible repeat (first | apply Kd.N_alloc | apply Kd.N_drewN | apply Kd.N_drew)); exact Kd.N_mono (Kd.N_far (p := ⟨U, 5, none⟩) (Kd.N_far (p := ⟨U, 4, none⟩) (Kd.N_far (p := ⟨U, 3, none⟩) (Kd.N_far (p := ⟨U, 2, none⟩) (Kd.N_far (p := ⟨U, 1, none⟩) (Kd.N_far (p := ⟨U, 0, none⟩) (Kd.N_mono av.out (fun k_ hk => (⟨hk, hk.2⟩ : _ ∧ k_ ≠ U))) (fun _ hk => hk.2) (.int .i64 bk)) (fun _ hk => hk.2) (.int .i64 bl)) (fun _ hk => hk.2) (.int .i64 bm)) (fun _ hk => hk.2) (.int .i64 bn)) (fun _ hk => hk.2) (.bool bo)) (fun _ hk => hk.2) (.string aZ)) (fun _ hk => ⟨hk.1.1.1, ⟨hk.1.1.2.1, ⟨hk.1.1.2.2.1, ⟨hk.1.1.2.2.2, hk.1.2⟩⟩⟩⟩))) : p := h
theorem B11x11_ (h : p := by (with_reducible repeat (first | apply Kd.N_alloc | apply Kd.N_drewN | apply Kd.N_drew)); exact av.out) : p := h
def spec_Unwrap.j0 : Nat → List (S52) → Int → Bool → Int → Int → Int → Int → Bool → ByteArray → Option ((List (S52)) × Int × Int × Int × ByteArray × Bool)
 | 0, _, _, _, _, _, _, _, _, _ => none
 | k + 1, x0, x3, f7, f1, f2, f3, f4, f5, f6 => if f7 = true then ((spec_l11CopyBits.f k x0).bind fun dU => (some (dU, 0, 0, 0, (⟨#[]⟩ : ByteArray), false))) else ((spec_JoinBits.f k x0 f1 f2 f3 f4 f5 f6 x3).bind fun cC => (if cC.2.2.2.2.2.2.2 = true then ((spec_ReadSeg.f k cC.2.2.2.2.2.2.1).bind fun cD => (if cD.2.2.2.2 = true then (some (cC.1, cD.1, cD.2.1, cD.2.2.1, cD.2.2.2.1, true)) else (some (cC.1, 0, 0, 0, (⟨#[]⟩ : ByteArray), false)))) else (some (cC.1, 0, 0, 0, (⟨#[]⟩ : ByteArray), false))))
def spec_Unwrap.f (k : Nat) (l0 : List (S52)) (a1 : ByteArray) (a2 : Int) (a3 : Int) : Option ((List (S52)) × Int × Int × Int × ByteArray × Bool) := (spec_ReadCell.f k a1).bind fun dI => ((spec_ReadDgram.f k dI.2.2.2.1).bind fun ap => (if dI.2.2.2.2 = true then (if ap.2.2.2.2.2.2 = true then (if dI.1 = a2 then (spec_Unwrap.j0 k l0 a3 (ap.2.1 != a2) ap.1 ap.2.1 ap.2.2.1 ap.2.2.2.1 ap.2.2.2.2.1 ap.2.2.2.2.2.1) else (spec_Unwrap.j0 k l0 a3 true ap.1 ap.2.1 ap.2.2.1 ap.2.2.2.1 ap.2.2.2.2.1 ap.2.2.2.2.2.1)) else (spec_Unwrap.j0 k l0 a3 true ap.1 ap.2.1 ap.2.2.1 ap.2.2.2.1 ap.2.2.2.2.1 ap.2.2.2.2.2.1)) else (spec_Unwrap.j0 k l0 a3 true ap.1 ap.2.1 ap.2.2.1 ap.2.2.2.1 ap.2.2.2.2.1 ap.2.2.2.2.2.1)))
theorem spec_Unwrap.calls (k : Nat) (A0 : Option Addr) (c0 : Nat) (l0 : List (S52)) (a1 : ByteArray) (a2 : Int) (a3 : Int) (r1 : List (S52)) (r2 : Int) (r3 : Int) (r4 : Int) (r5 : ByteArray) (r6 : Bool) (w : World) (bS : Kd.C k52 w A0 l0.length l0) (bR : l0.length ≤ c0) (h : spec_Unwrap.f k l0 a1 a2 a3 = some (r1, r2, r3, r4, r5, r6)) :
  Calls Try.prog 5 #[.slice A0 l0.length c0, .string a1, .int .i64 a2, .int .i64 a3] w fun e w' => ∃ bU : Value, e = .returned (.tuple #[bU, .agg #[.int .i64 r2, .int .i64 r3, .int .i64 r4, .string r5], .bool r6]) ∧ Kd.N k52 52 w' w.heap.size (fun k_ => (w.heap.size ≤ k_)) bU r1 ∧ Below w.heap.size w w' := by
 have dN := Try.underlying26
 have jl := Try.underlying40
 have jm := Try.underlying44
 have bO := am bS
 have cc := am bR
 clear bS bR
 have HB := am (Below.refl w.heap.size w)
 have aa := h
 clear h
 unfold spec_Unwrap.f at aa
 obtain ⟨⟨a9, ba, bd, aY, fL⟩, A5, ai⟩ := bsi aa
 (try dsimp only at ai)
 obtain ⟨⟨aC, aB, aD, aE, aF, aG, fM⟩, A6, D⟩ := bsi ai
 (try dsimp only at D)
 replace D := am D
 clear aa ai
 go_enter Try.func5, Try.ntmps5
 go_upto_region 3 with (first | ((with_reducible refine gate_dst (N := 9) rfl ?_); refine bx (N := 9) (cs := #[.int .i64 0, .int .i64 0, .int .i64 0, .string (⟨#[]⟩ : ByteArray)]) (t := 26) ?_; intro q hg w8 hbox hb; have l := am hbox; have Z := gA hg HB; replace HB := hA HB hb; clear hb hbox hg) | ((with_reducible refine gate_callee (f := 13) rfl ?_); refine gM (some 22) Try.func13 (spec_ReadCell.calls k a1 a9 ba bd aY fL _ A5.out) ?_; rintro w9 hb; replace l := bA l hb; replace HB := De1 HB Z hb) | ((with_reducible refine gate_dst (N := 11) rfl ?_); refine bx (N := 11) (cs := #[.int .i64 0, .int .i64 0, .int .i64 0, .string (⟨#[]⟩ : ByteArray)]) (t := 40) ?_; intro aA hg jz hbox hb; have z := am hbox; have ad := gA hg HB; replace HB := De1 HB Z hb; have bq := nA hg l; have bu := mA hg l; replace l := bA l hb; clear hb hbox hg; have hz := bu.out; have ic := bq.out; obtain ⟨eC, eD, eE, eF, e0, e1, e2, e3⟩ := cf4 z) | ((with_reducible refine gate_callee (f := 14) rfl ?_); refine gM (some 28) Try.func14 (spec_ReadDgram.calls k aY aC aB aD aE aF aG fM _ A6.out) ?_; rintro jB hb; replace l := am (blk_below (g := q) (o := .cells #[.int .i64 0, .int .i64 0, .int .i64 0, .string (⟨#[]⟩ : ByteArray)] 26 (0, 0)) (Ap1 l bq) hb); replace z := am (blk_below (g := aA) (o := .cells #[.int .i64 a9, .int .i64 ba, .int .i64 bd, .string aY] 40 (0, 0)) (Ap0 z) hb); replace HB := De2 HB Z ad hb) | ((with_reducible refine gate_dst (N := 13) rfl ?_); refine bx (N := 13) (cs := #[.int .i64 0, .int .i64 0, .int .i64 0, .int .i64 0, .bool false, .string (⟨#[]⟩ : ByteArray)]) (t := 44) ?_; intro ar hg fR hbox hb; have B := am hbox; have ae := gA hg HB; replace HB := De2 HB Z ad hb; have br := nA hg l; have bv := mA hg l; replace l := bA l hb; have b1 := nA hg z; have ce := mA hg z; replace z := bA z hb; clear hb hbox hg; have hB := bv.out; have ie := br.out; have hC := ce.out; have ig := b1.out; obtain ⟨db, dc, dd, de, df, dh, dp, dq, dr, dt, du, dv⟩ := cf6 B) | ((with_reducible refine gate_store (t := 44) (p := 13) rfl ?_); refine store_event (t := 44) (p := 13) (v := ?vo_w18) (w1 := ((((((fR.setCell ⟨ar, 0, none⟩ (.int .i64 aC)).setCell ⟨ar, 1, none⟩ (.int .i64 aB)).setCell ⟨ar, 2, none⟩ (.int .i64 aD)).setCell ⟨ar, 3, none⟩ (.int .i64 aE)).setCell ⟨ar, 4, none⟩ (.bool aF)).setCell ⟨ar, 5, none⟩ (.string aG))) ?hg ?ho ?hn ?hr ?_; (case ho => rfl); (case hg => rfl); (case hn => rfl); (case hr => exact gs_); intro ck hw; replace l : Hc ck q #[.int .i64 0, .int .i64 0, .int .i64 0, .string (⟨#[]⟩ : ByteArray)] 26 := ⟨wAp1 l br⟩; replace z : Hc ck aA #[.int .i64 a9, .int .i64 ba, .int .i64 bd, .string aY] 40 := ⟨wAp1 z b1⟩; replace B : Hc ck ar #[.int .i64 aC, .int .i64 aB, .int .i64 aD, .int .i64 aE, .bool aF, .string aG] 44 := ⟨wAp0 B⟩; replace HB : Hb w ck := ⟨wAe3 HB Z ad ae⟩; clear hw))
 (try simp only [Act.put, List.setIfInBounds_toArray, List.set_cons_zero, List.set_cons_succ])
 go_cut [48] (fun fQ wc => ∃ (kq : Nat) (dY : Bool), fQ = .bool dY ∧ Aside0 (spec_Unwrap.j0 kq l0 a3 dY aC aB aD aE aF aG = some (r1, r2, r3, r4, r5, r6)) ∧ Aside0 (kq ≤ k) ∧ Hc wc q #[.int .i64 0, .int .i64 0, .int .i64 0, .string (⟨#[]⟩ : ByteArray)] 26 ∧ Hc wc aA #[.int .i64 a9, .int .i64 ba, .int .i64 bd, .string aY] 40 ∧ Hc wc ar #[.int .i64 aC, .int .i64 aB, .int .i64 aD, .int .i64 aE, .bool aF, .string aG] 44 ∧ Hb w wc)
 case first =>
  replace D := D.out
  obtain ⟨rfl, af⟩ | ⟨rfl, af⟩ := sb D
  ·obtain ⟨rfl, aj⟩ | ⟨rfl, aj⟩ := sb af
   ·obtain ⟨cV, az⟩ | ⟨cV, az⟩ := sp aj
    ·obtain ⟨cE, fx⟩ := yE cV; clear cV
     (first | rw [cE] | (simp only [i64_w, i32_w]; rw [cE]) | skip)
     replace az := am az; clear D af aj; obtain ⟨hD, ih, hE, ii⟩ := o4_ bu bq b1 ce; obtain ⟨eC, eD, eE, eF, e0, e1, e2, e3⟩ := cf4 z; obtain ⟨fF, fG⟩ := o2_ bv br; obtain ⟨db, dc, dd, de, df, dh, dp, dq, dr, dt, du, dv⟩ := cf6 B
     go_wp2
     go_meet
     case rel => exact ⟨_, ((aB != a2)), be_, az, D4x0_⟩
    ·obtain ⟨cE, fx⟩ := nE cV
     (first | rw [cE] | (simp only [i64_w, i32_w]; rw [cE]) | skip)
     replace az := am az; clear D af aj; obtain ⟨hF, ij, hG, ik⟩ := o4_ bu bq b1 ce; obtain ⟨eC, eD, eE, eF, e0, e1, e2, e3⟩ := cf4 z
     go_wp2
     go_meet
     case rel => exact ⟨_, true, be_, az, D4x0_⟩
   ·replace aj := am aj; clear D af
    go_wp2
    go_meet
    case rel => exact ⟨_, true, be_, aj, D4x0_⟩
  ·replace af := am af; clear D
   go_wp2
   go_meet
   case rel => exact ⟨_, true, be_, af, D4x0_⟩
 case rest =>
  clear D; obtain ⟨kq, dY, rfl, ac, gy, l, z, B, HB⟩ := hcut
  cases kq with
  | zero => exact absurd ac.out (by simp [spec_Unwrap.j0])
  | succ cj => ?_
  replace ac := ac.out; simp only [spec_Unwrap.j0] at ac
  obtain ⟨rfl, ax⟩ | ⟨rfl, ax⟩ := sb ac
  ·obtain ⟨dU, fg, ay⟩ := bsi ax; (try dsimp only at ay); obtain ⟨rfl, rfl, rfl, rfl, rfl, rfl⟩ := s6 ay; clear ay ac ax
   go_wp2_with (first | ((with_reducible refine gate_callee (f := 15) rfl ?_); refine gL (some 50) Try.func15 #[.slice A0 l0.length c0] ?_; refine (spec_l11CopyBits.calls cj _ _ l0 dU _ (tc (Kd.C_below bO.out HB.out)) cc.out fg.out).mono ?_; rintro e jG ⟨jw, rfl, bw, hb⟩; refine ⟨_, rfl, ?_⟩; have fm := am (Kd.N_lower (Kd.N_mono (ok' := fun k_ => (w.heap.size ≤ k_) ∧ k_ ≠ q ∧ k_ ≠ aA ∧ k_ ≠ ar) (Kd.S_N (Kd.S_bound bw)) (fun k_ hk_ => ⟨(Nat.le_trans (below_size (Ae3 HB Z ad ae)) hk_.2.1), (Kd.freshB (g := q) (o := .cells #[.int .i64 0, .int .i64 0, .int .i64 0, .string (⟨#[]⟩ : ByteArray)] 26 (0, 0)) (Ab l) k_ hk_.2.1), (Kd.freshB (g := aA) (o := .cells #[.int .i64 a9, .int .i64 ba, .int .i64 bd, .string aY] 40 (0, 0)) (Ab z) k_ hk_.2.1), (Kd.freshB (g := ar) (o := .cells #[.int .i64 aC, .int .i64 aB, .int .i64 aD, .int .i64 aE, .bool aF, .string aG] 44 (0, 0)) (Ab B) k_ hk_.2.1)⟩)) (below_size (Ae3 HB Z ad ae))); replace l := bA l hb; replace z := bA z hb; replace B := bA B hb; replace HB := De3 HB Z ad ae hb; have hH := bq.out; have il := bu.out; have hI := br.out; have im := bv.out; obtain ⟨ex, ey, ez, eB, eW, eX, eY, eZ⟩ := cf4 l))
   refine bodyPost_ret (results_list (rs := [.tmp 8, .cell 9 26, .tmp 10]) rfl (by simp) (.tmp (.cell q 26 #[.int .i64 0, .int .i64 0, .int .i64 0, .string (⟨#[]⟩ : ByteArray)] (0, 0) _ rfl (Ap0 l) Try.underlying26 rfl gk_ (.tmp .nil)))) rfl ?_; exact ⟨_, B9x2_, (by (with_reducible repeat (first | apply Kd.N_alloc | apply Kd.N_drewN | apply Kd.N_drew)); exact Kd.N_mono (Kd.N_far (p := ⟨q, 3, none⟩) (Kd.N_far (p := ⟨q, 2, none⟩) (Kd.N_far (p := ⟨q, 1, none⟩) (Kd.N_far (p := ⟨q, 0, none⟩) (Kd.N_mono fm.out (fun k_ hk => (⟨hk, hk.2.1⟩ : _ ∧ k_ ≠ q))) (fun _ hk => hk.2) (.int .i64 0)) (fun _ hk => hk.2) (.int .i64 0)) (fun _ hk => hk.2) (.int .i64 0)) (fun _ hk => hk.2) (.string (⟨#[]⟩ : ByteArray))) (fun _ hk => hk.1.1)), (Ae3 HB Z ad ae)⟩
  ·obtain ⟨⟨bT, bk, bl, bm, bn, bo, aZ, ju⟩, dD, aI⟩ := bsi ax; (try dsimp only at aI)
   obtain ⟨rfl, aM⟩ | ⟨rfl, aM⟩ := sb aI
   ·obtain ⟨⟨bB, bC, bD, bE, jv⟩, d2, bp⟩ := bsi aM; (try dsimp only at bp)
    obtain ⟨rfl, bG⟩ | ⟨rfl, bG⟩ := sb bp
    ·obtain ⟨rfl, rfl, rfl, rfl, rfl, rfl⟩ := s6 bG; clear bG ac ax aI aM bp; obtain ⟨hJ, io, hL, ip⟩ := o4_ bv br ce b1; obtain ⟨db, dc, dd, de, df, dh, dp, dq, dr, dt, du, dv⟩ := cf6 B
     try go_wp2_with (first | ((with_reducible refine gate_callee (f := 16) rfl ?_); refine gL (some 56) Try.func16 #[.slice A0 l0.length c0, .agg #[.int .i64 aC, .int .i64 aB, .int .i64 aD, .int .i64 aE, .bool aF, .string aG], .int .i64 a3] ?_; refine (spec_JoinBits.calls cj _ _ l0 aC aB aD aE aF aG a3 bT bk bl bm bn bo aZ true _ (tc (Kd.C_below bO.out HB.out)) cc.out dD.out).mono ?_; rintro e jK ⟨b5, rfl, bw, hb⟩; refine ⟨_, rfl, ?_⟩; have av := am (Kd.N_lower (Kd.N_mono (ok' := fun k_ => (w.heap.size ≤ k_) ∧ k_ ≠ q ∧ k_ ≠ aA ∧ k_ ≠ ar) bw (fun k_ hk_ => ⟨(Nat.le_trans (below_size (Ae3 HB Z ad ae)) hk_), (Kd.freshB (g := q) (o := .cells #[.int .i64 0, .int .i64 0, .int .i64 0, .string (⟨#[]⟩ : ByteArray)] 26 (0, 0)) (Ab l) k_ hk_), (Kd.freshB (g := aA) (o := .cells #[.int .i64 a9, .int .i64 ba, .int .i64 bd, .string aY] 40 (0, 0)) (Ab z) k_ hk_), (Kd.freshB (g := ar) (o := .cells #[.int .i64 aC, .int .i64 aB, .int .i64 aD, .int .i64 aE, .bool aF, .string aG] 44 (0, 0)) (Ab B) k_ hk_)⟩)) (below_size (Ae3 HB Z ad ae))); replace l := bA l hb; replace z := bA z hb; replace B := bA B hb; replace HB := De3 HB Z ad ae hb) | ((with_reducible refine gate_dst (N := 16) rfl ?_); refine bx (N := 16) (cs := #[.int .i64 0, .int .i64 0, .int .i64 0, .int .i64 0, .bool false, .string (⟨#[]⟩ : ByteArray)]) (t := 44) ?_; intro U hg fV hbox hb; replace av := am (Kd.N_below (Kd.N_elderB B11x11_ U (Nat.le_of_eq hg.symm)) hb); have ah := am hbox; have aX := gA hg HB; replace HB := De3 HB Z ad ae hb; have bj := nA hg l; have bH := mA hg l; replace l := bA l hb; have bP := nA hg z; have cz := mA hg z; replace z := bA z hb; have bQ := nA hg B; have cA := mA hg B; replace B := bA B hb; clear hb hbox hg; have hM := bH.out; have iq := bj.out; have hN := cz.out; have ir := bP.out; have hO := cA.out; have iu := bQ.out; obtain ⟨di, dj, dk, dl, dm, dn, dw, dx, dy, dz, dB, dC⟩ := cf6 ah) | ((with_reducible refine gate_store (t := 44) (p := 16) rfl ?_); refine store_event (t := 44) (p := 16) (v := ?vo_w49) (w1 := ((((((fV.setCell ⟨U, 0, none⟩ (.int .i64 bk)).setCell ⟨U, 1, none⟩ (.int .i64 bl)).setCell ⟨U, 2, none⟩ (.int .i64 bm)).setCell ⟨U, 3, none⟩ (.int .i64 bn)).setCell ⟨U, 4, none⟩ (.bool bo)).setCell ⟨U, 5, none⟩ (.string aZ))) ?hg ?ho ?hn ?hr ?_; (case ho => rfl); (case hg => rfl); (case hn => rfl); (case hr => exact gs_); intro cl hw; replace av : Aside0 (Kd.N k52 52 cl w.heap.size (fun k_ => (w.heap.size ≤ k_) ∧ k_ ≠ q ∧ k_ ≠ aA ∧ k_ ≠ ar ∧ k_ ≠ U) b5 bT) := ⟨B11x3_⟩; replace l : Hc cl q #[.int .i64 0, .int .i64 0, .int .i64 0, .string (⟨#[]⟩ : ByteArray)] 26 := ⟨wAp1 l bj⟩; replace z : Hc cl aA #[.int .i64 a9, .int .i64 ba, .int .i64 bd, .string aY] 40 := ⟨wAp1 z bP⟩; replace B : Hc cl ar #[.int .i64 aC, .int .i64 aB, .int .i64 aD, .int .i64 aE, .bool aF, .string aG] 44 := ⟨wAp1 B bQ⟩; replace ah : Hc cl U #[.int .i64 bk, .int .i64 bl, .int .i64 bm, .int .i64 bn, .bool bo, .string aZ] 44 := ⟨wAp0 ah⟩; replace HB : Hb w cl := ⟨wAe4 HB Z ad ae aX⟩; clear hw; obtain ⟨di, dj, dk, dl, dm, dn, dw, dx, dy, dz, dB, dC⟩ := cf6 ah) | ((with_reducible refine gate_callee (f := 17) rfl ?_); refine gM (some 67) Try.func17 (spec_ReadSeg.calls cj aZ bB bC bD bE true _ d2.out) ?_; rintro jL hb; replace av := am (Kd.N_below B11x11_ hb); replace l := bA l hb; replace z := bA z hb; replace B := bA B hb; replace ah := bA ah hb; replace HB := De4 HB Z ad ae aX hb) | ((with_reducible refine gate_dst (N := 18) rfl ?_); refine bx (N := 18) (cs := #[.int .i64 0, .int .i64 0, .int .i64 0, .string (⟨#[]⟩ : ByteArray)]) (t := 26) ?_; intro ak hg fW hbox hb; replace av := am (Kd.N_below (Kd.N_elderB B11x11_ ak (Nat.le_of_eq hg.symm)) hb); have aV := am hbox; have cp := gA hg HB; replace HB := De4 HB Z ad ae aX hb; have bM := nA hg l; have aw := mA hg l; replace l := bA l hb; have cx := nA hg z; have dF := mA hg z; replace z := bA z hb; have cy := nA hg B; have dG := mA hg B; replace B := bA B hb; have cB := nA hg ah; have dH := mA hg ah; replace ah := bA ah hb; clear hb hbox hg; have hP := aw.out; have iv := bM.out; have hQ := dF.out; have iw := cx.out; have hR := dG.out; have ix := cy.out; have hS := dH.out; have iy := cB.out; obtain ⟨gi, gj, gl, gm, gs, gu, gv, gw⟩ := cf4 aV))
     generalize hw : ((((fW.setCell ⟨ak, 0, none⟩ (.int .i64 bB)).setCell ⟨ak, 1, none⟩ (.int .i64 bC)).setCell ⟨ak, 2, none⟩ (.int .i64 bD)).setCell ⟨ak, 3, none⟩ (.string bE)) = bV; replace hw := hw.symm
     replace av : Aside0 (Kd.N k52 52 bV w.heap.size (fun k_ => (w.heap.size ≤ k_) ∧ k_ ≠ q ∧ k_ ≠ aA ∧ k_ ≠ ar ∧ k_ ≠ U ∧ k_ ≠ ak) b5 bT) := ⟨(by rw [hw]; exact (by (with_reducible repeat (first | apply Kd.N_alloc | apply Kd.N_drewN | apply Kd.N_drew)); exact Kd.N_mono (Kd.N_far (p := ⟨ak, 3, none⟩) (Kd.N_far (p := ⟨ak, 2, none⟩) (Kd.N_far (p := ⟨ak, 1, none⟩) (Kd.N_far (p := ⟨ak, 0, none⟩) (Kd.N_mono av.out (fun k_ hk => (⟨hk, hk.2⟩ : _ ∧ k_ ≠ ak))) (fun _ hk => hk.2) (.int .i64 bB)) (fun _ hk => hk.2) (.int .i64 bC)) (fun _ hk => hk.2) (.int .i64 bD)) (fun _ hk => hk.2) (.string bE)) (fun _ hk => ⟨hk.1.1.1, ⟨hk.1.1.2.1, ⟨hk.1.1.2.2.1, ⟨hk.1.1.2.2.2.1, ⟨hk.1.1.2.2.2.2, hk.1.2⟩⟩⟩⟩⟩)))⟩
     replace l : Hc bV q #[.int .i64 0, .int .i64 0, .int .i64 0, .string (⟨#[]⟩ : ByteArray)] 26 := ⟨wAp1 l bM⟩
     replace z : Hc bV aA #[.int .i64 a9, .int .i64 ba, .int .i64 bd, .string aY] 40 := ⟨wAp1 z cx⟩
     replace B : Hc bV ar #[.int .i64 aC, .int .i64 aB, .int .i64 aD, .int .i64 aE, .bool aF, .string aG] 44 := ⟨wAp1 B cy⟩
     replace ah : Hc bV U #[.int .i64 bk, .int .i64 bl, .int .i64 bm, .int .i64 bn, .bool bo, .string aZ] 44 := ⟨wAp1 ah cB⟩
     replace aV : Hc bV ak #[.int .i64 bB, .int .i64 bC, .int .i64 bD, .string bE] 26 := ⟨wAp0 aV⟩
     replace HB : Hb w bV := ⟨wAe5 HB Z ad ae aX cp⟩
     clear hw; replace av := am (Kd.N_drew av.out); replace l := dA l; replace z := dA z; replace B := dA B; replace ah := dA ah; replace aV := dA aV; replace HB := bdr HB; refine start_ (n := 5) (S := fun w' => w'.cell? ⟨ak, 0, none⟩ = some (.int .i64 bB) ∧ w'.cell? ⟨ak, 1, none⟩ = some (.int .i64 bC) ∧ w'.cell? ⟨ak, 2, none⟩ = some (.int .i64 bD) ∧ w'.cell? ⟨ak, 3, none⟩ = some (.string bE)) (ds := []) #[false, false, false, false, false] gk_ rfl rfl ⟨bc aV 0, bc aV 1, bc aV 2, bc aV 3⟩ (fun aL => ?_); generalize bV.drew = cZ at av l z B ah aV HB aL ⊢; refine pure_ (i := 0) (N := some 74) (v := ?_) (a' := ?_) #[true, false, false, false, false] rfl rfl gk_ (fun _ _ _ h => h) (Or.inl ⟨(by rfl), ?_⟩) ?_ ?_; rotate_left
     ·intro w'; go_simp; with_reducible rfl
     rotate_left
     ·simp only [Act.put, List.setIfInBounds_toArray, List.set_cons_zero, List.set_cons_succ, i64_w, i32_w]; rfl
     refine pure_ (i := 2) (N := some 8) (v := ?_) (a' := ?_) #[true, false, true, false, false] rfl rfl gk_ (fun _ _ _ h => h) (Or.inl ⟨(by rfl), ?_⟩) ?_ ?_; rotate_left
     ·intro w'; go_simp; with_reducible rfl
     rotate_left
     ·simp only [Act.put, List.setIfInBounds_toArray, List.set_cons_zero, List.set_cons_succ, i64_w, i32_w]; rfl
     refine take_ (i := 1) (N := some 75) (v := ?_) (a' := ?_) #[true, true, true, false, false] rfl rfl gk_ (fun _ _ _ h => h) (Or.inl ⟨(by rfl), ?_⟩) aL ?_ ?_; rotate_left
     ·rintro w' ⟨s0, s1, s2, s3⟩; go_simp; with_reducible rfl
     rotate_left
     ·simp only [Act.put, List.setIfInBounds_toArray, List.set_cons_zero, List.set_cons_succ, i64_w, i32_w]; rfl
     refine one_ (i := 3) (N := none) #[true, true, true, true, false] rfl rfl gk_ (by decide) (fun K hK => ?_)
     have jg : cZ.cell? ⟨q, 0, none⟩ = some (.int .i64 0) := bc l 0
     have gY := blk_frozen l.out 0; obtain ⟨iV, iW, iX, iY, g6, g7, g8, g9⟩ := o8_ bu bv bH aw bq br bj bM
     have jh : cZ.cell? ⟨q, 1, none⟩ = some (.int .i64 0) := bc l 1
     have gZ := blk_frozen l.out 1; obtain ⟨iZ, i0, i1, i2, ha, he, hf, hh⟩ := o8_ bu bv bH aw bq br bj bM
     have ji : cZ.cell? ⟨q, 2, none⟩ = some (.int .i64 0) := bc l 2
     have g0 := blk_frozen l.out 2; obtain ⟨i3, i4, i5, i6, hj, hl, hm, hp⟩ := o8_ bu bv bH aw bq br bj bM
     have jj : cZ.cell? ⟨q, 3, none⟩ = some (.string (⟨#[]⟩ : ByteArray)) := bc l 3
     have g1 := blk_frozen l.out 3; obtain ⟨i7, i9, ja, jb, hs, ht, hu, hv⟩ := o8_ bu bv bH aw bq br bj bM; refine skip_ (w1 := ?_) (by rfl) rfl ?_ ?_; rotate_left
     ·go_simp; rfl
     refine hK.out _ _ ⟨((cell_far (p := ⟨q, _, none⟩) aw.out _).trans (((cell_far (p := ⟨q, _, none⟩) aw.out _).trans (((cell_far (p := ⟨q, _, none⟩) aw.out _).trans (((cell_far (p := ⟨q, _, none⟩) aw.out _).trans (aL.1)))))))), ((cell_far (p := ⟨q, _, none⟩) aw.out _).trans (((cell_far (p := ⟨q, _, none⟩) aw.out _).trans (((cell_far (p := ⟨q, _, none⟩) aw.out _).trans (((cell_far (p := ⟨q, _, none⟩) aw.out _).trans (aL.2.1)))))))), ((cell_far (p := ⟨q, _, none⟩) aw.out _).trans (((cell_far (p := ⟨q, _, none⟩) aw.out _).trans (((cell_far (p := ⟨q, _, none⟩) aw.out _).trans (((cell_far (p := ⟨q, _, none⟩) aw.out _).trans (aL.2.2.1)))))))), ((cell_far (p := ⟨q, _, none⟩) aw.out _).trans (((cell_far (p := ⟨q, _, none⟩) aw.out _).trans (((cell_far (p := ⟨q, _, none⟩) aw.out _).trans (((cell_far (p := ⟨q, _, none⟩) aw.out _).trans (aL.2.2.2))))))))⟩ (fun aL => ?_); clear hK K; refine pure_ (i := 4) (N := some 10) (v := ?_) (a' := ?_) #[true, true, true, true, true] rfl rfl gk_ (fun _ _ _ h => h) (Or.inl ⟨(by rfl), ?_⟩) ?_ ?_; rotate_left
     ·intro w'; go_simp; with_reducible rfl
     rotate_left
     ·simp only [Act.put, List.setIfInBounds_toArray, List.set_cons_zero, List.set_cons_succ, i64_w, i32_w]; rfl
     refine done_ gk_ ?_
     try go_wp2
     refine bodyPost_ret (results_list (rs := [.tmp 8, .cell 9 26, .tmp 10]) rfl (by simp) (.tmp (.cell q 26 #[.int .i64 bB, .int .i64 bC, .int .i64 bD, .string bE] (0, 0) _ rfl (Ap0 l) Try.underlying26 rfl gk_ (.tmp .nil)))) rfl ?_; exact ⟨_, B9x2_, (by (with_reducible repeat (first | apply Kd.N_alloc | apply Kd.N_drewN | apply Kd.N_drew)); exact Kd.N_mono (Kd.N_far (p := ⟨q, 3, none⟩) (Kd.N_far (p := ⟨q, 2, none⟩) (Kd.N_far (p := ⟨q, 1, none⟩) (Kd.N_far (p := ⟨q, 0, none⟩) (Kd.N_mono av.out (fun k_ hk => (⟨hk, hk.2.1⟩ : _ ∧ k_ ≠ q))) (fun _ hk => hk.2) (.int .i64 bB)) (fun _ hk => hk.2) (.int .i64 bC)) (fun _ hk => hk.2) (.int .i64 bD)) (fun _ hk => hk.2) (.string bE)) (fun _ hk => hk.1.1)), (Ae5 HB Z ad ae aX cp)⟩
    ·obtain ⟨rfl, rfl, rfl, rfl, rfl, rfl⟩ := s6 bG; clear bG ac ax aI aM bp; obtain ⟨hT, iz, hU, iA⟩ := o4_ bv br ce b1; obtain ⟨db, dc, dd, de, df, dh, dp, dq, dr, dt, du, dv⟩ := cf6 B
     go_wp2_with (first | ((with_reducible refine gate_callee (f := 16) rfl ?_); refine gL (some 56) Try.func16 #[.slice A0 l0.length c0, .agg #[.int .i64 aC, .int .i64 aB, .int .i64 aD, .int .i64 aE, .bool aF, .string aG], .int .i64 a3] ?_; refine (spec_JoinBits.calls cj _ _ l0 aC aB aD aE aF aG a3 bT bk bl bm bn bo aZ true _ (tc (Kd.C_below bO.out HB.out)) cc.out dD.out).mono ?_; rintro e jM ⟨b5, rfl, bw, hb⟩; refine ⟨_, rfl, ?_⟩; have av := am (Kd.N_lower (Kd.N_mono (ok' := fun k_ => (w.heap.size ≤ k_) ∧ k_ ≠ q ∧ k_ ≠ aA ∧ k_ ≠ ar) bw (fun k_ hk_ => ⟨(Nat.le_trans (below_size (Ae3 HB Z ad ae)) hk_), (Kd.freshB (g := q) (o := .cells #[.int .i64 0, .int .i64 0, .int .i64 0, .string (⟨#[]⟩ : ByteArray)] 26 (0, 0)) (Ab l) k_ hk_), (Kd.freshB (g := aA) (o := .cells #[.int .i64 a9, .int .i64 ba, .int .i64 bd, .string aY] 40 (0, 0)) (Ab z) k_ hk_), (Kd.freshB (g := ar) (o := .cells #[.int .i64 aC, .int .i64 aB, .int .i64 aD, .int .i64 aE, .bool aF, .string aG] 44 (0, 0)) (Ab B) k_ hk_)⟩)) (below_size (Ae3 HB Z ad ae))); replace l := bA l hb; replace z := bA z hb; replace B := bA B hb; replace HB := De3 HB Z ad ae hb) | ((with_reducible refine gate_dst (N := 16) rfl ?_); refine bx (N := 16) (cs := #[.int .i64 0, .int .i64 0, .int .i64 0, .int .i64 0, .bool false, .string (⟨#[]⟩ : ByteArray)]) (t := 44) ?_; intro U hg fX hbox hb; replace av := am (Kd.N_below (Kd.N_elderB B11x11_ U (Nat.le_of_eq hg.symm)) hb); have ah := am hbox; have aX := gA hg HB; replace HB := De3 HB Z ad ae hb; have bj := nA hg l; have bH := mA hg l; replace l := bA l hb; have bP := nA hg z; have cz := mA hg z; replace z := bA z hb; have bQ := nA hg B; have cA := mA hg B; replace B := bA B hb; clear hb hbox hg; have hV := bH.out; have iB := bj.out; have hX := cz.out; have iD := bP.out; have hY := cA.out; have iE := bQ.out; obtain ⟨di, dj, dk, dl, dm, dn, dw, dx, dy, dz, dB, dC⟩ := cf6 ah) | ((with_reducible refine gate_store (t := 44) (p := 16) rfl ?_); refine store_event (t := 44) (p := 16) (v := ?vo_w73) (w1 := ((((((fX.setCell ⟨U, 0, none⟩ (.int .i64 bk)).setCell ⟨U, 1, none⟩ (.int .i64 bl)).setCell ⟨U, 2, none⟩ (.int .i64 bm)).setCell ⟨U, 3, none⟩ (.int .i64 bn)).setCell ⟨U, 4, none⟩ (.bool bo)).setCell ⟨U, 5, none⟩ (.string aZ))) ?hg ?ho ?hn ?hr ?_; (case ho => rfl); (case hg => rfl); (case hn => rfl); (case hr => exact gs_); intro cm hw; replace av : Aside0 (Kd.N k52 52 cm w.heap.size (fun k_ => (w.heap.size ≤ k_) ∧ k_ ≠ q ∧ k_ ≠ aA ∧ k_ ≠ ar ∧ k_ ≠ U) b5 bT) := ⟨B11x3_⟩; replace l : Hc cm q #[.int .i64 0, .int .i64 0, .int .i64 0, .string (⟨#[]⟩ : ByteArray)] 26 := ⟨wAp1 l bj⟩; replace z : Hc cm aA #[.int .i64 a9, .int .i64 ba, .int .i64 bd, .string aY] 40 := ⟨wAp1 z bP⟩; replace B : Hc cm ar #[.int .i64 aC, .int .i64 aB, .int .i64 aD, .int .i64 aE, .bool aF, .string aG] 44 := ⟨wAp1 B bQ⟩; replace ah : Hc cm U #[.int .i64 bk, .int .i64 bl, .int .i64 bm, .int .i64 bn, .bool bo, .string aZ] 44 := ⟨wAp0 ah⟩; replace HB : Hb w cm := ⟨wAe4 HB Z ad ae aX⟩; clear hw; obtain ⟨di, dj, dk, dl, dm, dn, dw, dx, dy, dz, dB, dC⟩ := cf6 ah) | ((with_reducible refine gate_callee (f := 17) rfl ?_); refine gM (some 67) Try.func17 (spec_ReadSeg.calls cj aZ bB bC bD bE false _ d2.out) ?_; rintro jN hb; replace av := am (Kd.N_below B11x11_ hb); replace l := bA l hb; replace z := bA z hb; replace B := bA B hb; replace ah := bA ah hb; replace HB := De4 HB Z ad ae aX hb) | ((with_reducible refine gate_dst (N := 18) rfl ?_); refine bx (N := 18) (cs := #[.int .i64 0, .int .i64 0, .int .i64 0, .string (⟨#[]⟩ : ByteArray)]) (t := 26) ?_; intro ak hg fY hbox hb; replace av := am (Kd.N_below (Kd.N_elderB B11x11_ ak (Nat.le_of_eq hg.symm)) hb); have aV := am hbox; have cp := gA hg HB; replace HB := De4 HB Z ad ae aX hb; have bM := nA hg l; have aw := mA hg l; replace l := bA l hb; have cx := nA hg z; have dF := mA hg z; replace z := bA z hb; have cy := nA hg B; have dG := mA hg B; replace B := bA B hb; have cB := nA hg ah; have dH := mA hg ah; replace ah := bA ah hb; clear hb hbox hg; have hZ := aw.out; have iF := bM.out; have h0 := dF.out; have iG := cx.out; have h1 := dG.out; have iH := cy.out; have h3 := dH.out; have iJ := cB.out; obtain ⟨gi, gj, gl, gm, gs, gu, gv, gw⟩ := cf4 aV; have h4 := bq.out; have iK := bu.out; obtain ⟨ex, ey, ez, eB, eW, eX, eY, eZ⟩ := cf4 l) | ((with_reducible refine gate_store (t := 26) (p := 9) rfl ?_); refine store_event (t := 26) (p := 9) (v := ?vo_w84) (w1 := ((((((((fY.setCell ⟨ak, 0, none⟩ (.int .i64 bB)).setCell ⟨ak, 1, none⟩ (.int .i64 bC)).setCell ⟨ak, 2, none⟩ (.int .i64 bD)).setCell ⟨ak, 3, none⟩ (.string bE)).setCell ⟨q, 0, none⟩ (.int .i64 0)).setCell ⟨q, 1, none⟩ (.int .i64 0)).setCell ⟨q, 2, none⟩ (.int .i64 0)).setCell ⟨q, 3, none⟩ (.string (⟨#[]⟩ : ByteArray)))) ?hg ?ho ?hn ?hr ?_; (case ho => rfl); (case hg => rfl); (case hn => rfl); (case hr => exact gs_); intro b8 hw; replace av : Aside0 (Kd.N k52 52 b8 w.heap.size (fun k_ => (w.heap.size ≤ k_) ∧ k_ ≠ q ∧ k_ ≠ aA ∧ k_ ≠ ar ∧ k_ ≠ U ∧ k_ ≠ ak) b5 bT) := ⟨(by rw [hw]; exact (by (with_reducible repeat (first | apply Kd.N_alloc | apply Kd.N_drewN | apply Kd.N_drew)); exact Kd.N_mono (Kd.N_far (p := ⟨q, 3, none⟩) (Kd.N_far (p := ⟨q, 2, none⟩) (Kd.N_far (p := ⟨q, 1, none⟩) (Kd.N_far (p := ⟨q, 0, none⟩) (Kd.N_far (p := ⟨ak, 3, none⟩) (Kd.N_far (p := ⟨ak, 2, none⟩) (Kd.N_far (p := ⟨ak, 1, none⟩) (Kd.N_far (p := ⟨ak, 0, none⟩) (Kd.N_mono (Kd.N_mono av.out (fun k_ hk => (⟨hk, hk.2⟩ : _ ∧ k_ ≠ ak))) (fun k_ hk => (⟨hk, hk.1.1.2.1⟩ : _ ∧ k_ ≠ q))) (fun _ hk => hk.1.2) (.int .i64 bB)) (fun _ hk => hk.1.2) (.int .i64 bC)) (fun _ hk => hk.1.2) (.int .i64 bD)) (fun _ hk => hk.1.2) (.string bE)) (fun _ hk => hk.2) (.int .i64 0)) (fun _ hk => hk.2) (.int .i64 0)) (fun _ hk => hk.2) (.int .i64 0)) (fun _ hk => hk.2) (.string (⟨#[]⟩ : ByteArray))) (fun _ hk => ⟨hk.1.1.1.1, ⟨hk.1.1.1.2.1, ⟨hk.1.1.1.2.2.1, ⟨hk.1.1.1.2.2.2.1, ⟨hk.1.1.1.2.2.2.2, hk.1.1.2⟩⟩⟩⟩⟩)))⟩; replace l : Hc b8 q #[.int .i64 0, .int .i64 0, .int .i64 0, .string (⟨#[]⟩ : ByteArray)] 26 := ⟨wAp1 l bM⟩; replace z : Hc b8 aA #[.int .i64 a9, .int .i64 ba, .int .i64 bd, .string aY] 40 := ⟨wAp2 z bu cx⟩; replace B : Hc b8 ar #[.int .i64 aC, .int .i64 aB, .int .i64 aD, .int .i64 aE, .bool aF, .string aG] 44 := ⟨wAp2 B bv cy⟩; replace ah : Hc b8 U #[.int .i64 bk, .int .i64 bl, .int .i64 bm, .int .i64 bn, .bool bo, .string aZ] 44 := ⟨wAp2 ah bH cB⟩; replace aV : Hc b8 ak #[.int .i64 bB, .int .i64 bC, .int .i64 bD, .string bE] 26 := ⟨wAp1 aV aw⟩; replace HB : Hb w b8 := ⟨wAe5 HB Z ad ae aX cp⟩; clear hw))
     refine bodyPost_ret (results_list (rs := [.tmp 8, .cell 9 26, .tmp 10]) rfl (by simp) (.tmp (.cell q 26 #[.int .i64 0, .int .i64 0, .int .i64 0, .string (⟨#[]⟩ : ByteArray)] (0, 0) _ rfl (Ab l) Try.underlying26 rfl gk_ (.tmp .nil)))) rfl ?_; exact ⟨_, B9x2_, (by (with_reducible repeat (first | apply Kd.N_alloc | apply Kd.N_drewN | apply Kd.N_drew)); exact Kd.N_mono av.out (fun _ hk => hk.1)), (Ae5 HB Z ad ae aX cp)⟩
   ·obtain ⟨rfl, rfl, rfl, rfl, rfl, rfl⟩ := s6 aM; clear aM ac ax aI; obtain ⟨h5, iL, h6, iM⟩ := o4_ bv br ce b1; obtain ⟨db, dc, dd, de, df, dh, dp, dq, dr, dt, du, dv⟩ := cf6 B
    go_wp2_with (first | ((with_reducible refine gate_callee (f := 16) rfl ?_); refine gL (some 56) Try.func16 #[.slice A0 l0.length c0, .agg #[.int .i64 aC, .int .i64 aB, .int .i64 aD, .int .i64 aE, .bool aF, .string aG], .int .i64 a3] ?_; refine (spec_JoinBits.calls cj _ _ l0 aC aB aD aE aF aG a3 bT bk bl bm bn bo aZ false _ (tc (Kd.C_below bO.out HB.out)) cc.out dD.out).mono ?_; rintro e jO ⟨b5, rfl, bw, hb⟩; refine ⟨_, rfl, ?_⟩; have av := am (Kd.N_lower (Kd.N_mono (ok' := fun k_ => (w.heap.size ≤ k_) ∧ k_ ≠ q ∧ k_ ≠ aA ∧ k_ ≠ ar) bw (fun k_ hk_ => ⟨(Nat.le_trans (below_size (Ae3 HB Z ad ae)) hk_), (Kd.freshB (g := q) (o := .cells #[.int .i64 0, .int .i64 0, .int .i64 0, .string (⟨#[]⟩ : ByteArray)] 26 (0, 0)) (Ab l) k_ hk_), (Kd.freshB (g := aA) (o := .cells #[.int .i64 a9, .int .i64 ba, .int .i64 bd, .string aY] 40 (0, 0)) (Ab z) k_ hk_), (Kd.freshB (g := ar) (o := .cells #[.int .i64 aC, .int .i64 aB, .int .i64 aD, .int .i64 aE, .bool aF, .string aG] 44 (0, 0)) (Ab B) k_ hk_)⟩)) (below_size (Ae3 HB Z ad ae))); replace l := bA l hb; replace z := bA z hb; replace B := bA B hb; replace HB := De3 HB Z ad ae hb) | ((with_reducible refine gate_dst (N := 16) rfl ?_); refine bx (N := 16) (cs := #[.int .i64 0, .int .i64 0, .int .i64 0, .int .i64 0, .bool false, .string (⟨#[]⟩ : ByteArray)]) (t := 44) ?_; intro U hg fZ hbox hb; replace av := am (Kd.N_below (Kd.N_elderB B11x11_ U (Nat.le_of_eq hg.symm)) hb); have ah := am hbox; have aX := gA hg HB; replace HB := De3 HB Z ad ae hb; have bj := nA hg l; have bH := mA hg l; replace l := bA l hb; have bP := nA hg z; have cz := mA hg z; replace z := bA z hb; have bQ := nA hg B; have cA := mA hg B; replace B := bA B hb; clear hb hbox hg; have h7 := bH.out; have iN := bj.out; have h8 := cz.out; have iO := bP.out; have h9 := cA.out; have iP := bQ.out; obtain ⟨di, dj, dk, dl, dm, dn, dw, dx, dy, dz, dB, dC⟩ := cf6 ah) | ((with_reducible refine gate_store (t := 44) (p := 16) rfl ?_); refine store_event (t := 44) (p := 16) (v := ?vo_w94) (w1 := ((((((fZ.setCell ⟨U, 0, none⟩ (.int .i64 bk)).setCell ⟨U, 1, none⟩ (.int .i64 bl)).setCell ⟨U, 2, none⟩ (.int .i64 bm)).setCell ⟨U, 3, none⟩ (.int .i64 bn)).setCell ⟨U, 4, none⟩ (.bool bo)).setCell ⟨U, 5, none⟩ (.string aZ))) ?hg ?ho ?hn ?hr ?_; (case ho => rfl); (case hg => rfl); (case hn => rfl); (case hr => exact gs_); intro cn hw; replace av : Aside0 (Kd.N k52 52 cn w.heap.size (fun k_ => (w.heap.size ≤ k_) ∧ k_ ≠ q ∧ k_ ≠ aA ∧ k_ ≠ ar ∧ k_ ≠ U) b5 bT) := ⟨B11x3_⟩; replace l : Hc cn q #[.int .i64 0, .int .i64 0, .int .i64 0, .string (⟨#[]⟩ : ByteArray)] 26 := ⟨wAp1 l bj⟩; replace z : Hc cn aA #[.int .i64 a9, .int .i64 ba, .int .i64 bd, .string aY] 40 := ⟨wAp1 z bP⟩; replace B : Hc cn ar #[.int .i64 aC, .int .i64 aB, .int .i64 aD, .int .i64 aE, .bool aF, .string aG] 44 := ⟨wAp1 B bQ⟩; replace ah : Hc cn U #[.int .i64 bk, .int .i64 bl, .int .i64 bm, .int .i64 bn, .bool bo, .string aZ] 44 := ⟨wAp0 ah⟩; replace HB : Hb w cn := ⟨wAe4 HB Z ad ae aX⟩; clear hw; have ia := bq.out; have iQ := bu.out; obtain ⟨ex, ey, ez, eB, eW, eX, eY, eZ⟩ := cf4 l))
    refine bodyPost_ret (results_list (rs := [.tmp 8, .cell 9 26, .tmp 10]) rfl (by simp) (.tmp (.cell q 26 #[.int .i64 0, .int .i64 0, .int .i64 0, .string (⟨#[]⟩ : ByteArray)] (0, 0) _ rfl (Ap0 l) Try.underlying26 rfl gk_ (.tmp .nil)))) rfl ?_; exact ⟨_, B9x2_, (by (with_reducible repeat (first | apply Kd.N_alloc | apply Kd.N_drewN | apply Kd.N_drew)); exact Kd.N_mono (Kd.N_far (p := ⟨q, 3, none⟩) (Kd.N_far (p := ⟨q, 2, none⟩) (Kd.N_far (p := ⟨q, 1, none⟩) (Kd.N_far (p := ⟨q, 0, none⟩) (Kd.N_mono av.out (fun k_ hk => (⟨hk, hk.2.1⟩ : _ ∧ k_ ≠ q))) (fun _ hk => hk.2) (.int .i64 0)) (fun _ hk => hk.2) (.int .i64 0)) (fun _ hk => hk.2) (.int .i64 0)) (fun _ hk => hk.2) (.string (⟨#[]⟩ : ByteArray))) (fun _ hk => hk.1.1)), (Ae4 HB Z ad ae aX)⟩

def laws_toStringS.l0 : Nat → List ByteArray → List ByteArray → Int → Option (List ByteArray)
 | 0, _, _, _ => none
 | k + 1, x0, x3, x4 => if x4 < (x0.length : Int) then (if 0 ≤ x4 then (if x4 < (x3.length : Int) then (laws_toStringS.l0 k x0 (x3.set (x4 : Int).toNat (rdOf ByteArray.empty x0 x4)) (wrap64 (x4 + 1))) else (none)) else (none)) else (some x3)
def laws_toStringS.f (k : Nat) (l0 : List ByteArray) : Option (List ByteArray) := if 0 ≤ (l0.length : Int) then (if ((l0.length : Int) : Int).toNat ≤ 17592186044416 then (laws_toStringS.l0 k l0 (List.replicate ((l0.length : Int) : Int).toNat (⟨#[]⟩ : ByteArray)) 0) else (none)) else (none)
theorem laws_toStringS.calls (k : Nat) (A0 : Option Addr) (c0 : Nat) (l0 : List ByteArray) (r : List ByteArray) (w : World) (bS : Kd.C Kd.string w A0 l0.length l0) (bR : l0.length ≤ c0) (h : laws_toStringS.f k l0 = some r) :
  Calls Try.prog 38 #[.slice A0 l0.length c0] w fun e w' => ∃ bU : Value, e = .returned (bU) ∧ Kd.R Kd.string 9 w' w.heap.size (fun _ => True) bU r ∧ Below w.heap.size w w' := by
 have bO := am bS
 have cc := am bR
 clear bS bR
 have HB := am (Below.refl w.heap.size w)
 have aa := h
 clear h
 unfold laws_toStringS.f at aa
 obtain ⟨cF, cG, ai⟩ := ye aa
 obtain ⟨cW, cX, D⟩ := ye ai
 obtain ⟨f8, cK⟩ : ∃ y_ : List ByteArray, y_ = (List.replicate ((l0.length : Int) : Int).toNat (⟨#[]⟩ : ByteArray)) := ⟨_, rfl⟩
 (first | with_reducible replace D := hq cK D | rw [← cK] at D | simp only [← cK] at D)
 have d5 := am cK
 clear cK
 replace D := am D
 clear aa ai
 go_enter Try.func38, Try.ntmps38
 go_wp2_with (first | ((with_reducible refine gate_dst (N := 7) rfl ?_); refine Kd.R_make Kd.string _ 9 rfl (N := 7) rfl 35 _ _ rfl (l0.length : Int) rfl rfl Try.underlying35 (.string ⟨#[]⟩) 16 info9 rfl (by decide) (by omega) (⟨#[]⟩ : ByteArray) (ok := fun _ => True) (okp := fun _ => True) rfl (fun _ hk => hk) trivial (dga) (Nat.le_trans (Nat.mul_le_mul_right _ (dga : (l0.length : Int).toNat ≤ 17592186044416)) (by omega)) (Below.refl _ _) (Nat.le_refl _) ?_; intro fO w4 bz hb hg_ hnew_; clear hg_ hnew_; (first | rw [← d5.out] at bz | (simp only [Int.reduceToNat] at bz; rw [← d5.out] at bz)); have fn := am (Kd.R_lower bz (below_size (Ae0 HB))); replace HB := hA HB hb; clear hb bz))
 go_loopg [4] k (fun kq v4 w' => ∃ (be : List ByteArray) (ag : Int), v4 = .int .i64 ag ∧ Aside0 (laws_toStringS.l0 kq l0 be ag = some r) ∧ Aside0 (kq ≤ k) ∧ Aside0 (Kd.R Kd.string 9 w' w.heap.size (fun _ => True) fO be) ∧ Aside0 (Below w.heap.size w w'))
 case atStart => exact ⟨(f8), 0, be_, D, ⟨Nat.le_refl _⟩, Cr fn, Ce0 HB⟩
 case round =>
  clear D
  try clear c2
  try clear cF
  try clear cG
  try clear c3
  try clear cW
  try clear cX
  obtain ⟨be, ag, rfl, af, cr, a4, HB⟩ := hrel
  cases gk with
  | zero => exact absurd af.out (by simp [laws_toStringS.l0])
  | succ k1 => ?_
  replace af := af.out; simp only [laws_toStringS.l0] at af
  obtain ⟨dJ, aj⟩ | ⟨dJ, aj⟩ := sd af
  ·obtain ⟨d9, az⟩ := yd aj; obtain ⟨fy, ac⟩ := yd az; obtain ⟨eq, cL⟩ : ∃ y_ : List ByteArray, y_ = (be.set (ag : Int).toNat (rdOf ByteArray.empty l0 ag)) := ⟨_, rfl⟩
   (first | with_reducible replace ac := hq cL ac | rw [← cL] at ac | simp only [← cL] at ac)
   have ft := am cL; clear cL; replace ac := am ac; clear af aj az
   have dQ : 0 ≤ (ag : Int) := dga
   have dS : ag < (l0.length : Int) := dga
   obtain ⟨gB, fz, dO⟩ := Kd.at_string bO.out ag dQ dS; cases fz; replace dO := (hbc HB dO).trans dO; replace dQ := eq_true dQ; replace dS := eq_true dS
   have p9 : 0 ≤ (ag : Int) := dga
   have q9 : (ag : Int) < ((be.length : Int) : Int) := dga
   obtain ⟨b4, dK, cH, cJ, dM, cl9, cq⟩ := Kd.R_form a4.out (by omega)
   (first | cases cH | (injection cH with ea_ en_ ec_; (first | subst ea_ | (injection ea_ with ea_; subst ea_)); subst ec_; clear en_))
   have dE := am cJ; have fj := am cq; clear cJ dM cq; obtain ⟨fH, fE⟩ := Kd.R_celln (⟨#[]⟩ : ByteArray) a4.out (ag : Int) p9 q9; replace p9 := eq_true p9; replace q9 := eq_true q9; have bZ := Kd.R_putg a4.out (ag : Int) (rdOf ByteArray.empty l0 ag)
   go_wp2_with (first | ((with_reducible refine gate_store (t := 9) (p := 20) rfl ?_); refine store_event (t := 9) (p := 20) (v := ?vo_w11) (w1 := (wr.setCell ⟨b4, (ag : Int).toNat, none⟩ (.string (rdOf ByteArray.empty l0 ag)))) ?hg ?ho ?hn ?hr ?_; (case ho => rfl); (case hg => rfl); (case hn => rfl); (case hr => exact gs_); intro b6 hw; have hg : wr.grownBy b6 (some b4) := (by rw [hw]; exact bZ.2); have hp_ : Kd.R Kd.string 9 b6 w.heap.size (fun _ => True) (.slice (some ⟨b4, 0, none⟩) be.length dK) eq := (by rw [hw, ft.out]; exact bZ.1); clear bZ; replace a4 := am hp_; replace HB := am (by rw [hw]; exact below_set (HB.out) dE.out : Below w.heap.size w b6); clear hg hw hp_))
   go_roundg k1
   case measure => have := cr.out; omega
   case rel => exact ⟨(eq), (wrap64 (ag + 1)), be_, ac, ⟨(by have := cr.out; omega)⟩, Cr a4, Ce0 HB⟩
  ·obtain rfl := Option.some.inj aj; clear aj af
   go_wp2
   go_ret; exact ⟨_, B9x2_, (Ar a4), (Ae0 HB)⟩

def laws_toIntS.l0 : Nat → List Int → List Int → Int → Option (List Int)
 | 0, _, _, _ => none
 | k + 1, x0, x3, x4 => if x4 < (x0.length : Int) then (if 0 ≤ x4 then (if x4 < (x3.length : Int) then (laws_toIntS.l0 k x0 (x3.set (x4 : Int).toNat (rd x0 x4)) (wrap64 (x4 + 1))) else (none)) else (none)) else (some x3)
def laws_toIntS.f (k : Nat) (l0 : List Int) : Option (List Int) := if 0 ≤ (l0.length : Int) then (if ((l0.length : Int) : Int).toNat ≤ 35184372088832 then (laws_toIntS.l0 k l0 (List.replicate ((l0.length : Int) : Int).toNat 0) 0) else (none)) else (none)
theorem laws_toIntS.calls (k : Nat) (A0 : Option Addr) (c0 : Nat) (l0 : List Int) (r : List Int) (w : World) (bS : Kd.C (Kd.int .i64) w A0 l0.length l0) (bR : l0.length ≤ c0) (h : laws_toIntS.f k l0 = some r) :
  Calls Try.prog 39 #[.slice A0 l0.length c0] w fun e w' => ∃ bU : Value, e = .returned (bU) ∧ Kd.R (Kd.int .i64) 3 w' w.heap.size (fun _ => True) bU r ∧ Below w.heap.size w w' := by
 have bO := am bS
 have cc := am bR
 clear bS bR
 have HB := am (Below.refl w.heap.size w)
 have aa := h
 clear h
 unfold laws_toIntS.f at aa
 obtain ⟨cF, cG, ai⟩ := ye aa
 obtain ⟨cW, cX, D⟩ := ye ai
 obtain ⟨f9, cM⟩ : ∃ y_ : List Int, y_ = (List.replicate ((l0.length : Int) : Int).toNat 0) := ⟨_, rfl⟩
 (first | with_reducible replace D := hq cM D | rw [← cM] at D | simp only [← cM] at D)
 have d6 := am cM
 clear cM
 replace D := am D
 clear aa ai
 go_enter Try.func39, Try.ntmps39
 go_wp2_with (first | ((with_reducible refine gate_dst (N := 7) rfl ?_); refine Kd.R_make (Kd.int .i64) _ 3 rfl (N := 7) rfl 36 _ _ rfl (l0.length : Int) rfl rfl Try.underlying36 (.int .i64 0) 8 info3 rfl (by decide) (by omega) 0 (ok := fun _ => True) (okp := fun _ => True) rfl (fun _ hk => hk) trivial (dga) (Nat.le_trans (Nat.mul_le_mul_right _ (dga : (l0.length : Int).toNat ≤ 35184372088832)) (by omega)) (Below.refl _ _) (Nat.le_refl _) ?_; intro fP w4 bz hb hg_ hnew_; clear hg_ hnew_; (first | rw [← d6.out] at bz | (simp only [Int.reduceToNat] at bz; rw [← d6.out] at bz)); have fo := am (Kd.R_lower bz (below_size (Ae0 HB))); replace HB := hA HB hb; clear hb bz))
 go_loopg [4] k (fun kq v4 w' => ∃ (be : List Int) (ag : Int), v4 = .int .i64 ag ∧ Aside0 (laws_toIntS.l0 kq l0 be ag = some r) ∧ Aside0 (kq ≤ k) ∧ Aside0 (Kd.R (Kd.int .i64) 3 w' w.heap.size (fun _ => True) fP be) ∧ Aside0 (Below w.heap.size w w'))
 case atStart => exact ⟨(f9), 0, be_, D, ⟨Nat.le_refl _⟩, Cr fo, Ce0 HB⟩
 case round =>
  clear D
  try clear c2
  try clear cF
  try clear cG
  try clear c3
  try clear cW
  try clear cX
  obtain ⟨be, ag, rfl, af, cr, a4, HB⟩ := hrel
  cases gk with
  | zero => exact absurd af.out (by simp [laws_toIntS.l0])
  | succ k1 => ?_
  replace af := af.out; simp only [laws_toIntS.l0] at af
  obtain ⟨dJ, aj⟩ | ⟨dJ, aj⟩ := sd af
  ·obtain ⟨d9, az⟩ := yd aj; obtain ⟨fy, ac⟩ := yd az; obtain ⟨er, cN⟩ : ∃ y_ : List Int, y_ = (be.set (ag : Int).toNat (rd l0 ag)) := ⟨_, rfl⟩
   (first | with_reducible replace ac := hq cN ac | rw [← cN] at ac | simp only [← cN] at ac)
   have fu := am cN; clear cN; replace ac := am ac; clear af aj az
   have dR : 0 ≤ (ag : Int) := dga
   have dT : ag < (l0.length : Int) := dga
   obtain ⟨gC, fA, dP⟩ := Kd.at_int bO.out ag dR dT; cases fA; replace dP := (hbc HB dP).trans dP; replace dR := eq_true dR; replace dT := eq_true dT
   have p9 : 0 ≤ (ag : Int) := dga
   have q9 : (ag : Int) < ((be.length : Int) : Int) := dga
   obtain ⟨b4, dK, cH, cJ, dM, cl9, cq⟩ := Kd.R_form a4.out (by omega)
   (first | cases cH | (injection cH with ea_ en_ ec_; (first | subst ea_ | (injection ea_ with ea_; subst ea_)); subst ec_; clear en_))
   have dE := am cJ; have fj := am cq; clear cJ dM cq; obtain ⟨fH, fE⟩ := Kd.R_celln 0 a4.out (ag : Int) p9 q9; replace p9 := eq_true p9; replace q9 := eq_true q9; have bZ := Kd.R_putg a4.out (ag : Int) (rd l0 ag)
   go_wp2_with (first | ((with_reducible refine gate_store (t := 3) (p := 20) rfl ?_); refine store_event (t := 3) (p := 20) (v := ?vo_w11) (w1 := (wr.setCell ⟨b4, (ag : Int).toNat, none⟩ (.int .i64 (rd l0 ag)))) ?hg ?ho ?hn ?hr ?_; (case ho => rfl); (case hg => rfl); (case hn => rfl); (case hr => exact gs_); intro b6 hw; have hg : wr.grownBy b6 (some b4) := (by rw [hw]; exact bZ.2); have hp_ : Kd.R (Kd.int .i64) 3 b6 w.heap.size (fun _ => True) (.slice (some ⟨b4, 0, none⟩) be.length dK) er := (by rw [hw, fu.out]; exact bZ.1); clear bZ; replace a4 := am hp_; replace HB := am (by rw [hw]; exact below_set (HB.out) dE.out : Below w.heap.size w b6); clear hg hw hp_))
   go_roundg k1
   case measure => have := cr.out; omega
   case rel => exact ⟨(er), (wrap64 (ag + 1)), be_, ac, ⟨(by have := cr.out; omega)⟩, Cr a4, Ce0 HB⟩
  ·obtain rfl := Option.some.inj aj; clear aj af
   go_wp2
   go_ret; exact ⟨_, B9x2_, (Ar a4), (Ae0 HB)⟩

def laws_toBits.f (k : Nat) (J : Int) (M : Int) (a7 : List ByteArray) (a8 : List Int) (a5 : Int) (a6 : Int) : Option (Int × Int × List ByteArray × List Int × Int × Int) := (laws_toStringS.f k a7).bind fun bJ => ((laws_toIntS.f k a8).bind fun bK => (some (J, M, bJ, bK, a5, a6)))
theorem laws_toBits.calls (k : Nat) (J : Int) (M : Int) (bW : Option Addr) (b2 : Nat) (a7 : List ByteArray) (bX : Option Addr) (b3 : Nat) (a8 : List Int) (a5 : Int) (a6 : Int) (r1 : Int) (r2 : Int) (r3 : List ByteArray) (r4 : List Int) (r5 : Int) (r6 : Int) (w : World) (ec : Kd.C Kd.string w bW a7.length a7) (ea : a7.length ≤ b2) (ed : Kd.C (Kd.int .i64) w bX a8.length a8) (eb : a8.length ≤ b3) (h : laws_toBits.f k J M a7 a8 a5 a6 = some (r1, r2, r3, r4, r5, r6)) :
  Calls Try.prog 18 #[.agg #[.int .i64 J, .int .i64 M, .slice bW a7.length b2, .slice bX a8.length b3, .int .i64 a5, .int .i64 a6]] w fun e w' => ∃ eo ep : Value, e = .returned (.agg #[.int .i64 r1, .int .i64 r2, eo, ep, .int .i64 r5, .int .i64 r6]) ∧ Kd.R Kd.string 9 w' w.heap.size (fun _ => True) eo r3 ∧ Kd.R (Kd.int .i64) 3 w' w.heap.size (fun _ => True) ep r4 ∧ Below w.heap.size w w' := by
 have jk := Try.underlying38
 have jn := Try.underlying52
 have fp := am ec
 have fk := am ea
 clear ec ea
 have fq := am ed
 have fl := am eb
 clear ed eb
 have HB := am (Below.refl w.heap.size w)
 have aa := h
 clear h
 unfold laws_toBits.f at aa
 obtain ⟨bJ, A2, ai⟩ := bsi aa
 (try dsimp only at ai)
 obtain ⟨bK, A3, D⟩ := bsi ai
 (try dsimp only at D)
 obtain ⟨rfl, rfl, rfl, rfl, rfl, rfl⟩ := s6 D
 clear D aa ai
 go_enter Try.func18, Try.ntmps18
 go_wp2_with (first | ((with_reducible refine gate_dst (N := 1) rfl ?_); refine bx (N := 1) (cs := #[.int .i64 J, .int .i64 M, .slice bW a7.length b2, .slice bX a8.length b3, .int .i64 a5, .int .i64 a6]) (t := 38) ?_; intro dL hg w4 hbox hb; have aK := am hbox; have bF := gA hg HB; replace HB := hA HB hb; clear hb hbox hg) | ((with_reducible refine gate_dst (N := 2) rfl ?_); refine bx (N := 2) (cs := #[.int .i64 0, .int .i64 0, .slice none 0 0, .slice none 0 0, .int .i64 0, .int .i64 0]) (t := 52) ?_; intro bI hg w5 hbox hb; have aW := am hbox; have bL := gA hg HB; replace HB := De1 HB bF hb; have d3 := nA hg aK; have fr := mA hg aK; replace aK := bA aK hb; clear hb hbox hg) | ((with_reducible refine gate_dst (N := 3) rfl ?_); refine bx (N := 3) (cs := #[.int .i64 0, .int .i64 0, .slice none 0 0, .slice none 0 0, .int .i64 0, .int .i64 0]) (t := 52) ?_; intro ci hg w6 hbox hb; have bi := am hbox; have bN := gA hg HB; replace HB := De2 HB bF bL hb; have cS := nA hg aK; have fs := mA hg aK; replace aK := bA aK hb; have cT := nA hg aW; have d4 := mA hg aW; replace aW := bA aW hb; clear hb hbox hg; have hW := d3.out; have iC := fr.out; have h2 := cS.out; have iI := fs.out; obtain ⟨eG, eH, eI, eJ, eK, eL, e4, e5, e6, e7, e8, e9⟩ := cf6 aK; have hx := d4.out; have ib := cT.out; obtain ⟨eM, eN, eO, eP, eQ, eR, fa, fb, fc, fd, fe, ff⟩ := cf6 bi) | ((with_reducible refine gate_callee (f := 38) rfl ?_); refine gL (some 12) Try.func38 #[.slice bW a7.length b2] ?_; refine (laws_toStringS.calls k _ _ a7 bJ _ (Kd.C_below fp.out (Ae3 HB bF bL bN)) fk.out A2.out).mono ?_; rintro e jA ⟨jx, rfl, bw, hb⟩; refine ⟨_, rfl, ?_⟩; have cd := am (Kd.R_lower bw (below_size (Ae3 HB bF bL bN))); replace aK := am (blk_below (g := dL) (o := .cells #[.int .i64 J, .int .i64 M, .slice bW a7.length b2, .slice bX a8.length b3, .int .i64 a5, .int .i64 a6] 38 (0, 0)) (Ap1 aK cS) hb); replace aW := am (blk_below (g := bI) (o := .cells #[.int .i64 0, .int .i64 0, .slice none 0 0, .slice none 0 0, .int .i64 0, .int .i64 0] 52 (0, 0)) (Ap1 aW cT) hb); replace bi := am (blk_below (g := ci) (o := .cells #[.int .i64 J, .int .i64 M, .slice none 0 0, .slice none 0 0, .int .i64 0, .int .i64 0] 52 (0, 0)) (Ap0 bi) hb); replace HB := De3 HB bF bL bN hb; obtain ⟨b9, cf, fB⟩ := Kd.R_slice cd.out; subst fB; obtain ⟨eM, eN, eO, eP, eQ, eR, fa, fb, fc, fd, fe, ff⟩ := cf6 bi; obtain ⟨eG, eH, eI, eJ, eK, eL, e4, e5, e6, e7, e8, e9⟩ := cf6 aK) | ((with_reducible refine gate_callee (f := 39) rfl ?_); refine gL (some 16) Try.func39 #[.slice bX a8.length b3] ?_; refine (laws_toIntS.calls k _ _ a8 bK _ (Kd.C_below fq.out (Ae3 HB bF bL bN)) fl.out A3.out).mono ?_; rintro e fS ⟨jy, rfl, bw, hb⟩; refine ⟨_, rfl, ?_⟩; replace cd := am (Kd.R_below (tfg cd.out bi.out (by decide)) hb); have cQ := am (Kd.R_lower bw (below_size (Ae3 HB bF bL bN))); replace aK := am (blk_below (g := dL) (o := .cells #[.int .i64 J, .int .i64 M, .slice bW a7.length b2, .slice bX a8.length b3, .int .i64 a5, .int .i64 a6] 38 (0, 0)) (Ap1 aK cS) hb); replace aW := am (blk_below (g := bI) (o := .cells #[.int .i64 0, .int .i64 0, .slice none 0 0, .slice none 0 0, .int .i64 0, .int .i64 0] 52 (0, 0)) (Ap1 aW cT) hb); replace bi := am (blk_below (g := ci) (o := .cells #[.int .i64 J, .int .i64 M, .slice b9 bJ.length cf, .slice none 0 0, .int .i64 0, .int .i64 0] 52 (0, 0)) (Ap0 bi) hb); replace HB := De3 HB bF bL bN hb; obtain ⟨ca, cg, fC⟩ := Kd.R_slice cQ.out; subst fC; obtain ⟨eM, eN, eO, eP, eQ, eR, fa, fb, fc, fd, fe, ff⟩ := cf6 bi; obtain ⟨eG, eH, eI, eJ, eK, eL, e4, e5, e6, e7, e8, e9⟩ := cf6 aK; obtain ⟨jT, jU, jV, jW, jX, jY, ka, kc, kd, ke, kf, kg⟩ := cf6 aW) | ((with_reducible refine gate_store (t := 52) (p := 2) rfl ?_); refine store_event (t := 52) (p := 2) (v := ?vo_w21) (w1 := (((((((((fS.setCell ⟨ci, 3, none⟩ (.slice ca bK.length cg)).setCell ⟨ci, 4, none⟩ (.int .i64 a5)).setCell ⟨ci, 5, none⟩ (.int .i64 a6)).setCell ⟨bI, 0, none⟩ (.int .i64 J)).setCell ⟨bI, 1, none⟩ (.int .i64 M)).setCell ⟨bI, 2, none⟩ (.slice b9 bJ.length cf)).setCell ⟨bI, 3, none⟩ (.slice ca bK.length cg)).setCell ⟨bI, 4, none⟩ (.int .i64 a5)).setCell ⟨bI, 5, none⟩ (.int .i64 a6))) ?hg ?ho ?hn ?hr ?_; (case ho => rfl); (case hg => rfl); (case hn => rfl); (case hr => exact gs_); intro b7 hw; replace cd : Aside0 (Kd.R Kd.string 9 b7 w.heap.size (fun _ => True) (.slice b9 bJ.length cf) bJ) := ⟨wtfh cd.out bi.out (by decide) aW.out (by decide)⟩; replace cQ : Aside0 (Kd.R (Kd.int .i64) 3 b7 w.heap.size (fun _ => True) (.slice ca bK.length cg) bK) := ⟨wtfh cQ.out bi.out (by decide) aW.out (by decide)⟩; replace aK : Hc b7 dL #[.int .i64 J, .int .i64 M, .slice bW a7.length b2, .slice bX a8.length b3, .int .i64 a5, .int .i64 a6] 38 := ⟨wAp2 aK d3 cS⟩; replace aW : Hc b7 bI #[.int .i64 J, .int .i64 M, .slice b9 bJ.length cf, .slice ca bK.length cg, .int .i64 a5, .int .i64 a6] 52 := ⟨wAp1 aW cT⟩; replace bi : Hc b7 ci #[.int .i64 J, .int .i64 M, .slice b9 bJ.length cf, .slice ca bK.length cg, .int .i64 a5, .int .i64 a6] 52 := ⟨wAp1 bi d4⟩; replace HB : Hb w b7 := ⟨wAe3 HB bF bL bN⟩; clear hw))
 refine bodyPost_ret (results_cell_row rfl _ _ bI 52 #[.int .i64 J, .int .i64 M, .slice b9 bJ.length cf, .slice ca bK.length cg, .int .i64 a5, .int .i64 a6] (0, 0) _ rfl (Ab aW) Try.underlying52 rfl gk_) rfl ?_
 exact ⟨_, _, B9x2_, (Ar cd), (Ar cQ), (Ae3 HB bF bL bN)⟩
end
end Go.Proofs.Ytjaamflffmhicaa.QFnExactUnwrap
