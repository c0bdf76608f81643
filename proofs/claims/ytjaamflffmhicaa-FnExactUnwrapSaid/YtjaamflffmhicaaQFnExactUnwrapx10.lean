/- Functions that a law reaches, as functions of Lean, and the walks that show that the calls come to their answers. No condition. -/
import Derived.Test.YtjaamflffmhicaaQFnExactUnwrapx0
import Derived.Test.YtjaamflffmhicaaQFnExactUnwrapx1
import Derived.Test.YtjaamflffmhicaaQFnExactUnwrapx2
import Derived.Test.YtjaamflffmhicaaQFnExactUnwrapx3
import Derived.Test.YtjaamflffmhicaaQFnExactUnwrapx4
import Derived.Test.YtjaamflffmhicaaQFnExactUnwrapx5
import Derived.Test.YtjaamflffmhicaaQFnExactUnwrapx6
import Derived.Test.YtjaamflffmhicaaQFnExactUnwrapx7
import Derived.Test.YtjaamflffmhicaaQFnExactUnwrapx8
import Derived.Test.YtjaamflffmhicaaQFnExactUnwrapx9
import Derived.Test.YtjaamflffmhicaaVFnExactUnwraphort2
import Derived.Test.YtjaamflffmhicaaVFnExactUnwraphort
import Derived.Test.YtjaamflffmhicaaVFnExactUnwraphort8
import Derived.Test.YtjaamflffmhicaaVFnExactUnwrapq
import Derived.Test.YtjaamflffmhicaaVFnExactUnwrapq2
import Derived.Test.YtjaamflffmhicaaVFnExactUnwraphort3
namespace Go.Proofs.Ytjaamflffmhicaa.QFnExactUnwrap
open Go.RowKit Go.Proofs.YtjaamflffmhicaaW.PrintWords Go.Proofs.YtjaamflffmhicaaW.PrintLast Go.Proofs.YtjaamflffmhicaaW.PrintMore Go.Proofs.Ytjaamflffmhicaa.Short Go.Proofs.Ytjaamflffmhicaa.Sq
set_option linter.unusedVariables false
set_option linter.unusedSimpArgs false
set_option maxHeartbeats 8000000
set_option maxRecDepth 100000
variable {p : Prop}
section
attribute [local go_sem] max2_int min2_int max_two min_two max_three min_three max_four min_four
theorem B20x4_ (h : p := by first | rfl | (simp [errW_none, errW_some] <;> rfl) | (simp [*, errW_none, errW_some] <;> rfl)) : p := h
theorem B20x7_ (h : p := by injection bE) : p := h
theorem B20x8_ (h : p := by injection bS) : p := h
theorem B20x9_ (h : p := by injection b6) : p := h
def laws_heldBitsS.l0 : Nat → List (S52) → Int → Int → Option (Int)
 | 0, _, _, _ => none
 | k + 1, x0, x1, x5 => if x5 < (x0.length : Int) then (if 0 ≤ x5 then (if ((rd_T52 x0 x5).f0) = x1 then (if ((rd_T52 x0 x5).f1) = (wrap64 (x1 + 1)) then ((laws_heldStringS.f k ((rd_T52 x0 x5).f2) (wrap64 ((wrap64 (x1 + 1)) + 1))).bind fun aM => (if aM < 0 then (some (-1)) else ((laws_heldIntS.f k ((rd_T52 x0 x5).f3) aM).bind fun aW => (if aW < 0 then (some (-1)) else (if ((rd_T52 x0 x5).f4) = aW then (if ((rd_T52 x0 x5).f5) = (wrap64 (aW + 1)) then (laws_heldBitsS.l0 k x0 (wrap64 ((wrap64 (aW + 1)) + 1)) (wrap64 (x5 + 1))) else (some (-1))) else (some (-1))))))) else (some (-1))) else (some (-1))) else (none)) else (some x1)
def laws_heldBitsS.f (k : Nat) (l0 : List (S52)) (a1 : Int) : Option (Int) := laws_heldBitsS.l0 k l0 a1 0
theorem laws_heldBitsS.calls (k : Nat) (A0 : Option Addr) (c0 : Nat) (l0 : List (S52)) (a1 : Int) (r : Int) (w : World) (hr0 : Kd.C k52 w A0 l0.length l0) (hc0 : l0.length ≤ c0) (h : laws_heldBitsS.f k l0 a1 = some r) :
  Calls Try.prog 11 #[.slice A0 l0.length c0, .int .i64 a1] w fun e w' => e = .returned (.int .i64 r) ∧ Below w.heap.size w w' := by
 have J := am hr0
 have a9 := am hc0
 clear hr0 hc0
 have HB := am (Below.refl w.heap.size w)
 have bO := h
 clear h
 unfold laws_heldBitsS.f at bO
 replace bO := am bO
 go_enter Try.func11, Try.ntmps11
 go_wp2
 go_loopg [1, 5] k (fun kq v1 v5 w' => ∃ (a8 : Int) (z : Int), v1 = .int .i64 a8 ∧ v5 = .int .i64 z ∧ Aside0 (laws_heldBitsS.l0 kq l0 a8 z = some r) ∧ Aside0 (kq ≤ k) ∧ Aside0 (Below w.heap.size w w'))
 case atStart => exact ⟨(a1), 0, be_, be_, bO, ⟨Nat.le_refl _⟩, Ce0 HB⟩
 case round =>
  clear bO; obtain ⟨a8, z, rfl, rfl, aK, cp, HB⟩ := hrel
  cases gk with
  | zero => exact absurd aK.out (by simp [laws_heldBitsS.l0])
  | succ k1 => ?_
  replace aK := aK.out; simp only [laws_heldBitsS.l0] at aK
  obtain ⟨cH, aN⟩ | ⟨cH, aN⟩ := sd aK
  ·obtain ⟨cU, a6⟩ := yd aN
   obtain ⟨c5, aV⟩ | ⟨c5, aV⟩ := sp a6
   ·obtain ⟨cK, cL⟩ := yE c5; clear c5
    obtain ⟨c6, aZ⟩ | ⟨c6, aZ⟩ := sp aV
    ·obtain ⟨cM, cN⟩ := yE c6; clear c6; obtain ⟨aM, A7, bh⟩ := bsi aZ; (try dsimp only at bh)
     obtain ⟨cO, a7⟩ | ⟨cO, a7⟩ := sd bh
     ·obtain rfl := Option.some.inj a7; clear a7 aK aN a6 aV aZ bh
      have ae : 0 ≤ (z : Int) := dga
      have af : z < (l0.length : Int) := dga
      obtain ⟨ag, bq, bC, br, bD, aL, Z, aa, B, D, ac, ad, hl550_2, hi550_2, hl550_3, hi550_3⟩ := at_T52 J.out z ae af; cases aL; replace Z := (hbc HB Z).trans Z; replace aa := (hbc HB aa).trans aa; replace B := (hbc HB B).trans B; replace D := (hbc HB D).trans D; replace ac := (hbc HB ac).trans ac; replace ad := (hbc HB ad).trans ad; have bu := am hl550_2; clear hi550_2 hl550_2; have bv := am hl550_3; clear hi550_3 hl550_3; replace ae := eq_true ae; replace af := eq_true af
      have ap : 0 ≤ (z : Int) := dga
      have ar : z < (l0.length : Int) := dga
      obtain ⟨aO, bK, bQ, bL, bR, bE, aj, ak, K, U, al, ao, hl551_2, hi551_2, hl551_3, hi551_3⟩ := at_T52 J.out z ap ar; obtain rfl : ag = aO := B20x7_; replace aj := (hbc HB aj).trans aj; replace ak := (hbc HB ak).trans ak; replace K := (hbc HB K).trans K; replace U := (hbc HB U).trans U; replace al := (hbc HB al).trans al; replace ao := (hbc HB ao).trans ao; have bM := am hl551_2; clear hi551_2 hl551_2; have bN := am hl551_3; clear hi551_3 hl551_3; replace ap := eq_true ap; replace ar := eq_true ar; have ea_ := Option.some.inj (B.symm.trans K)
      injection ea_ with ea_ en_ ec_
      subst ea_; subst ec_; clear en_; have ea_ := Option.some.inj (D.symm.trans U)
      injection ea_ with ea_ en_ ec_
      subst ea_; subst ec_; clear en_
      have aA : 0 ≤ (z : Int) := dga
      have aB : z < (l0.length : Int) := dga
      obtain ⟨a0, bV, b4, bW, b5, bS, aw, ax, ah, ai, ay, az, hl552_2, hi552_2, hl552_3, hi552_3⟩ := at_T52 J.out z aA aB; obtain rfl : ag = a0 := B20x8_; replace aw := (hbc HB aw).trans aw; replace ax := (hbc HB ax).trans ax; replace ah := (hbc HB ah).trans ah; replace ai := (hbc HB ai).trans ai; replace ay := (hbc HB ay).trans ay; replace az := (hbc HB az).trans az; have aY := am hi552_2; have aX := am hl552_2; clear hi552_2 hl552_2; have bX := am hl552_3; clear hi552_3 hl552_3; replace aA := eq_true aA; replace aB := eq_true aB; have ea_ := Option.some.inj (B.symm.trans ah)
      injection ea_ with ea_ en_ ec_
      subst ea_; subst ec_; clear en_; have ea_ := Option.some.inj (D.symm.trans ai)
      injection ea_ with ea_ en_ ec_
      subst ea_; subst ec_; clear en_
      go_wp2_with (first | ((with_reducible refine gate_callee (f := 27) rfl ?_); refine gM (some 36) Try.func27 (laws_heldStringS.calls k1 _ _ ((rd_T52 l0 z).f2) (wrap64 ((wrap64 (a8 + 1)) + 1)) aM _ (tc (Kd.C_below aY.out HB.out)) aX.out A7.out) ?_; rintro w9 hb; replace HB := hA HB hb))
      go_ret; exact ⟨B20x4_, (Ae0 HB)⟩
     obtain ⟨aW, bU, bB⟩ := bsi a7; (try dsimp only at bB)
     obtain ⟨cC, be⟩ | ⟨cC, be⟩ := sd bB
     ·obtain rfl := Option.some.inj be; clear be aK aN a6 aV aZ bh a7 bB
      have ae : 0 ≤ (z : Int) := dga
      have af : z < (l0.length : Int) := dga
      obtain ⟨ag, bq, bC, br, bD, aL, Z, aa, B, D, ac, ad, hl550_2, hi550_2, hl550_3, hi550_3⟩ := at_T52 J.out z ae af; cases aL; replace Z := (hbc HB Z).trans Z; replace aa := (hbc HB aa).trans aa; replace B := (hbc HB B).trans B; replace D := (hbc HB D).trans D; replace ac := (hbc HB ac).trans ac; replace ad := (hbc HB ad).trans ad; have bu := am hl550_2; clear hi550_2 hl550_2; have bv := am hl550_3; clear hi550_3 hl550_3; replace ae := eq_true ae; replace af := eq_true af
      have ap : 0 ≤ (z : Int) := dga
      have ar : z < (l0.length : Int) := dga
      obtain ⟨aO, bK, bQ, bL, bR, bE, aj, ak, K, U, al, ao, hl551_2, hi551_2, hl551_3, hi551_3⟩ := at_T52 J.out z ap ar; obtain rfl : ag = aO := B20x7_; replace aj := (hbc HB aj).trans aj; replace ak := (hbc HB ak).trans ak; replace K := (hbc HB K).trans K; replace U := (hbc HB U).trans U; replace al := (hbc HB al).trans al; replace ao := (hbc HB ao).trans ao; have bM := am hl551_2; clear hi551_2 hl551_2; have bN := am hl551_3; clear hi551_3 hl551_3; replace ap := eq_true ap; replace ar := eq_true ar; have ea_ := Option.some.inj (B.symm.trans K)
      injection ea_ with ea_ en_ ec_
      subst ea_; subst ec_; clear en_; have ea_ := Option.some.inj (D.symm.trans U)
      injection ea_ with ea_ en_ ec_
      subst ea_; subst ec_; clear en_
      have aA : 0 ≤ (z : Int) := dga
      have aB : z < (l0.length : Int) := dga
      obtain ⟨a0, bV, b4, bW, b5, bS, aw, ax, ah, ai, ay, az, hl552_2, hi552_2, hl552_3, hi552_3⟩ := at_T52 J.out z aA aB; obtain rfl : ag = a0 := B20x8_; replace aw := (hbc HB aw).trans aw; replace ax := (hbc HB ax).trans ax; replace ah := (hbc HB ah).trans ah; replace ai := (hbc HB ai).trans ai; replace ay := (hbc HB ay).trans ay; replace az := (hbc HB az).trans az; have aY := am hi552_2; have aX := am hl552_2; clear hi552_2 hl552_2; have bX := am hl552_3; clear hi552_3 hl552_3; replace aA := eq_true aA; replace aB := eq_true aB; have ea_ := Option.some.inj (B.symm.trans ah)
      injection ea_ with ea_ en_ ec_
      subst ea_; subst ec_; clear en_; have ea_ := Option.some.inj (D.symm.trans ai)
      injection ea_ with ea_ en_ ec_
      subst ea_; subst ec_; clear en_
      go_wp2_with (first | ((with_reducible refine gate_callee (f := 27) rfl ?_); refine gM (some 36) Try.func27 (laws_heldStringS.calls k1 _ _ ((rd_T52 l0 z).f2) (wrap64 ((wrap64 (a8 + 1)) + 1)) aM _ (tc (Kd.C_below aY.out HB.out)) aX.out A7.out) ?_; rintro cP hb; replace HB := hA HB hb; have aG : 0 ≤ (z : Int) := dga; have aH : z < (l0.length : Int) := dga; obtain ⟨bi, ce, ci, cf, cj, b6, aC, aD, au, av, aE, aF, hl554_2, hi554_2, hl554_3, hi554_3⟩ := at_T52 J.out z aG aH; obtain rfl : ag = bi := B20x9_; replace aC := (hbc HB aC).trans aC; replace aD := (hbc HB aD).trans aD; replace au := (hbc HB au).trans au; replace av := (hbc HB av).trans av; replace aE := (hbc HB aE).trans aE; replace aF := (hbc HB aF).trans aF; have cg := am hl554_2; clear hi554_2 hl554_2; have bd := am hi554_3; have ba := am hl554_3; clear hi554_3 hl554_3; replace aG := eq_true aG; replace aH := eq_true aH) | ((with_reducible refine gate_callee (f := 28) rfl ?_); refine gM (some 45) Try.func28 (laws_heldIntS.calls k1 _ _ ((rd_T52 l0 z).f3) aM aW _ (tc (Kd.C_below bd.out HB.out)) ba.out bU.out) ?_; rintro w' ⟨nd, rfl⟩))
      go_ret; exact ⟨B20x4_, (Ae0 HB)⟩
     obtain ⟨bZ, bw⟩ | ⟨bZ, bw⟩ := sp be
     ·obtain ⟨cD, cE⟩ := yE bZ; clear bZ
      obtain ⟨b0, bz⟩ | ⟨b0, bz⟩ := sp bw
      ·obtain ⟨cF, cG⟩ := yE b0; clear b0; replace bz := am bz; clear aK aN a6 aV aZ bh a7 bB be bw
       have ae : 0 ≤ (z : Int) := dga
       have af : z < (l0.length : Int) := dga
       obtain ⟨ag, bq, bC, br, bD, aL, Z, aa, B, D, ac, ad, hl550_2, hi550_2, hl550_3, hi550_3⟩ := at_T52 J.out z ae af; cases aL; replace Z := (hbc HB Z).trans Z; replace aa := (hbc HB aa).trans aa; replace B := (hbc HB B).trans B; replace D := (hbc HB D).trans D; replace ac := (hbc HB ac).trans ac; replace ad := (hbc HB ad).trans ad; have bu := am hl550_2; clear hi550_2 hl550_2; have bv := am hl550_3; clear hi550_3 hl550_3; replace ae := eq_true ae; replace af := eq_true af
       have ap : 0 ≤ (z : Int) := dga
       have ar : z < (l0.length : Int) := dga
       obtain ⟨aO, bK, bQ, bL, bR, bE, aj, ak, K, U, al, ao, hl551_2, hi551_2, hl551_3, hi551_3⟩ := at_T52 J.out z ap ar; obtain rfl : ag = aO := B20x7_; replace aj := (hbc HB aj).trans aj; replace ak := (hbc HB ak).trans ak; replace K := (hbc HB K).trans K; replace U := (hbc HB U).trans U; replace al := (hbc HB al).trans al; replace ao := (hbc HB ao).trans ao; have bM := am hl551_2; clear hi551_2 hl551_2; have bN := am hl551_3; clear hi551_3 hl551_3; replace ap := eq_true ap; replace ar := eq_true ar; have ea_ := Option.some.inj (B.symm.trans K)
       injection ea_ with ea_ en_ ec_
       subst ea_; subst ec_; clear en_; have ea_ := Option.some.inj (D.symm.trans U)
       injection ea_ with ea_ en_ ec_
       subst ea_; subst ec_; clear en_
       have aA : 0 ≤ (z : Int) := dga
       have aB : z < (l0.length : Int) := dga
       obtain ⟨a0, bV, b4, bW, b5, bS, aw, ax, ah, ai, ay, az, hl552_2, hi552_2, hl552_3, hi552_3⟩ := at_T52 J.out z aA aB; obtain rfl : ag = a0 := B20x8_; replace aw := (hbc HB aw).trans aw; replace ax := (hbc HB ax).trans ax; replace ah := (hbc HB ah).trans ah; replace ai := (hbc HB ai).trans ai; replace ay := (hbc HB ay).trans ay; replace az := (hbc HB az).trans az; have aY := am hi552_2; have aX := am hl552_2; clear hi552_2 hl552_2; have bX := am hl552_3; clear hi552_3 hl552_3; replace aA := eq_true aA; replace aB := eq_true aB; have ea_ := Option.some.inj (B.symm.trans ah)
       injection ea_ with ea_ en_ ec_
       subst ea_; subst ec_; clear en_; have ea_ := Option.some.inj (D.symm.trans ai)
       injection ea_ with ea_ en_ ec_
       subst ea_; subst ec_; clear en_
       go_wp2_with (first | ((with_reducible refine gate_callee (f := 27) rfl ?_); refine gM (some 36) Try.func27 (laws_heldStringS.calls k1 _ _ ((rd_T52 l0 z).f2) (wrap64 ((wrap64 (a8 + 1)) + 1)) aM _ (tc (Kd.C_below aY.out HB.out)) aX.out A7.out) ?_; rintro cQ hb; replace HB := hA HB hb; have aG : 0 ≤ (z : Int) := dga; have aH : z < (l0.length : Int) := dga; obtain ⟨bi, ce, ci, cf, cj, b6, aC, aD, au, av, aE, aF, hl554_2, hi554_2, hl554_3, hi554_3⟩ := at_T52 J.out z aG aH; obtain rfl : ag = bi := B20x9_; replace aC := (hbc HB aC).trans aC; replace aD := (hbc HB aD).trans aD; replace au := (hbc HB au).trans au; replace av := (hbc HB av).trans av; replace aE := (hbc HB aE).trans aE; replace aF := (hbc HB aF).trans aF; have cg := am hl554_2; clear hi554_2 hl554_2; have bd := am hi554_3; have ba := am hl554_3; clear hi554_3 hl554_3; replace aG := eq_true aG; replace aH := eq_true aH) | ((with_reducible refine gate_callee (f := 28) rfl ?_); refine gM (some 45) Try.func28 (laws_heldIntS.calls k1 _ _ ((rd_T52 l0 z).f3) aM aW _ (tc (Kd.C_below bd.out HB.out)) ba.out bU.out) ?_; rintro w' ⟨nd, rfl⟩; have aT : 0 ≤ (z : Int) := dga; have aU : z < (l0.length : Int) := dga; obtain ⟨bP, cl, cr, cm, ct, bT, aP, aQ, aI, aJ, aR, aS, hl556_2, hi556_2, hl556_3, hi556_3⟩ := at_T52 J.out z aT aU; obtain rfl : ag = bP := (by injection bT); replace aP := (hbc HB aP).trans aP; replace aQ := (hbc HB aQ).trans aQ; replace aI := (hbc HB aI).trans aI; replace aJ := (hbc HB aJ).trans aJ; replace aR := (hbc HB aR).trans aR; replace aS := (hbc HB aS).trans aS; have cn := am hl556_2; clear hi556_2 hl556_2; have co := am hl556_3; clear hi556_3 hl556_3; replace aT := eq_true aT; replace aU := eq_true aU; have ea_ := Option.some.inj (au.symm.trans aI); injection ea_ with ea_ en_ ec_; subst ea_; subst ec_; clear en_; have ea_ := Option.some.inj (av.symm.trans aJ); injection ea_ with ea_ en_ ec_; subst ea_; subst ec_; clear en_; have bn : 0 ≤ (z : Int) := dga; have bo : z < (l0.length : Int) := dga; obtain ⟨ch, cv, cI, cw, cJ, ck, bj, bk, a4, a5, bl, bm, hl557_2, hi557_2, hl557_3, hi557_3⟩ := at_T52 J.out z bn bo; obtain rfl : ag = ch := (by injection ck); replace bj := (hbc HB bj).trans bj; replace bk := (hbc HB bk).trans bk; replace a4 := (hbc HB a4).trans a4; replace a5 := (hbc HB a5).trans a5; replace bl := (hbc HB bl).trans bl; replace bm := (hbc HB bm).trans bm; have cx := am hl557_2; clear hi557_2 hl557_2; have cy := am hl557_3; clear hi557_3 hl557_3; replace bn := eq_true bn; replace bo := eq_true bo; have ea_ := Option.some.inj (au.symm.trans a4); injection ea_ with ea_ en_ ec_; subst ea_; subst ec_; clear en_; have ea_ := Option.some.inj (av.symm.trans a5); injection ea_ with ea_ en_ ec_; subst ea_; subst ec_; clear en_))
       go_roundg k1
       case measure => have := cp.out; omega
       case rel => exact ⟨(wrap64 ((wrap64 (aW + 1)) + 1)), (wrap64 (z + 1)), be_, be_, bz, ⟨(by have := cp.out; omega)⟩, Ce0 HB⟩
      obtain ⟨cF, cG⟩ := nE b0; obtain rfl := Option.some.inj bz; clear bz aK aN a6 aV aZ bh a7 bB be bw
      have ae : 0 ≤ (z : Int) := dga
      have af : z < (l0.length : Int) := dga
      obtain ⟨ag, bq, bC, br, bD, aL, Z, aa, B, D, ac, ad, hl550_2, hi550_2, hl550_3, hi550_3⟩ := at_T52 J.out z ae af; cases aL; replace Z := (hbc HB Z).trans Z; replace aa := (hbc HB aa).trans aa; replace B := (hbc HB B).trans B; replace D := (hbc HB D).trans D; replace ac := (hbc HB ac).trans ac; replace ad := (hbc HB ad).trans ad; have bu := am hl550_2; clear hi550_2 hl550_2; have bv := am hl550_3; clear hi550_3 hl550_3; replace ae := eq_true ae; replace af := eq_true af
      have ap : 0 ≤ (z : Int) := dga
      have ar : z < (l0.length : Int) := dga
      obtain ⟨aO, bK, bQ, bL, bR, bE, aj, ak, K, U, al, ao, hl551_2, hi551_2, hl551_3, hi551_3⟩ := at_T52 J.out z ap ar; obtain rfl : ag = aO := B20x7_; replace aj := (hbc HB aj).trans aj; replace ak := (hbc HB ak).trans ak; replace K := (hbc HB K).trans K; replace U := (hbc HB U).trans U; replace al := (hbc HB al).trans al; replace ao := (hbc HB ao).trans ao; have bM := am hl551_2; clear hi551_2 hl551_2; have bN := am hl551_3; clear hi551_3 hl551_3; replace ap := eq_true ap; replace ar := eq_true ar; have ea_ := Option.some.inj (B.symm.trans K)
      injection ea_ with ea_ en_ ec_
      subst ea_; subst ec_; clear en_; have ea_ := Option.some.inj (D.symm.trans U)
      injection ea_ with ea_ en_ ec_
      subst ea_; subst ec_; clear en_
      have aA : 0 ≤ (z : Int) := dga
      have aB : z < (l0.length : Int) := dga
      obtain ⟨a0, bV, b4, bW, b5, bS, aw, ax, ah, ai, ay, az, hl552_2, hi552_2, hl552_3, hi552_3⟩ := at_T52 J.out z aA aB; obtain rfl : ag = a0 := B20x8_; replace aw := (hbc HB aw).trans aw; replace ax := (hbc HB ax).trans ax; replace ah := (hbc HB ah).trans ah; replace ai := (hbc HB ai).trans ai; replace ay := (hbc HB ay).trans ay; replace az := (hbc HB az).trans az; have aY := am hi552_2; have aX := am hl552_2; clear hi552_2 hl552_2; have bX := am hl552_3; clear hi552_3 hl552_3; replace aA := eq_true aA; replace aB := eq_true aB; have ea_ := Option.some.inj (B.symm.trans ah)
      injection ea_ with ea_ en_ ec_
      subst ea_; subst ec_; clear en_; have ea_ := Option.some.inj (D.symm.trans ai)
      injection ea_ with ea_ en_ ec_
      subst ea_; subst ec_; clear en_
      go_wp2_with (first | ((with_reducible refine gate_callee (f := 27) rfl ?_); refine gM (some 36) Try.func27 (laws_heldStringS.calls k1 _ _ ((rd_T52 l0 z).f2) (wrap64 ((wrap64 (a8 + 1)) + 1)) aM _ (tc (Kd.C_below aY.out HB.out)) aX.out A7.out) ?_; rintro cR hb; replace HB := hA HB hb; have aG : 0 ≤ (z : Int) := dga; have aH : z < (l0.length : Int) := dga; obtain ⟨bi, ce, ci, cf, cj, b6, aC, aD, au, av, aE, aF, hl554_2, hi554_2, hl554_3, hi554_3⟩ := at_T52 J.out z aG aH; obtain rfl : ag = bi := B20x9_; replace aC := (hbc HB aC).trans aC; replace aD := (hbc HB aD).trans aD; replace au := (hbc HB au).trans au; replace av := (hbc HB av).trans av; replace aE := (hbc HB aE).trans aE; replace aF := (hbc HB aF).trans aF; have cg := am hl554_2; clear hi554_2 hl554_2; have bd := am hi554_3; have ba := am hl554_3; clear hi554_3 hl554_3; replace aG := eq_true aG; replace aH := eq_true aH) | ((with_reducible refine gate_callee (f := 28) rfl ?_); refine gM (some 45) Try.func28 (laws_heldIntS.calls k1 _ _ ((rd_T52 l0 z).f3) aM aW _ (tc (Kd.C_below bd.out HB.out)) ba.out bU.out) ?_; rintro w' ⟨nd, rfl⟩; have aT : 0 ≤ (z : Int) := dga; have aU : z < (l0.length : Int) := dga; obtain ⟨bP, cl, cr, cm, ct, bT, aP, aQ, aI, aJ, aR, aS, hl556_2, hi556_2, hl556_3, hi556_3⟩ := at_T52 J.out z aT aU; obtain rfl : ag = bP := (by injection bT); replace aP := (hbc HB aP).trans aP; replace aQ := (hbc HB aQ).trans aQ; replace aI := (hbc HB aI).trans aI; replace aJ := (hbc HB aJ).trans aJ; replace aR := (hbc HB aR).trans aR; replace aS := (hbc HB aS).trans aS; have cn := am hl556_2; clear hi556_2 hl556_2; have co := am hl556_3; clear hi556_3 hl556_3; replace aT := eq_true aT; replace aU := eq_true aU; have ea_ := Option.some.inj (au.symm.trans aI); injection ea_ with ea_ en_ ec_; subst ea_; subst ec_; clear en_; have ea_ := Option.some.inj (av.symm.trans aJ); injection ea_ with ea_ en_ ec_; subst ea_; subst ec_; clear en_; have bn : 0 ≤ (z : Int) := dga; have bo : z < (l0.length : Int) := dga; obtain ⟨ch, cv, cI, cw, cJ, ck, bj, bk, a4, a5, bl, bm, hl557_2, hi557_2, hl557_3, hi557_3⟩ := at_T52 J.out z bn bo; obtain rfl : ag = ch := (by injection ck); replace bj := (hbc HB bj).trans bj; replace bk := (hbc HB bk).trans bk; replace a4 := (hbc HB a4).trans a4; replace a5 := (hbc HB a5).trans a5; replace bl := (hbc HB bl).trans bl; replace bm := (hbc HB bm).trans bm; have cx := am hl557_2; clear hi557_2 hl557_2; have cy := am hl557_3; clear hi557_3 hl557_3; replace bn := eq_true bn; replace bo := eq_true bo; have ea_ := Option.some.inj (au.symm.trans a4); injection ea_ with ea_ en_ ec_; subst ea_; subst ec_; clear en_; have ea_ := Option.some.inj (av.symm.trans a5); injection ea_ with ea_ en_ ec_; subst ea_; subst ec_; clear en_))
      go_ret; exact ⟨B20x4_, (Ae0 HB)⟩
     obtain ⟨cD, cE⟩ := nE bZ; obtain rfl := Option.some.inj bw; clear bw aK aN a6 aV aZ bh a7 bB be
     have ae : 0 ≤ (z : Int) := dga
     have af : z < (l0.length : Int) := dga
     obtain ⟨ag, bq, bC, br, bD, aL, Z, aa, B, D, ac, ad, hl550_2, hi550_2, hl550_3, hi550_3⟩ := at_T52 J.out z ae af; cases aL; replace Z := (hbc HB Z).trans Z; replace aa := (hbc HB aa).trans aa; replace B := (hbc HB B).trans B; replace D := (hbc HB D).trans D; replace ac := (hbc HB ac).trans ac; replace ad := (hbc HB ad).trans ad; have bu := am hl550_2; clear hi550_2 hl550_2; have bv := am hl550_3; clear hi550_3 hl550_3; replace ae := eq_true ae; replace af := eq_true af
     have ap : 0 ≤ (z : Int) := dga
     have ar : z < (l0.length : Int) := dga
     obtain ⟨aO, bK, bQ, bL, bR, bE, aj, ak, K, U, al, ao, hl551_2, hi551_2, hl551_3, hi551_3⟩ := at_T52 J.out z ap ar; obtain rfl : ag = aO := B20x7_; replace aj := (hbc HB aj).trans aj; replace ak := (hbc HB ak).trans ak; replace K := (hbc HB K).trans K; replace U := (hbc HB U).trans U; replace al := (hbc HB al).trans al; replace ao := (hbc HB ao).trans ao; have bM := am hl551_2; clear hi551_2 hl551_2; have bN := am hl551_3; clear hi551_3 hl551_3; replace ap := eq_true ap; replace ar := eq_true ar; have ea_ := Option.some.inj (B.symm.trans K)
     injection ea_ with ea_ en_ ec_
     subst ea_; subst ec_; clear en_; have ea_ := Option.some.inj (D.symm.trans U)
     injection ea_ with ea_ en_ ec_
     subst ea_; subst ec_; clear en_
     have aA : 0 ≤ (z : Int) := dga
     have aB : z < (l0.length : Int) := dga
     obtain ⟨a0, bV, b4, bW, b5, bS, aw, ax, ah, ai, ay, az, hl552_2, hi552_2, hl552_3, hi552_3⟩ := at_T52 J.out z aA aB; obtain rfl : ag = a0 := B20x8_; replace aw := (hbc HB aw).trans aw; replace ax := (hbc HB ax).trans ax; replace ah := (hbc HB ah).trans ah; replace ai := (hbc HB ai).trans ai; replace ay := (hbc HB ay).trans ay; replace az := (hbc HB az).trans az; have aY := am hi552_2; have aX := am hl552_2; clear hi552_2 hl552_2; have bX := am hl552_3; clear hi552_3 hl552_3; replace aA := eq_true aA; replace aB := eq_true aB; have ea_ := Option.some.inj (B.symm.trans ah)
     injection ea_ with ea_ en_ ec_
     subst ea_; subst ec_; clear en_; have ea_ := Option.some.inj (D.symm.trans ai)
     injection ea_ with ea_ en_ ec_
     subst ea_; subst ec_; clear en_
     go_wp2_with (first | ((with_reducible refine gate_callee (f := 27) rfl ?_); refine gM (some 36) Try.func27 (laws_heldStringS.calls k1 _ _ ((rd_T52 l0 z).f2) (wrap64 ((wrap64 (a8 + 1)) + 1)) aM _ (tc (Kd.C_below aY.out HB.out)) aX.out A7.out) ?_; rintro cS hb; replace HB := hA HB hb; have aG : 0 ≤ (z : Int) := dga; have aH : z < (l0.length : Int) := dga; obtain ⟨bi, ce, ci, cf, cj, b6, aC, aD, au, av, aE, aF, hl554_2, hi554_2, hl554_3, hi554_3⟩ := at_T52 J.out z aG aH; obtain rfl : ag = bi := B20x9_; replace aC := (hbc HB aC).trans aC; replace aD := (hbc HB aD).trans aD; replace au := (hbc HB au).trans au; replace av := (hbc HB av).trans av; replace aE := (hbc HB aE).trans aE; replace aF := (hbc HB aF).trans aF; have cg := am hl554_2; clear hi554_2 hl554_2; have bd := am hi554_3; have ba := am hl554_3; clear hi554_3 hl554_3; replace aG := eq_true aG; replace aH := eq_true aH) | ((with_reducible refine gate_callee (f := 28) rfl ?_); refine gM (some 45) Try.func28 (laws_heldIntS.calls k1 _ _ ((rd_T52 l0 z).f3) aM aW _ (tc (Kd.C_below bd.out HB.out)) ba.out bU.out) ?_; rintro w' ⟨nd, rfl⟩; have aT : 0 ≤ (z : Int) := dga; have aU : z < (l0.length : Int) := dga; obtain ⟨bP, cl, cr, cm, ct, bT, aP, aQ, aI, aJ, aR, aS, hl556_2, hi556_2, hl556_3, hi556_3⟩ := at_T52 J.out z aT aU; obtain rfl : ag = bP := (by injection bT); replace aP := (hbc HB aP).trans aP; replace aQ := (hbc HB aQ).trans aQ; replace aI := (hbc HB aI).trans aI; replace aJ := (hbc HB aJ).trans aJ; replace aR := (hbc HB aR).trans aR; replace aS := (hbc HB aS).trans aS; have cn := am hl556_2; clear hi556_2 hl556_2; have co := am hl556_3; clear hi556_3 hl556_3; replace aT := eq_true aT; replace aU := eq_true aU; have ea_ := Option.some.inj (au.symm.trans aI); injection ea_ with ea_ en_ ec_; subst ea_; subst ec_; clear en_; have ea_ := Option.some.inj (av.symm.trans aJ); injection ea_ with ea_ en_ ec_; subst ea_; subst ec_; clear en_))
     go_ret; exact ⟨B20x4_, (Ae0 HB)⟩
    obtain ⟨cM, cN⟩ := nE c6; obtain rfl := Option.some.inj aZ; clear aZ aK aN a6 aV
    have ae : 0 ≤ (z : Int) := dga
    have af : z < (l0.length : Int) := dga
    obtain ⟨ag, bq, bC, br, bD, aL, Z, aa, B, D, ac, ad, hl550_2, hi550_2, hl550_3, hi550_3⟩ := at_T52 J.out z ae af; cases aL; replace Z := (hbc HB Z).trans Z; replace aa := (hbc HB aa).trans aa; replace B := (hbc HB B).trans B; replace D := (hbc HB D).trans D; replace ac := (hbc HB ac).trans ac; replace ad := (hbc HB ad).trans ad; have bu := am hl550_2; clear hi550_2 hl550_2; have bv := am hl550_3; clear hi550_3 hl550_3; replace ae := eq_true ae; replace af := eq_true af
    have ap : 0 ≤ (z : Int) := dga
    have ar : z < (l0.length : Int) := dga
    obtain ⟨aO, bK, bQ, bL, bR, bE, aj, ak, K, U, al, ao, hl551_2, hi551_2, hl551_3, hi551_3⟩ := at_T52 J.out z ap ar; obtain rfl : ag = aO := B20x7_; replace aj := (hbc HB aj).trans aj; replace ak := (hbc HB ak).trans ak; replace K := (hbc HB K).trans K; replace U := (hbc HB U).trans U; replace al := (hbc HB al).trans al; replace ao := (hbc HB ao).trans ao; have bM := am hl551_2; clear hi551_2 hl551_2; have bN := am hl551_3; clear hi551_3 hl551_3; replace ap := eq_true ap; replace ar := eq_true ar; have ea_ := Option.some.inj (B.symm.trans K)
    injection ea_ with ea_ en_ ec_
    subst ea_; subst ec_; clear en_; have ea_ := Option.some.inj (D.symm.trans U)
    injection ea_ with ea_ en_ ec_
    subst ea_; subst ec_; clear en_
    go_wp2
    go_ret; exact ⟨B20x4_, (Ae0 HB)⟩
   obtain ⟨cK, cL⟩ := nE c5; obtain rfl := Option.some.inj aV; clear aV aK aN a6
   have ae : 0 ≤ (z : Int) := dga
   have af : z < (l0.length : Int) := dga
   obtain ⟨ag, bq, bC, br, bD, aL, Z, aa, B, D, ac, ad, hl550_2, hi550_2, hl550_3, hi550_3⟩ := at_T52 J.out z ae af; cases aL; replace Z := (hbc HB Z).trans Z; replace aa := (hbc HB aa).trans aa; replace B := (hbc HB B).trans B; replace D := (hbc HB D).trans D; replace ac := (hbc HB ac).trans ac; replace ad := (hbc HB ad).trans ad; have bu := am hl550_2; clear hi550_2 hl550_2; have bv := am hl550_3; clear hi550_3 hl550_3; replace ae := eq_true ae; replace af := eq_true af
   go_wp2
   go_ret; exact ⟨B20x4_, (Ae0 HB)⟩
  obtain rfl := Option.some.inj aN; clear aN aK
  go_wp2
  go_ret; exact ⟨B20x4_, (Ae0 HB)⟩
end
def laws_markBitsS.go (k : Nat) : List S52 → Int → Option (Int × List S52)
  | [], a => some (a, [])
  | x :: xs, a => (laws_markStringS.f k x.f2 (wrap64 (wrap64 (a + 1) + 1))).bind fun p => (laws_markIntS.f k x.f3 p.1).bind fun q => (laws_markBitsS.go k xs (wrap64 (wrap64 (q.1 + 1) + 1))).bind fun r => some (r.1, (⟨a, wrap64 (a + 1), p.2, q.2, q.1, wrap64 (q.1 + 1)⟩ : S52) :: r.2)
def laws_markBitsS.f (k : Nat) (l0 : List S52) (a1 : Int) : Option (Int × List S52) := laws_markBitsS.go k l0 a1
section
variable {W W1 : World} {base : Nat} {ok oki P : Nat → Prop} {g n cap q : Nat} {xs : List S52} {v0 v1 v2 v3 v4 v5 : Value}
theorem lend82 (h : Kd.S k52 52 W base ok (.slice (some ⟨g, 0, none⟩) n cap) xs) {x : S52} (hx : xs[q]? = some x) :
    ∃ (oki : Nat → Prop) (v2 v3 : Value), Kd.H k52 52 W base ok (.slice (some ⟨g, 0, none⟩) n cap) xs (q : Int) oki [.int .i64 x.f0, .int .i64 x.f1, v2, v3, .int .i64 x.f4, .int .i64 x.f5] ∧ Kd.string.R 9 W base oki v2 x.f2 ∧ (Kd.int .i64).R 3 W base oki v3 x.f3 ∧ (∀ k, oki k → ok k ∧ k ≠ g) := by
  have hn := (Kd.S_reads' h).1
  have hq := (List.getElem?_eq_some_iff.1 hx).1
  obtain ⟨oki, c, _, hM, _, hok, hH⟩ := Kd.S_lend h z52 (q : Int) (by omega) (by omega)
  rw [Int.toNat_natCast, List.getD_eq_getElem?_getD, hx] at hM
  obtain ⟨v2, v3, rfl, g2, g3⟩ := k52_openM hM
  exact ⟨oki, v2, v3, hH, g2, g3, hok⟩
theorem at82 (h : Kd.H k52 52 W base ok (.slice (some ⟨g, 0, none⟩) n cap) xs (q : Int) oki [v0, v1, v2, v3, v4, v5]) (hq : q < n) {o : Nat} (ho : q * 6 = o) :
    (W.cell? ⟨g, o, none⟩ = some v0 ∧ W.cell? ⟨g, o + 1, none⟩ = some v1 ∧ W.cell? ⟨g, o + 2, none⟩ = some v2 ∧ W.cell? ⟨g, o + 3, none⟩ = some v3 ∧ W.cell? ⟨g, o + 4, none⟩ = some v4 ∧ W.cell? ⟨g, o + 5, none⟩ = some v5) ∧
    (W.frozen? ⟨g, o, none⟩ = false ∧ W.frozen? ⟨g, o + 1, none⟩ = false ∧ W.frozen? ⟨g, o + 2, none⟩ = false ∧ W.frozen? ⟨g, o + 3, none⟩ = false ∧ W.frozen? ⟨g, o + 4, none⟩ = false ∧ W.frozen? ⟨g, o + 5, none⟩ = false) := by
  obtain ⟨hcc, hfr⟩ := Kd.H_at h (by omega) (by omega)
  subst ho
  exact ⟨⟨hcc 0 _ rfl, hcc 1 _ rfl, hcc 2 _ rfl, hcc 3 _ rfl, hcc 4 _ rfl, hcc 5 _ rfl⟩, ⟨hfr 0, hfr 1, hfr 2, hfr 3, hfr 4, hfr 5⟩⟩
theorem put82a (h : Kd.H k52 52 W base ok (.slice (some ⟨g, 0, none⟩) n cap) xs (q : Int) oki [v0, v1, v2, v3, v4, v5]) (hq : q < n) {o : Nat} (ho : q * 6 = o) (a b : Int) :
    Kd.H k52 52 ((W.setCell ⟨g, o, none⟩ (.int .i64 a)).setCell ⟨g, o + 1, none⟩ (.int .i64 b)) base ok (.slice (some ⟨g, 0, none⟩) n cap) xs (q : Int) oki [.int .i64 a, .int .i64 b, v2, v3, v4, v5] ∧ W.grownBy ((W.setCell ⟨g, o, none⟩ (.int .i64 a)).setCell ⟨g, o + 1, none⟩ (.int .i64 b)) (some g) := by
  subst ho
  exact Kd.H_seg (seg := [.int .i64 a, .int .i64 b]) (j := 0) h (by omega) (by omega) (by show 0 + 2 ≤ 6; omega) (by simp [Value.oneCell'])
theorem put82b (h : Kd.H k52 52 W base ok (.slice (some ⟨g, 0, none⟩) n cap) xs (q : Int) oki [v0, v1, v2, v3, v4, v5]) (hq : q < n) {o : Nat} (ho : q * 6 = o) (a b : Int) :
    Kd.H k52 52 ((W.setCell ⟨g, o + 4, none⟩ (.int .i64 a)).setCell ⟨g, o + 5, none⟩ (.int .i64 b)) base ok (.slice (some ⟨g, 0, none⟩) n cap) xs (q : Int) oki [v0, v1, v2, v3, .int .i64 a, .int .i64 b] ∧ W.grownBy ((W.setCell ⟨g, o + 4, none⟩ (.int .i64 a)).setCell ⟨g, o + 5, none⟩ (.int .i64 b)) (some g) := by
  subst ho
  exact Kd.H_seg (seg := [.int .i64 a, .int .i64 b]) (j := 4) h (by omega) (by omega) (by show 4 + 2 ≤ 6; omega) (by simp [Value.oneCell'])
theorem kept82 {c : List Value} {i : Int} (h : Kd.H k52 52 W base ok (.slice (some ⟨g, 0, none⟩) n cap) xs i oki c) (hk : Kept W W1 P) (hp : ∀ k, P k → oki k) : Kd.H k52 52 W1 base ok (.slice (some ⟨g, 0, none⟩) n cap) xs i oki c :=
  Kd.H_step h (fun k _ hn hlt => hk.2 k hlt (fun hP => hn (hp k hP)))
/-- A row of another type's elements stays. -/
theorem other_row {α : Type} {d : Kd α} (hE : d.E = []) {e e' : Nat} {v v' : Value} {l : List α} (h : d.R e W base ok v l) (hk : Kept W W1 (fun k => some k = v'.ownBlock)) (hty : ∀ k, v'.ownBlock = some k → ∃ cells, W.heap[k]? = some (.cells cells e' (0, 0))) (hne : e ≠ e') : d.R e W1 base ok v l := by
  have ht := Kd.R_typed h
  refine Kd.R_mono (Kd.R_step (Kd.R_tight hE h) (fun k hk' hlt => hk.2 k hlt (fun hP => ?_))) (fun k hk' => h.1 k hk'.symm)
  obtain ⟨c1, h1⟩ := ht k hk'.symm
  obtain ⟨c2, h2⟩ := hty k hP.symm
  rw [h1] at h2
  injection h2 with h2
  injection h2 with _ h2
  exact hne h2
end
def Marked (P0 : Nat → Prop) (u : Value) (r1 : Int) (r2 : List S52) (w0 w : World) (e : Ending) (w' : World) : Prop := e = .returned (.int .i64 r1) ∧ SQ k52 52 w' w0.heap.size P0 u r2 ∧ Below w0.heap.size w0 w' ∧ Kept w w' P0
theorem laws_markBitsS.calls (k : Nat) (P0 : Nat → Prop) (u : Value) (l0 : List S52) (a1 : Int) (r1 : Int) (r2 : List S52) (w0 w : World) (hB : Below w0.heap.size w0 w) (bJ : SQ k52 52 w w0.heap.size P0 u l0) (h : laws_markBitsS.f k l0 a1 = some (r1, r2)) :
    Calls Try.prog 10 #[u, .int .i64 a1] w (Marked P0 u r1 r2 w0 w) := by
  have cW := Try.underlying52
  cases hl : l0 with
  | nil =>
    subst hl
    have e := Option.some.inj (show some (a1, ([] : List S52)) = some (r1, r2) from h)
    injection e with e1 e2
    subst e1; subst e2
    have HS := Aside0.mk bJ
    obtain ⟨A, c, rfl⟩ := SQ_slice bJ
    have HB := Aside0.mk hB
    clear h bJ hB
    go_enter Try.func10, Try.ntmps10
    go_wp2
    go_loopg [1, 5] 0 (fun kq v1 v5 w' => v1 = .int .i64 a1 ∧ v5 = .int .i64 0 ∧ Drawn0 w w')
    case atStart => exact ⟨rfl, rfl, Drawn0.refl _⟩
    case round =>
      obtain ⟨rfl, rfl, ⟨m1, rfl⟩⟩ := hrel
      go_wp2
      go_ret
      exact ⟨rfl, SQ_drewN HS.out _, pw_below_drewN HB.out _, Kept.drewN (Kept.refl _ _) _⟩
  | cons x0 xs0 =>
    have hpos : 0 < l0.length := by rw [hl]; simp
    clear hl
    obtain ⟨g, m, cap, ys, hu, hym, hS⟩ := SQ_open bJ hpos
    replace hu : u = .slice (some ⟨g, m * 6, none⟩) l0.length cap := hu
    subst hu
    have hP0 : P0 g := by obtain ⟨f, hR⟩ := hS; exact hR.1 g (by simp [Value.ownBlock])
    have hbg : w0.heap.size ≤ g := Kd.S_base hS g (by simp [Value.ownBlock])
    have hmax : l0.length ≤ 9223372036854775807 := by
      obtain ⟨A, c, _, _, hC⟩ := SQ_reads bJ
      exact hC.2.1
    have HY := Aside0.mk hym
    have HS := Aside0.mk hS
    have cq := Aside0.mk hP0
    have HBG := Aside0.mk hbg
    have HMX := Aside0.mk hmax
    have HB := Aside0.mk hB
    have HK := Aside0.mk (Kept.refl w P0)
    have HG := Aside0.mk (show laws_markBitsS.go k l0 a1 = some (r1, r2) from h)
    clear hym hS hP0 hbg hmax hB h hpos bJ
    go_enter Try.func10, Try.ntmps10
    go_wp2
    go_loopg [1, 5] l0.length (fun kq v1 v5 w' => ∃ (a i : Int) (ds rest rr : List S52), v1 = .int .i64 a ∧ v5 = .int .i64 i ∧ Aside0 (0 ≤ i ∧ i.toNat = ds.length ∧ ds.length + rest.length = l0.length ∧ rest.length ≤ kq) ∧ Aside0 (laws_markBitsS.go k rest a = some (r1, rr) ∧ r2 = ds ++ rr) ∧ Aside0 (Kd.S k52 52 w' w0.heap.size P0 (.slice (some ⟨g, 0, none⟩) (m + l0.length) (m + cap)) (ys ++ (ds ++ rest))) ∧ Aside0 (Below w0.heap.size w0 w') ∧ Aside0 (Kept w w' P0))
    case atStart => exact ⟨a1, 0, [], l0, r2, (by first | rfl | (simp; done) | (simp [*]; done)), (by first | rfl | (simp; done) | (simp [*]; done)), ⟨by simp⟩, ⟨HG.out, rfl⟩, HS, HB, HK⟩
    case round =>
      obtain ⟨a, i, ds, rest, rr, rfl, rfl, HJ, HA, HS, HB, HK⟩ := hrel
      cases hrest : rest with
      | nil =>
        subst hrest
        have hin : ¬ i < (l0.length : Int) := by have := HJ.out; simp only [List.length_nil] at this; omega
        have c1b := eq_false hin
        clear hin
        have hA := HA.out
        have e := Option.some.inj (show some (a, ([] : List S52)) = some (r1, rr) from hA.1)
        injection e with e1 e2
        have bY := Aside0.mk (show r2 = ds by rw [hA.2, ← e2, List.append_nil])
        subst e1
        clear hA e2
        go_wp2
        go_ret
        refine ⟨rfl, SQ_back HY.out ?_ ?_, HB.out, HK.out⟩
        · have h := HS.out
          rw [List.append_nil] at h
          rw [bY.out, show ds.length = l0.length by have := HJ.out; simp only [List.length_nil] at this; omega]
          exact h
        · rw [bY.out]; have := HJ.out; simp only [List.length_nil] at this; omega
      | cons x rest1 =>
        subst hrest
        obtain ⟨⟨p1, p2⟩, Ap, H⟩ := bsi HA.out.1
        obtain ⟨⟨q1, q2⟩, Aq, H⟩ := bsi H
        obtain ⟨⟨s1, s2⟩, As, H⟩ := bsi H
        have e := Option.some.inj H
        injection e with e1 e2
        have e1' : s1 = r1 := e1
        have e2' : (⟨a, wrap64 (a + 1), p2, q2, q1, wrap64 (q1 + 1)⟩ : S52) :: s2 = rr := e2
        have bY := Aside0.mk (show r2 = (ds ++ [(⟨a, wrap64 (a + 1), p2, q2, q1, wrap64 (q1 + 1)⟩ : S52)]) ++ s2 by rw [HA.out.2, ← e2', List.append_assoc]; rfl)
        subst e1'
        clear e1 e2 e2' H HA
        have hlen := HJ.out
        rw [List.length_cons] at hlen
        have hqe : (ys ++ (ds ++ x :: rest1))[m + i.toNat]? = some x := by rw [List.getElem?_append_right (by have := HY.out; omega), HY.out, Nat.add_sub_cancel_left, List.getElem?_append_right (by omega), hlen.2.1, Nat.sub_self]; rfl
        obtain ⟨oki, v2, v3, hH, hT2, hT3, hoki⟩ := lend82 HS.out hqe
        obtain ⟨A2, c2, rfl⟩ := Kd.R_slice hT2
        obtain ⟨A3, c3, rfl⟩ := Kd.R_slice hT3
        have hqn : m + i.toNat < m + l0.length := by omega
        have ho : (m + i.toNat) * 6 = m * 6 + i.toNat * 6 := Nat.add_mul _ _ _
        obtain ⟨⟨b7, b8, b9, ca, cc, cd⟩, ⟨hz0, hz1, hz2, hz3, hz4, hz5⟩⟩ := at82 hH hqn ho
        have HH := Aside0.mk hH
        have T2 := Aside0.mk hT2
        have T3 := Aside0.mk hT3
        have OKI := Aside0.mk hoki
        have QN := Aside0.mk hqn
        have HO := Aside0.mk ho
        have HIN := Aside0.mk (show wrap64 (i + 1) = i + 1 by have := HMX.out; unfold wrap64; omega)
        have c1b := eq_true (show i < (l0.length : Int) by omega)
        have c2b := eq_true (show 0 ≤ i by omega)
        clear hH hT2 hT3 hoki hqn ho hqe hlen
        go_wp2_with (first | (go_at_call 25; have hp := put82a HH.out QN.out HO.out a (wrap64 (a + 1)); have t2 := Kd.R_grown T2.out hp.2 (fun k hk e_ => (OKI.out k hk).2 (by injection e_)); have t3 := Kd.R_grown T3.out hp.2 (fun k hk e_ => (OKI.out k hk).2 (by injection e_)); refine (laws_markStringS.calls k _ _ x.f2 _ p1 p2 w0 _ (HB.out.grown hp.2 (below_size HB.out) (fun k hk => by injection hk with hk; rw [← hk]; exact HBG.out)) (Kd.R_tight rfl t2) Ap.out).mono ?_; rintro e w2 ⟨rfl, ho, hb, hk⟩; replace HH := Aside0.mk (kept82 hp.1 hk (fun k hk => T2.out.1 k hk.symm)); have T2b := Aside0.mk (Kd.R_mono (Kd.R_tight rfl ho) (fun k hk => T2.out.1 k hk.symm)); have T3b := Aside0.mk (other_row rfl t3 hk (Kd.R_typed t2) (by decide)); replace HK := Aside0.mk (Kept.then_ (Kept.of_grown hp.2 HK.out (fun k hk => .inl (by injection hk with hk; rw [← hk]; exact cq.out))) hk (fun k hk => .inl (OKI.out k (T2.out.1 k hk.symm)).1)); replace HB := Aside0.mk hb; clear hp t2 t3 ho hb hk b7 b8 b9 ca cc cd hz0 hz1 hz2 hz3 hz4 hz5; obtain ⟨⟨b7, b8, b9, ca, cc, cd⟩, ⟨hz0, hz1, hz2, hz3, hz4, hz5⟩⟩ := at82 HH.out QN.out HO.out) | (go_at_call 26; refine (laws_markIntS.calls k _ _ x.f3 _ q1 q2 w0 _ HB.out (Kd.R_tight rfl T3b.out) Aq.out).mono ?_; rintro e w3 ⟨rfl, ho, hb, hk⟩; replace HH := Aside0.mk (kept82 HH.out hk (fun k hk => T3b.out.1 k hk.symm)); have T2c := Aside0.mk (other_row rfl T2b.out hk (Kd.R_typed T3b.out) (by decide)); have T3c := Aside0.mk (Kd.R_mono (Kd.R_tight rfl ho) (fun k hk => T3b.out.1 k hk.symm)); replace HK := Aside0.mk (Kept.then_ HK.out hk (fun k hk => .inl (OKI.out k (T3b.out.1 k hk.symm)).1)); replace HB := Aside0.mk hb; clear ho hb hk b7 b8 b9 ca cc cd hz0 hz1 hz2 hz3 hz4 hz5; obtain ⟨⟨b7, b8, b9, ca, cc, cd⟩, ⟨hz0, hz1, hz2, hz3, hz4, hz5⟩⟩ := at82 HH.out QN.out HO.out))
        have hp := put82b HH.out QN.out HO.out q1 (wrap64 (q1 + 1))
        have t2 := Kd.R_grown T2c.out hp.2 (fun k hk e_ => (OKI.out k hk).2 (by injection e_))
        have t3 := Kd.R_grown T3c.out hp.2 (fun k hk e_ => (OKI.out k hk).2 (by injection e_))
        have hs := Kd.H_back hp.1 (x' := (⟨a, wrap64 (a + 1), p2, q2, q1, wrap64 (q1 + 1)⟩ : S52)) (k52_mkM _ _ _ _ t2 t3) (fun _ h_ => h_)
        have cu := HB.out.grown hp.2 (below_size HB.out) (fun k hk => by injection hk with hk; rw [← hk]; exact HBG.out)
        have hk2 := Kept.of_grown (S := P0) hp.2 HK.out (fun k hk => .inl (by injection hk with hk; rw [← hk]; exact cq.out))
        have HS2 := Aside0.mk hs
        have HB2 := Aside0.mk cu
        have cz := Aside0.mk hk2
        clear hp t2 t3 hs cu hk2
        go_roundg (rest1.length)
        case measure => have := HJ.out; simp only [List.length_cons] at this; omega
        case rel =>
          refine ⟨wrap64 (wrap64 (q1 + 1) + 1), wrap64 (i + 1), ds ++ [(⟨a, wrap64 (a + 1), p2, q2, q1, wrap64 (q1 + 1)⟩ : S52)], rest1, s2, rfl, rfl, ⟨?_⟩, ⟨As.out, bY.out⟩, ⟨?_⟩, HB2, cz⟩
          · rw [HIN.out]; have := HJ.out; simp only [List.length_cons] at this; rw [List.length_append, List.length_singleton]; omega
          · have hj := HJ.out
            have he : ∀ x' : S52, (ys ++ (ds ++ x :: rest1)).set (((m + i.toNat : Nat) : Int).toNat) x' = ys ++ ((ds ++ [x']) ++ rest1) := by
              intro x'
              rw [Int.toNat_natCast, List.set_append_right _ _ (by have := HY.out; omega), HY.out, Nat.add_sub_cancel_left, List.set_append_right _ _ (by omega), hj.2.1, Nat.sub_self, List.set_cons_zero, List.append_assoc, List.singleton_append]
            rw [← he]
            exact HS2.out

/-- What is told by blocks that are ok, told at W: it is told at W'. -/
def Same (ok : Nat → Prop) (W W' : World) : Prop := W.heap.size ≤ W'.heap.size ∧ ∀ k, ok k → k < W.heap.size → W'.heap[k]? = W.heap[k]?
theorem Same.refl (ok : Nat → Prop) (W : World) : Same ok W W := ⟨Nat.le_refl _, fun _ _ _ => rfl⟩
theorem Same.below {ok : Nat → Prop} {W W' W2 : World} (h : Same ok W W') (hb : Below W'.heap.size W' W2) : Same ok W W2 := ⟨Nat.le_trans h.1 hb.size, fun k hk hlt => (hb.block k (Nat.lt_of_lt_of_le hlt h.1)).trans (h.2 k hk hlt)⟩
theorem Same.kept {ok P : Nat → Prop} {W W' W2 : World} (h : Same ok W W') (hk : Kept W' W2 P) (hn : ∀ k, ok k → k < W.heap.size → ¬ P k) : Same ok W W2 := ⟨Nat.le_trans h.1 hk.1, fun k ho hlt => (hk.2 k (Nat.lt_of_lt_of_le hlt h.1) (hn k ho hlt)).trans (h.2 k ho hlt)⟩
/-- Blocks from a on, ahead of b. -/
def rng (a b : Nat) : Nat → Prop := fun k => a ≤ k ∧ k < b
theorem rng_S {e base : Nat} {ok : Nat → Prop} {W : World} {v : Value} {l : List S52} (h : Kd.S k52 e W base ok v l) : Kd.S k52 e W base (rng base W.heap.size) v l := Kd.S_mono (Kd.S_bound h) (fun _ hk => ⟨hk.2.1, hk.2.2.1⟩)
theorem rng_SQ {e base : Nat} {ok : Nat → Prop} {W : World} {v : Value} {l : List S52} (h : SQ k52 e W base ok v l) : SQ k52 e W base (rng base W.heap.size) v l := SQ_mono (SQ_bound h) (fun _ hk => ⟨hk.2.1, hk.2.2.1⟩)
/-- A row, told at an elder world, is read. -/
theorem SQ_now {e base : Nat} {ok : Nat → Prop} {W W' : World} {v : Value} {l : List S52} (h : SQ k52 e W base ok v l) (hs : Same ok W W') : SQ k52 e W' base ok v l := SQ_step h hs.2
theorem F_now52 {ok : Nat → Prop} {W W' : World} {A : Option Addr} {l : List S52} (h : Kd.F k52 W ok A l.length l) (hs : Same ok W W') : Kd.C k52 W' A l.length l := h W' hs.2
/-- heldBitsS over a row told by its form. -/
theorem laws_heldBitsS.calls2 (k : Nat) {e base : Nat} {ok : Nat → Prop} (A : Option Addr) (n c : Nat) (l0 : List (S52)) (a1 : Int) (r : Int) (w : World) (hq : SQ k52 e w base ok (.slice A n c) l0) (h : laws_heldBitsS.f k l0 a1 = some r) :
  Calls Try.prog 11 #[.slice A n c, .int .i64 a1] w fun e w' => e = .returned (.int .i64 r) ∧ Below w.heap.size w w' := by
  obtain ⟨rfl, h2, h3⟩ := SQ_reads' hq
  exact laws_heldBitsS.calls k _ _ l0 a1 r w h3 h2 h
section
variable {W : World} {g : Nat} {v0 v1 v2 v3 : Value}
theorem Same.set {ok : Nat → Prop} {W0 : World} {i : Nat} {v : Value} (h : Same ok W0 W) (hn : ∀ k, ok k → k < W0.heap.size → k ≠ g) : Same ok W0 (W.setCell ⟨g, i, none⟩ v) :=
  ⟨zs h.1, fun k hk hlt => (Below.heap_setCell W _ _ _ (hn k hk hlt)).trans (h.2 k hk hlt)⟩
theorem four_same {ok : Nat → Prop} {W0 : World} (h : Same ok W0 W) (hn : ∀ k, ok k → k < W0.heap.size → k ≠ g) : Same ok W0 ((((W.setCell ⟨g, 0, none⟩ v0).setCell ⟨g, 1, none⟩ v1).setCell ⟨g, 2, none⟩ v2).setCell ⟨g, 3, none⟩ v3) := ((((h.set hn).set hn).set hn).set hn)
theorem four_far {b t : Nat} {cs : Array Value} (h : W.heap[b]? = some (.cells cs t (0, 0))) (hn : b ≠ g) : (((((W.setCell ⟨g, 0, none⟩ v0).setCell ⟨g, 1, none⟩ v1).setCell ⟨g, 2, none⟩ v2).setCell ⟨g, 3, none⟩ v3)).heap[b]? = some (.cells cs t (0, 0)) := bf hn (bf hn (bf hn (bf hn h)))
theorem four_own {t : Nat} {c0 c1 c2 c3 : Value} (h : W.heap[g]? = some (.cells #[c0, c1, c2, c3] t (0, 0))) : (((((W.setCell ⟨g, 0, none⟩ v0).setCell ⟨g, 1, none⟩ v1).setCell ⟨g, 2, none⟩ v2).setCell ⟨g, 3, none⟩ v3)).heap[g]? = some (.cells #[v0, v1, v2, v3] t (0, 0)) := blk_put (blk_put (blk_put (blk_put h 0 _ rfl) 1 _ rfl) 2 _ rfl) 3 _ rfl
theorem four_below {w : World} (h : Below w.heap.size w W) (hg : w.heap.size ≤ g) : Below w.heap.size w ((((W.setCell ⟨g, 0, none⟩ v0).setCell ⟨g, 1, none⟩ v1).setCell ⟨g, 2, none⟩ v2).setCell ⟨g, 3, none⟩ v3) := below_set (below_set (below_set (below_set h hg) hg) hg) hg
theorem blk_kept {P : Nat → Prop} {W2 : World} {b : Nat} {o : Obj} (h : W.heap[b]? = some o) (hk : Kept W W2 P) (hn : ¬ P b) : W2.heap[b]? = some o := (hk.2 b (blk_lt h) hn).trans h
end
theorem Same.ofS {e base : Nat} {ok : Nat → Prop} {W : World} {v : Value} {l : List S52} (_ : Kd.S k52 e W base ok v l) : Same ok W W := Same.refl _ _
theorem Same.ofQ {e base : Nat} {ok : Nat → Prop} {W : World} {v : Value} {l : List S52} (_ : SQ k52 e W base ok v l) : Same ok W W := Same.refl _ _
theorem Same.ofF {ok : Nat → Prop} {W : World} {A : Option Addr} {n : Nat} {l : List S52} (_ : Kd.F k52 W ok A n l) : Same ok W W := Same.refl _ _
theorem jr_ (h : p := by first | (go_simp; done) | (go_simp; rfl)) : p := h
theorem jb_ (h : p := by repeat (first | (with_reducible first | exact HB.out | apply below_alloc | apply pw_below_drewN | apply below_drew1) | exact HB.out)) : p := h
def laws_FnExactUnwrap.f (k : Nat) (l0 : List (S38)) (a1 : ByteArray) (a2 : Int) (a3 : Int) : Option Bool :=
  if (a1.size : Int) > 1048576 then some true else (laws_szBitsS.f k l0 1048576).bind fun left => if left < 0 then some true else (laws_toBitsS.f k l0).bind fun t => (spec_Unwrap.f k t a1 a2 a3).bind fun s => (impl_Unwrap.f k t a1 a2 a3).bind fun g => (laws_eqBitsS.f k g.1 s.1).bind fun b1 => (laws_eqSeg.f g.2.1 g.2.2.1 g.2.2.2.1 g.2.2.2.2.1 s.2.1 s.2.2.1 s.2.2.2.1 s.2.2.2.2.1).bind fun b2 => (laws_eqBitsS.f k t t).bind fun b3 => (laws_markBitsS.f k t 1).bind fun x => (laws_markBitsS.f k g.1 1).bind fun m => (laws_heldBitsS.f k m.2 1).bind fun q => if b1 = true ∧ b2 = true ∧ b3 = true ∧ g.2.2.2.2.2 = s.2.2.2.2.2 ∧ 0 ≤ x.1 ∧ 0 ≤ m.1 ∧ q = m.1 then some true else none
theorem laws_FnExactUnwrap.calls (k : Nat) (A0 : Option Addr) (c0 : Nat) (l0 : List (S38)) (a1 : ByteArray) (a2 : Int) (a3 : Int) (r : Bool) (w : World) (hr0 : Kd.C k38 w A0 l0.length l0) (hc0 : l0.length ≤ c0) (h : laws_FnExactUnwrap.f k l0 a1 a2 a3 = some r) (hr_ : Aside0 (r = true)) :
  Calls Try.prog 3 #[.slice A0 l0.length c0, .string a1, .int .i64 a2, .int .i64 a3] w fun e w' => e = .returned (.bool r) ∧ Below w.heap.size w w' := by
 have cV := Try.underlying26
 have J := Aside0.mk hr0
 have a9 := Aside0.mk hc0
 have HB := Aside0.mk (Below.refl w.heap.size w)
 obtain rfl := hr_.out
 clear hr0 hc0 hr_
 unfold laws_FnExactUnwrap.f at h
 by_cases hs : (a1.size : Int) > 1048576
 ·have cA : decide (1048576 < (a1.size : Int)) = true := decide_eq_true hs
  have cB : decide (1048576 < a1.size) = true := decide_eq_true (by omega)
  clear h
  go_enter Try.func3, Try.ntmps3
  go_wp2
  go_ret
  exact ⟨rfl, HB.out⟩
 rw [if_neg hs] at h
 have cA : decide (1048576 < (a1.size : Int)) = false := decide_eq_false hs
 have cB : decide (1048576 < a1.size) = false := decide_eq_false (by omega)
 clear hs
 obtain ⟨left, AL, H⟩ := bsi h
 clear h
 by_cases hl : left < 0
 ·have c1 := decide_eq_true hl
  clear H hl
  go_enter Try.func3, Try.ntmps3
  go_wp2_with (first | ((with_reducible refine gate_callee (f := 4) rfl ?_); refine goesL_ (some 28) rfl rfl Try.func4 (by kernel_rfl) rfl #[.slice A0 l0.length c0, .int .i64 1048576] rfl gm_ ?_; (with_reducible refine (laws_szBitsS.calls k _ _ l0 1048576 left _ ?side1 ?side2 AL.out).mono ?_); (case side1 => exact (Kd.C_below J.out HB.out)); (case side2 => exact a9.out); rintro e w1 ⟨rfl, hb⟩; refine ⟨_, rfl, ?_⟩; replace HB := Aside0.mk (below_step jb_ hb); clear hb))
  go_ret
  exact ⟨rfl, HB.out⟩
 rw [if_neg hl] at H
 have c1 := decide_eq_false hl
 clear hl
 obtain ⟨t, AT, H⟩ := bsi H
 obtain ⟨⟨s0, s1, s2, s3, s4, s5⟩, AS, H⟩ := bsi H
 obtain ⟨⟨g0, g1, g2, g3, g4, g5⟩, AG, H⟩ := bsi H
 obtain ⟨b1, AE, H⟩ := bsi H
 obtain ⟨b2, AI, H⟩ := bsi H
 obtain ⟨b3, AF, H⟩ := bsi H
 obtain ⟨⟨x1, x2⟩, AX, H⟩ := bsi H
 obtain ⟨⟨m1, m2⟩, AM, H⟩ := bsi H
 obtain ⟨q, AQ, H⟩ := bsi H
 by_cases hc : b1 = true ∧ b2 = true ∧ b3 = true ∧ g5 = s5 ∧ 0 ≤ x1 ∧ 0 ≤ m1 ∧ q = m1
 rotate_left
 · exact absurd ((if_neg hc).symm.trans H) (by simp)
 obtain ⟨rfl, rfl, rfl, rfl, hx, hm, rfl⟩ := hc
 have c3 : decide (x1 < 0) = false := decide_eq_false (by omega)
 have c4 : decide (q < 0) = false := decide_eq_false (by omega)
 have c5 : (q != q) = false := by simp
 have c6 : (g5 != g5) = false := by simp
 clear H hx hm
 go_enter Try.func3, Try.ntmps3
 go_wp2_with (first | ((with_reducible refine gate_callee (f := 4) rfl ?_); refine goesL_ (some 28) rfl rfl Try.func4 (by kernel_rfl) rfl #[.slice A0 l0.length c0, .int .i64 1048576] rfl gm_ ?_; (with_reducible refine (laws_szBitsS.calls k _ _ l0 1048576 left _ ?side1 ?side2 AL.out).mono ?_); (case side1 => exact (Kd.C_below J.out HB.out)); (case side2 => exact a9.out); rintro e w1 ⟨rfl, hb⟩; refine ⟨_, rfl, ?_⟩; replace HB := Aside0.mk (below_step jb_ hb); clear hb) | ((with_reducible refine gate_callee (f := 6) rfl ?_); refine goesL_ (some 33) rfl rfl Try.func6 (by kernel_rfl) rfl #[.slice A0 l0.length c0] rfl gm_ ?_; (with_reducible refine (laws_toBitsS.calls k _ _ l0 t _ ?side1 ?side2 AT.out).mono ?_); (case side1 => exact (Kd.C_below J.out HB.out)); (case side2 => exact a9.out); rintro e w2 ⟨v2, rfl, ho, hb⟩; refine ⟨_, rfl, ?_⟩; obtain ⟨A2, n2, rfl⟩ := Kd.S_slice ho; have Y := Aside0.mk ho; replace HB := Aside0.mk (below_step jb_ hb); clear hb; clear ho) | ((with_reducible refine gate_callee (f := 5) rfl ?_); refine goesL_ (some 37) rfl rfl Try.func5 (by kernel_rfl) rfl #[.slice A2 t.length n2, .string a1, .int .i64 a2, .int .i64 a3] rfl gm_ ?_; (with_reducible refine (spec_Unwrap.calls k _ _ t a1 a2 a3 s0 s1 s2 s3 s4 g5 _ ?side1 ?side2 AS.out).mono ?_); (case side1 => exact (Kd.S_reads' Y.out).2.2); (case side2 => exact (Kd.S_reads' Y.out).2.1); rintro e w3 ⟨v3, rfl, ho, hb⟩; refine ⟨_, rfl, ?_⟩; obtain ⟨A3, n3, hv3, hn3, hF⟩ := Kd.N_V (base' := 0) (Kd.N_bound ho); subst hv3; have WF := Aside0.mk hF; have WN := Aside0.mk hn3; have SW := Aside0.mk (Same.ofF hF); replace HB := Aside0.mk (below_step jb_ hb); clear hb; clear ho hF hn3 Y) | ((with_reducible refine gate_dst (N := 11) rfl ?_); refine box_event ?hg (N := 11) ?hd (cs := #[.int .i64 0, .int .i64 0, .int .i64 0, .string (⟨#[]⟩ : ByteArray)]) (t := 26) ?hr ?_; (case hd => rfl); (case hg => rfl); (case hr => exact jr_); intro gs hg w4 hbox hb; have Bgs := Aside0.mk hbox; have GEgs := Aside0.mk (bs hg (below_size HB.out)); have Ugs := Aside0.mk (Nat.le_of_eq hg.symm); have UgsSW := Aside0.mk SW.out.1; replace SW := Aside0.mk (SW.out.below hb); replace HB := Aside0.mk (below_step jb_ hb); clear hb; clear hbox hg; obtain ⟨hz1_0, hz1_1, hz1_2, hz1_3⟩ := cl4 Bgs.out; obtain ⟨cX, cY, cZ, da⟩ := fr4 Bgs.out) | ((with_reducible refine gate_store (t := 26) (p := 11) rfl ?_); refine store_event (t := 26) (p := 11) (v := ?vo_11) (w1 := ((((w4.setCell ⟨gs, 0, none⟩ (.int .i64 s1)).setCell ⟨gs, 1, none⟩ (.int .i64 s2)).setCell ⟨gs, 2, none⟩ (.int .i64 s3)).setCell ⟨gs, 3, none⟩ (.string s4))) ?hg ?ho ?hn ?hr ?_; (case ho => rfl); (case hg => rfl); (case hn => rfl); (case hr => exact jr_); intro w5 hw; replace SW := Aside0.mk (show Same _ _ w5 from by rw [hw]; exact four_same SW.out (fun k_ bF bG => by have bH := Ugs.out; have bI := UgsSW.out; omega)); replace Bgs : Hc w5 gs #[.int .i64 s1, .int .i64 s2, .int .i64 s3, .string s4] 26 := ⟨by rw [hw]; exact four_own Bgs.out⟩; replace HB : Hb w w5 := ⟨by rw [hw]; exact four_below HB.out GEgs.out⟩; clear hw) | ((with_reducible refine gate_callee (f := 6) rfl ?_); refine goesL_ (some 42) rfl rfl Try.func6 (by kernel_rfl) rfl #[.slice A0 l0.length c0] rfl gm_ ?_; (with_reducible refine (laws_toBitsS.calls k _ _ l0 t _ ?side1 ?side2 AT.out).mono ?_); (case side1 => exact (Kd.C_below J.out HB.out)); (case side2 => exact a9.out); rintro e w6 ⟨v6, rfl, ho, hb⟩; refine ⟨_, rfl, ?_⟩; obtain ⟨A4, n4, rfl⟩ := Kd.S_slice ho; have X := Aside0.mk (rng_S ho); have Q2 := Aside0.mk (blk_lt Bgs.out); have Q3 := Aside0.mk SW.out.1; have Q4 := Aside0.mk (below_size HB.out); replace Bgs := Aside0.mk (bb Bgs.out hb); replace SW := Aside0.mk (SW.out.below hb); replace HB := Aside0.mk (below_step jb_ hb); clear hb; have SX := Aside0.mk (Same.ofS X.out); clear ho) | ((with_reducible refine gate_callee (f := 7) rfl ?_); refine goesL_ (some 48) rfl rfl Try.func7 (by kernel_rfl) rfl #[.slice A4 t.length n4, .string a1, .int .i64 a2, .int .i64 a3] rfl gm_ ?_; (with_reducible refine (impl_Unwrap.calls k _ _ t a1 a2 a3 g0 g1 g2 g3 g4 g5 _ ?side1 ?side2 AG.out).mono ?_); (case side1 => exact (SQ_reads' (SQ_now (SQ_of X.out) SX.out)).2.2); (case side2 => exact (SQ_reads' (SQ_now (SQ_of X.out) SX.out)).2.1); rintro e w7 ⟨v7, rfl, ho, hb⟩; refine ⟨_, rfl, ?_⟩; obtain ⟨A5, n5, hv5⟩ := SQ_slice ho; subst hv5; have G := Aside0.mk (rng_SQ ho); have R2 := Aside0.mk (blk_lt Bgs.out); have R3 := Aside0.mk SW.out.1; have R4 := Aside0.mk (below_size HB.out); have R5 := Aside0.mk SX.out.1; have R6 := Aside0.mk hb.size; replace Bgs := Aside0.mk (bb Bgs.out hb); replace SW := Aside0.mk (SW.out.below hb); replace SX := Aside0.mk (SX.out.below hb); replace HB := Aside0.mk (below_step jb_ hb); clear hb; have SG := Aside0.mk (Same.ofQ G.out); clear ho) | ((with_reducible refine gate_dst (N := 15) rfl ?_); refine box_event ?hg (N := 15) ?hd (cs := #[.int .i64 0, .int .i64 0, .int .i64 0, .string (⟨#[]⟩ : ByteArray)]) (t := 26) ?hr ?_; (case hd => rfl); (case hg => rfl); (case hr => exact jr_); intro gg hg w8 hbox hb; have Bgg := Aside0.mk hbox; have GEgg := Aside0.mk (bs hg (below_size HB.out)); have Ugg := Aside0.mk (Nat.le_of_eq hg.symm); have Ngs_gg := nl hg (blk_lt Bgs.out); have Ngg_gs := Ngs_gg.symm; have UggSW := Aside0.mk SW.out.1; have UggSX := Aside0.mk SX.out.1; have UggSG := Aside0.mk SG.out.1; replace Bgs := Aside0.mk (bb Bgs.out hb); replace SW := Aside0.mk (SW.out.below hb); replace SX := Aside0.mk (SX.out.below hb); replace SG := Aside0.mk (SG.out.below hb); replace HB := Aside0.mk (below_step jb_ hb); clear hb; clear hbox hg; obtain ⟨hz2_0, hz2_1, hz2_2, hz2_3⟩ := cl4 Bgg.out; obtain ⟨db, dc, dd, de⟩ := fr4 Bgg.out) | ((with_reducible refine gate_store (t := 26) (p := 15) rfl ?_); refine store_event (t := 26) (p := 15) (v := ?vo_15) (w1 := ((((w8.setCell ⟨gg, 0, none⟩ (.int .i64 g1)).setCell ⟨gg, 1, none⟩ (.int .i64 g2)).setCell ⟨gg, 2, none⟩ (.int .i64 g3)).setCell ⟨gg, 3, none⟩ (.string g4))) ?hg ?ho ?hn ?hr ?_; (case ho => rfl); (case hg => rfl); (case hn => rfl); (case hr => exact jr_); intro w9 hw; replace Bgs : Hc w9 gs #[.int .i64 s1, .int .i64 s2, .int .i64 s3, .string s4] 26 := ⟨by rw [hw]; exact four_far Bgs.out Ngs_gg⟩; replace SW := Aside0.mk (show Same _ _ w9 from by rw [hw]; exact four_same SW.out (fun k_ bF bG => by have bH := Ugg.out; have bI := UggSW.out; omega)); replace SX := Aside0.mk (show Same _ _ w9 from by rw [hw]; exact four_same SX.out (fun k_ bF bG => by have bH := Ugg.out; have bI := UggSX.out; omega)); replace SG := Aside0.mk (show Same _ _ w9 from by rw [hw]; exact four_same SG.out (fun k_ bF bG => by have bH := Ugg.out; have bI := UggSG.out; omega)); replace Bgg : Hc w9 gg #[.int .i64 g1, .int .i64 g2, .int .i64 g3, .string g4] 26 := ⟨by rw [hw]; exact four_own Bgg.out⟩; replace HB : Hb w w9 := ⟨by rw [hw]; exact four_below HB.out GEgg.out⟩; clear hw) | ((with_reducible refine gate_callee (f := 8) rfl ?_); refine goesL_ (some 54) rfl rfl Try.func8 (by kernel_rfl) rfl #[.slice A5 g0.length n5, .slice A3 s0.length n3] rfl gm_ ?_; (with_reducible refine (laws_eqBitsS.calls k _ _ g0 _ _ s0 true _ ?side1 ?side2 ?side3 ?side4 AE.out).mono ?_); (case side1 => exact (SQ_reads' (SQ_now G.out SG.out)).2.2); (case side2 => exact (SQ_reads' (SQ_now G.out SG.out)).2.1); (case side3 => exact (F_now52 WF.out SW.out)); (case side4 => exact WN.out); rintro e dO ⟨rfl, hb⟩; refine ⟨_, rfl, ?_⟩; replace Bgs := Aside0.mk (bb Bgs.out hb); replace SW := Aside0.mk (SW.out.below hb); replace SX := Aside0.mk (SX.out.below hb); replace SG := Aside0.mk (SG.out.below hb); replace Bgg := Aside0.mk (bb Bgg.out hb); replace HB := Aside0.mk (below_step jb_ hb); clear hb; obtain ⟨hz3_0, hz3_1, hz3_2, hz3_3⟩ := cl4 Bgg.out; obtain ⟨df, dh, di, dj⟩ := fr4 Bgg.out; obtain ⟨hz4_0, hz4_1, hz4_2, hz4_3⟩ := cl4 Bgs.out; obtain ⟨dk, dl, dm, dn⟩ := fr4 Bgs.out) | ((with_reducible refine gate_callee (f := 6) rfl ?_); refine goesL_ (some 69) rfl rfl Try.func6 (by kernel_rfl) rfl #[.slice A0 l0.length c0] rfl gm_ ?_; (with_reducible refine (laws_toBitsS.calls k _ _ l0 t _ ?side1 ?side2 AT.out).mono ?_); (case side1 => exact (Kd.C_below J.out HB.out)); (case side2 => exact a9.out); rintro e dP ⟨dL, rfl, ho, hb⟩; refine ⟨_, rfl, ?_⟩; obtain ⟨A7, n7, rfl⟩ := Kd.S_slice ho; have Y := Aside0.mk ho; replace Bgs := Aside0.mk (bb Bgs.out hb); replace SW := Aside0.mk (SW.out.below hb); replace SX := Aside0.mk (SX.out.below hb); replace SG := Aside0.mk (SG.out.below hb); replace Bgg := Aside0.mk (bb Bgg.out hb); replace HB := Aside0.mk (below_step jb_ hb); clear hb; clear ho) | ((with_reducible refine gate_callee (f := 8) rfl ?_); refine goesL_ (some 70) rfl rfl Try.func8 (by kernel_rfl) rfl #[.slice A4 t.length n4, .slice A7 t.length n7] rfl gm_ ?_; (with_reducible refine (laws_eqBitsS.calls k _ _ t _ _ t true _ ?side1 ?side2 ?side3 ?side4 AF.out).mono ?_); (case side1 => exact (SQ_reads' (SQ_now (SQ_of X.out) SX.out)).2.2); (case side2 => exact (SQ_reads' (SQ_now (SQ_of X.out) SX.out)).2.1); (case side3 => exact (Kd.S_reads' Y.out).2.2); (case side4 => exact (Kd.S_reads' Y.out).2.1); rintro e cP ⟨rfl, hb⟩; refine ⟨_, rfl, ?_⟩; replace Bgs := Aside0.mk (bb Bgs.out hb); replace SW := Aside0.mk (SW.out.below hb); replace SX := Aside0.mk (SX.out.below hb); replace SG := Aside0.mk (SG.out.below hb); replace Bgg := Aside0.mk (bb Bgg.out hb); replace HB := Aside0.mk (below_step jb_ hb); clear hb; clear Y) | ((with_reducible refine gate_callee (f := 10) rfl ?_); refine goesL_ (some 74) rfl rfl Try.func10 (by kernel_rfl) rfl #[.slice A4 t.length n4, .int .i64 1] rfl gm_ ?_; (with_reducible refine (laws_markBitsS.calls k _ _ t 1 x1 x2 w _ HB.out (SQ_lower (SQ_now (SQ_of X.out) SX.out) Q4.out) AX.out).mono ?_); rintro e dQ ⟨rfl, hx_, hb, hk⟩; refine ⟨_, rfl, ?_⟩; replace Bgs := Aside0.mk (blk_kept Bgs.out hk (fun h3 => by have h4 := h3.1; have h5 := Q2.out; omega)); replace SW := Aside0.mk (SW.out.kept hk (fun k_ h1 h2 h3 => by have h4 := h3.1; have h5 := Q3.out; omega)); replace SG := Aside0.mk (SG.out.kept hk (fun k_ h1 h2 h3 => by have h4 := h3.2; have h5 := h1.1; have h6 := R5.out; omega)); replace Bgg := Aside0.mk (blk_kept Bgg.out hk (fun h3 => by have h4 := h3.2; have h5 := Ugg.out; have h6 := R5.out; have h7 := R6.out; omega)); replace HB := Aside0.mk hb; clear hb hk; clear hx_ X SX) | ((with_reducible refine gate_callee (f := 10) rfl ?_); refine goesL_ (some 96) rfl rfl Try.func10 (by kernel_rfl) rfl #[.slice A5 g0.length n5, .int .i64 1] rfl gm_ ?_; (with_reducible refine (laws_markBitsS.calls k _ _ g0 1 q m2 w _ HB.out (SQ_lower (SQ_now G.out SG.out) R4.out) AM.out).mono ?_); rintro e cQ ⟨rfl, hx_, hb, hk⟩; refine ⟨_, rfl, ?_⟩; have M := Aside0.mk hx_; replace Bgs := Aside0.mk (blk_kept Bgs.out hk (fun h3 => by have h4 := h3.1; have h5 := R2.out; omega)); replace SW := Aside0.mk (SW.out.kept hk (fun k_ h1 h2 h3 => by have h4 := h3.1; have h5 := R3.out; omega)); replace Bgg := Aside0.mk (blk_kept Bgg.out hk (fun h3 => by have h4 := h3.2; have h5 := Ugg.out; omega)); replace HB := Aside0.mk hb; clear hb hk; have SM := Aside0.mk (Same.ofQ M.out); clear hx_ G SG) | ((with_reducible refine gate_callee (f := 11) rfl ?_); refine goesL_ (some 99) rfl rfl Try.func11 (by kernel_rfl) rfl #[.slice A5 g0.length n5, .int .i64 1] rfl gm_ ?_; (with_reducible refine (laws_heldBitsS.calls2 k _ _ _ m2 1 q _ (SQ_now M.out SM.out) AQ.out).mono ?_); rintro e cR ⟨rfl, hb⟩; refine ⟨_, rfl, ?_⟩; replace Bgs := Aside0.mk (bb Bgs.out hb); replace SW := Aside0.mk (SW.out.below hb); replace Bgg := Aside0.mk (bb Bgg.out hb); replace SM := Aside0.mk (SM.out.below hb); replace HB := Aside0.mk (below_step jb_ hb); clear hb) | ((with_reducible refine gate_callee (f := 6) rfl ?_); refine goesL_ (some 107) rfl rfl Try.func6 (by kernel_rfl) rfl #[.slice A0 l0.length c0] rfl gm_ ?_; (with_reducible refine (laws_toBitsS.calls k _ _ l0 t _ ?side1 ?side2 AT.out).mono ?_); (case side1 => exact (Kd.C_below J.out HB.out)); (case side2 => exact a9.out); rintro e cS ⟨dM, rfl, ho, hb⟩; refine ⟨_, rfl, ?_⟩; obtain ⟨A8, n8, rfl⟩ := Kd.S_slice ho; have Y := Aside0.mk ho; replace Bgs := Aside0.mk (bb Bgs.out hb); replace SW := Aside0.mk (SW.out.below hb); replace Bgg := Aside0.mk (bb Bgg.out hb); replace SM := Aside0.mk (SM.out.below hb); replace HB := Aside0.mk (below_step jb_ hb); clear hb; clear ho) | ((with_reducible refine gate_callee (f := 7) rfl ?_); refine goesL_ (some 111) rfl rfl Try.func7 (by kernel_rfl) rfl #[.slice A8 t.length n8, .string a1, .int .i64 a2, .int .i64 a3] rfl gm_ ?_; (with_reducible refine (impl_Unwrap.calls k _ _ t a1 a2 a3 g0 g1 g2 g3 g4 g5 _ ?side1 ?side2 AG.out).mono ?_); (case side1 => exact (Kd.S_reads' Y.out).2.2); (case side2 => exact (Kd.S_reads' Y.out).2.1); rintro e dS ⟨dN, rfl, ho, hb⟩; refine ⟨_, rfl, ?_⟩; obtain ⟨A9, n9, hv9⟩ := SQ_slice ho; subst hv9; have HH := Aside0.mk (rng_SQ ho); replace Bgs := Aside0.mk (bb Bgs.out hb); replace SW := Aside0.mk (SW.out.below hb); replace Bgg := Aside0.mk (bb Bgg.out hb); replace SM := Aside0.mk (SM.out.below hb); replace HB := Aside0.mk (below_step jb_ hb); clear hb; have SH := Aside0.mk (Same.ofQ HH.out); clear ho Y) | ((with_reducible refine gate_dst (N := 21) rfl ?_); refine box_event ?hg (N := 21) ?hd (cs := #[.int .i64 0, .int .i64 0, .int .i64 0, .string (⟨#[]⟩ : ByteArray)]) (t := 26) ?hr ?_; (case hd => rfl); (case hg => rfl); (case hr => exact jr_); intro gh hg cT hbox hb; have Bgh := Aside0.mk hbox; have GEgh := Aside0.mk (bs hg (below_size HB.out)); have Ugh := Aside0.mk (Nat.le_of_eq hg.symm); have Ngs_gh := nl hg (blk_lt Bgs.out); have Ngh_gs := Ngs_gh.symm; have UghSW := Aside0.mk SW.out.1; have Ngg_gh := nl hg (blk_lt Bgg.out); have Ngh_gg := Ngg_gh.symm; have UghSM := Aside0.mk SM.out.1; have UghSH := Aside0.mk SH.out.1; replace Bgs := Aside0.mk (bb Bgs.out hb); replace SW := Aside0.mk (SW.out.below hb); replace Bgg := Aside0.mk (bb Bgg.out hb); replace SM := Aside0.mk (SM.out.below hb); replace SH := Aside0.mk (SH.out.below hb); replace HB := Aside0.mk (below_step jb_ hb); clear hb; clear hbox hg; obtain ⟨hz5_0, hz5_1, hz5_2, hz5_3⟩ := cl4 Bgh.out; obtain ⟨dp, dq, dr, dt⟩ := fr4 Bgh.out) | ((with_reducible refine gate_store (t := 26) (p := 21) rfl ?_); refine store_event (t := 26) (p := 21) (v := ?vo_21) (w1 := ((((cT.setCell ⟨gh, 0, none⟩ (.int .i64 g1)).setCell ⟨gh, 1, none⟩ (.int .i64 g2)).setCell ⟨gh, 2, none⟩ (.int .i64 g3)).setCell ⟨gh, 3, none⟩ (.string g4))) ?hg ?ho ?hn ?hr ?_; (case ho => rfl); (case hg => rfl); (case hn => rfl); (case hr => exact jr_); intro bp hw; replace Bgs : Hc bp gs #[.int .i64 s1, .int .i64 s2, .int .i64 s3, .string s4] 26 := ⟨by rw [hw]; exact four_far Bgs.out Ngs_gh⟩; replace SW := Aside0.mk (show Same _ _ bp from by rw [hw]; exact four_same SW.out (fun k_ bF bG => by have bH := Ugh.out; have bI := UghSW.out; omega)); replace Bgg : Hc bp gg #[.int .i64 g1, .int .i64 g2, .int .i64 g3, .string g4] 26 := ⟨by rw [hw]; exact four_far Bgg.out Ngg_gh⟩; replace SM := Aside0.mk (show Same _ _ bp from by rw [hw]; exact four_same SM.out (fun k_ bF bG => by have bH := Ugh.out; have bI := UghSM.out; omega)); replace SH := Aside0.mk (show Same _ _ bp from by rw [hw]; exact four_same SH.out (fun k_ bF bG => by have bH := Ugh.out; have bI := UghSH.out; omega)); replace Bgh : Hc bp gh #[.int .i64 g1, .int .i64 g2, .int .i64 g3, .string g4] 26 := ⟨by rw [hw]; exact four_own Bgh.out⟩; replace HB : Hb w bp := ⟨by rw [hw]; exact four_below HB.out GEgh.out⟩; clear hw) | ((with_reducible refine gate_callee (f := 8) rfl ?_); refine goesL_ (some 117) rfl rfl Try.func8 (by kernel_rfl) rfl #[.slice A9 g0.length n9, .slice A3 s0.length n3] rfl gm_ ?_; (with_reducible refine (laws_eqBitsS.calls k _ _ g0 _ _ s0 true _ ?side1 ?side2 ?side3 ?side4 AE.out).mono ?_); (case side1 => exact (SQ_reads' (SQ_now HH.out SH.out)).2.2); (case side2 => exact (SQ_reads' (SQ_now HH.out SH.out)).2.1); (case side3 => exact (F_now52 WF.out SW.out)); (case side4 => exact WN.out); rintro e dT ⟨rfl, hb⟩; refine ⟨_, rfl, ?_⟩; replace Bgs := Aside0.mk (bb Bgs.out hb); replace SW := Aside0.mk (SW.out.below hb); replace Bgg := Aside0.mk (bb Bgg.out hb); replace SM := Aside0.mk (SM.out.below hb); replace SH := Aside0.mk (SH.out.below hb); replace Bgh := Aside0.mk (bb Bgh.out hb); replace HB := Aside0.mk (below_step jb_ hb); clear hb; obtain ⟨hz6_0, hz6_1, hz6_2, hz6_3⟩ := cl4 Bgh.out; obtain ⟨du, dv, dw, dx⟩ := fr4 Bgh.out; obtain ⟨hz7_0, hz7_1, hz7_2, hz7_3⟩ := cl4 Bgs.out; obtain ⟨dy, dz, dB, dC⟩ := fr4 Bgs.out) | ((with_reducible refine gate_callee (f := 11) rfl ?_); refine goesL_ (some 132) rfl rfl Try.func11 (by kernel_rfl) rfl #[.slice A5 g0.length n5, .int .i64 1] rfl gm_ ?_; (with_reducible refine (laws_heldBitsS.calls2 k _ _ _ m2 1 q _ (SQ_now M.out SM.out) AQ.out).mono ?_); rintro e dU ⟨rfl, hb⟩; refine ⟨_, rfl, ?_⟩; replace Bgs := Aside0.mk (bb Bgs.out hb); replace SW := Aside0.mk (SW.out.below hb); replace Bgg := Aside0.mk (bb Bgg.out hb); replace SM := Aside0.mk (SM.out.below hb); replace SH := Aside0.mk (SH.out.below hb); replace Bgh := Aside0.mk (bb Bgh.out hb); replace HB := Aside0.mk (below_step jb_ hb); clear hb) | (go_at_call 8; (with_reducible refine (laws_eqBitsS.calls k _ _ g0 _ _ s0 true _ ?side1 ?side2 ?side3 ?side4 AE.out).mono ?_); (case side1 => exact (SQ_reads' (SQ_now G.out SG.out)).2.2); (case side2 => exact (SQ_reads' (SQ_now G.out SG.out)).2.1); (case side3 => exact (F_now52 WF.out SW.out)); (case side4 => exact WN.out); rintro e dR ⟨rfl, hb⟩; replace Bgs := Aside0.mk (bb Bgs.out hb); replace SW := Aside0.mk (SW.out.below hb); replace SG := Aside0.mk (SG.out.below hb); replace Bgg := Aside0.mk (bb Bgg.out hb); replace HB := Aside0.mk (below_step jb_ hb); clear hb; obtain ⟨hz8_0, hz8_1, hz8_2, hz8_3⟩ := cl4 Bgg.out; obtain ⟨dD, dE, dF, dG⟩ := fr4 Bgg.out; obtain ⟨hz9_0, hz9_1, hz9_2, hz9_3⟩ := cl4 Bgs.out; obtain ⟨dH, dI, dJ, dK⟩ := fr4 Bgs.out) | (go_at_call 9; (with_reducible refine (laws_eqSeg.calls g1 g2 g3 g4 s1 s2 s3 s4 true _ AI.out).mono ?_); rintro e dV ⟨rfl, hb⟩; have SX_ := SX; replace Bgs := Aside0.mk (bb Bgs.out hb); replace SW := Aside0.mk (SW.out.below hb); replace SX := Aside0.mk (SX.out.below hb); replace SG := Aside0.mk (SG.out.below hb); replace Bgg := Aside0.mk (bb Bgg.out hb); replace HB := Aside0.mk (below_step jb_ hb); clear hb; clear SX_) | (go_at_call 9; (with_reducible refine (laws_eqSeg.calls g1 g2 g3 g4 s1 s2 s3 s4 true _ AI.out).mono ?_); rintro e dW ⟨rfl, hb⟩; replace Bgs := Aside0.mk (bb Bgs.out hb); replace SW := Aside0.mk (SW.out.below hb); replace SG := Aside0.mk (SG.out.below hb); replace Bgg := Aside0.mk (bb Bgg.out hb); replace HB := Aside0.mk (below_step jb_ hb); clear hb) | (go_at_call 9; (with_reducible refine (laws_eqSeg.calls g1 g2 g3 g4 s1 s2 s3 s4 true _ AI.out).mono ?_); rintro e dX ⟨rfl, hb⟩; replace Bgs := Aside0.mk (bb Bgs.out hb); replace SW := Aside0.mk (SW.out.below hb); replace Bgg := Aside0.mk (bb Bgg.out hb); replace SM := Aside0.mk (SM.out.below hb); replace SH := Aside0.mk (SH.out.below hb); replace Bgh := Aside0.mk (bb Bgh.out hb); replace HB := Aside0.mk (below_step jb_ hb); clear hb))
 go_ret
 exact ⟨rfl, HB.out⟩
end Go.Proofs.Ytjaamflffmhicaa.QFnExactUnwrap
