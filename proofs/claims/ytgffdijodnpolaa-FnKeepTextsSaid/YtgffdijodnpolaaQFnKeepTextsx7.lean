/- Functions that a law reaches, as functions of Lean, and the walks that show that the calls come to their answers. No condition. -/
import Derived.Test.YtgffdijodnpolaaQFnKeepTextsx0
import Derived.Test.YtgffdijodnpolaaQFnKeepTextsx6
import Derived.Laws.Cover1
import Derived.Test.YtgffdijodnpolaaVFnKeepTextshort3
import Derived.Test.YtgffdijodnpolaaVFnKeepTextsShort2
import Derived.Test.YtgffdijodnpolaaVFnKeepTextsShort
import Derived.Test.YtgffdijodnpolaaVFnKeepTextshort8
namespace Go.Proofs.Ytgffdijodnpolaa.QFnKeepTexts
open Go.RowKit Go.Proofs.YtgffdijodnpolaaW.PrintWords Go.Proofs.YtgffdijodnpolaaW.PrintLast Go.Proofs.YtgffdijodnpolaaW.PrintMore Go.Proofs.Ytgffdijodnpolaa.Short
set_option linter.unusedVariables false
set_option linter.unusedSimpArgs false
set_option maxHeartbeats 8000000
set_option maxRecDepth 100000
variable {p : Prop}
theorem D7x0_ (h : p := by exact ⟨bc B 0, bc B 1, bc B 2, bc D 0, bc D 1, ((hbc HB bU).trans bU), ((hbc HB bV).trans bV), ((hbc HB bW).trans bW)⟩) : p := h
theorem D7x1_ (h : p := by exact ⟨bc B 0, bc B 1, bc B 2⟩) : p := h
theorem D7x2_ (h : p := by exact ⟨⟨B22x14_⟩, Cp1 D bF, Cp0 ap, Ce2 HB ar bO⟩) : p := h
theorem D7x3_ (h : p := by exact ⟨⟨B22x13_⟩, Cb D, Cb B, Ce2 HB ar br⟩) : p := h
theorem D7x4_ (h : p := by exact ⟨bc D 0, bc D 1, bc ap 0, bc ap 1, bc ap 2, ((hbc HB cZ).trans cZ), ((hbc HB da).trans da), ((hbc HB db).trans db)⟩) : p := h
section
attribute [local go_sem] max2_int min2_int max_two min_two max_three min_three max_four min_four
theorem B22x12_ (h : p := by first | rfl | (simp [errW_none, errW_some] <;> rfl) | (simp [*, errW_none, errW_some] <;> rfl)) : p := h
theorem B22x13_ (h : p := by have := aT.out; have := ca.out; first | omega | exact Nat.le_refl _) : p := h
theorem B22x14_ (h : p := by have := aT.out; first | omega | exact Nat.le_refl _) : p := h
mutual
def impl_KeepOk.l0 : Nat → List (S83) → Int → Int → List (S83) → List (S81) → Option (Bool)
 | 0, _, _, _, _, _ => none
 | k + 1, x8, x9, aa, aU, aQ => if aa < x9 then (if 0 ≤ aa then (if aa < (x8.length : Int) then ((impl_within.f ((rd_T83 x8 aa).f0) 1 1000000).bind fun fo => (if fo = true then ((impl_isIndex.f ((rd_T83 x8 aa).f1)).bind fun fp => (if fp = true then (if (((rd_T83 x8 aa).f2).size : Int) > 40 then (impl_KeepOk.j1 k aa x8 x9 aa true aU aQ ((rd_T83 x8 aa).f0) ((rd_T83 x8 aa).f1) ((rd_T83 x8 aa).f2)) else (if ((rd_T83 x8 aa).f1) = 0 then (impl_KeepOk.j1 k aa x8 x9 aa (((rd_T83 x8 aa).f2).toList != ([] : List UInt8)) aU aQ ((rd_T83 x8 aa).f0) ((rd_T83 x8 aa).f1) ((rd_T83 x8 aa).f2)) else (impl_KeepOk.j1 k aa x8 x9 aa false aU aQ ((rd_T83 x8 aa).f0) ((rd_T83 x8 aa).f1) ((rd_T83 x8 aa).f2)))) else (impl_KeepOk.j1 k aa x8 x9 aa true aU aQ ((rd_T83 x8 aa).f0) ((rd_T83 x8 aa).f1) ((rd_T83 x8 aa).f2)))) else (impl_KeepOk.j1 k aa x8 x9 aa true aU aQ ((rd_T83 x8 aa).f0) ((rd_T83 x8 aa).f1) ((rd_T83 x8 aa).f2)))) else (none)) else (none)) else (impl_KeepOk.l1 k aQ (aQ.length : Int) 0 aU aQ)
def impl_KeepOk.j1 : Nat → Int → List (S83) → Int → Int → Bool → List (S83) → List (S81) → Int → Int → ByteArray → Option (Bool)
 | 0, _, _, _, _, _, _, _, _, _, _ => none
 | k + 1, x3, x8, x9, aa, g1, aU, aQ, g2, iM, iN => if g1 = true then (some false) else (if x3 > 0 then (if 0 ≤ (wrap64 (x3 - 1)) then (if (wrap64 (x3 - 1)) < (aU.length : Int) then (if ((rd_T83 aU (wrap64 (x3 - 1))).f0) ≥ g2 then (some false) else (impl_KeepOk.l0 k x8 x9 (wrap64 (aa + 1)) aU aQ)) else (none)) else (none)) else (impl_KeepOk.l0 k x8 x9 (wrap64 (aa + 1)) aU aQ))
def impl_KeepOk.l1 : Nat → List (S81) → Int → Int → List (S83) → List (S81) → Option (Bool)
 | 0, _, _, _, _, _ => none
 | k + 1, bB, bX, aZ, aU, aQ => if aZ < bX then (if 0 ≤ aZ then (if aZ < (bB.length : Int) then ((impl_keyOk.f ((rd_T81 bB aZ).f0)).bind fun fq => (if fq = true then ((impl_valOk.f ((rd_T81 bB aZ).f1)).bind fun fr => (if fr = true then ((impl_within.f ((rd_T81 bB aZ).f2) 1 1000000000).bind fun fs => (if fs = true then (if aZ > 0 then (if 0 ≤ (wrap64 (aZ - 1)) then (if (wrap64 (aZ - 1)) < (aQ.length : Int) then (impl_KeepOk.j3 k bB bX aZ (!(Op.bytesLess (((rd_T81 aQ (wrap64 (aZ - 1))).f0).toList) (((rd_T81 bB aZ).f0).toList))) aU aQ) else (none)) else (none)) else (impl_KeepOk.j3 k bB bX aZ false aU aQ)) else (impl_KeepOk.j3 k bB bX aZ true aU aQ))) else (impl_KeepOk.j3 k bB bX aZ true aU aQ))) else (impl_KeepOk.j3 k bB bX aZ true aU aQ))) else (none)) else (none)) else (if (aU.length : Int) ≤ 3 then (some (decide ((aQ.length : Int) ≤ 8))) else (some false))
def impl_KeepOk.j3 : Nat → List (S81) → Int → Int → Bool → List (S83) → List (S81) → Option (Bool)
 | 0, _, _, _, _, _, _ => none
 | k + 1, bB, bX, aZ, g4, aU, aQ => if g4 = true then (some false) else (impl_KeepOk.l1 k bB bX (wrap64 (aZ + 1)) aU aQ)
end
def impl_KeepOk.f (k : Nat) (q : List (S83)) (l : List (S81)) : Option (Bool) := impl_KeepOk.l0 k q (q.length : Int) 0 q l
def impl_KeepOk.T6 : Bool × List (List Nat × List Nat) := (true, [([], []), ([0], [0]), ([1], [1]), ([2], [2]), ([3, 2], [2, 3]), ([2], [2]), ([5, 2], [2, 5]), ([4, 6, 2], [2, 4, 6]), ([7, 2], [2, 7]), ([8, 2], [2, 8]), ([2], [2]), ([10, 2], [2, 10]), ([9, 11, 2], [2, 9, 11]), ([2, 12], [2, 12])])
def impl_KeepOk.B6 : List Nat := [0, 1, 3, 7, 15, 7, 39, 127, 255, 511, 7, 1031, 4095, 8191]
theorem impl_KeepOk.tab6 : rtab .any (opsOf Try.f63 6) = impl_KeepOk.T6 := by kernel_rfl
theorem impl_KeepOk.bits6 : waitsOk impl_KeepOk.T6.2 impl_KeepOk.B6 = true := by kernel_rfl
def impl_KeepOk.T12 : Bool × List (List Nat × List Nat) := (true, [([], []), ([0], [0]), ([1], [1]), ([2], [2]), ([3, 2], [3]), ([4], [4]), ([5, 4], [4, 5]), ([6, 4, 4], [4, 6]), ([7, 4], [4, 7]), ([4, 8], [4, 8]), ([9, 7], [9]), ([10], [10]), ([11, 10], [10, 11]), ([12, 10, 10], [10, 12]), ([13, 10], [10, 13]), ([10, 14], [10, 14]), ([15, 13], [15]), ([16], [16]), ([17, 16], [16, 17]), ([18, 16, 16], [16, 18]), ([19], [19]), ([20, 19], [19, 20]), ([19], [19]), ([22, 19], [19, 22]), ([21, 23, 19], [19, 21, 23]), ([24, 19], [19, 24]), ([25, 19], [19, 25]), ([19], [19]), ([27, 19], [19, 27]), ([26, 28, 19], [19, 26, 28]), ([19, 29, 16], [16, 19, 29]), ([16, 30], [16, 30])])
def impl_KeepOk.B12 : List Nat := [0, 1, 3, 7, 15, 31, 63, 127, 255, 511, 1023, 2047, 4095, 8191, 16383, 32767, 65535, 131071, 262143, 524287, 1048575, 2097151, 1048575, 5242879, 16777215, 33554431, 67108863, 1048575, 135266303, 536870911, 1073741823, 2147483647]
theorem impl_KeepOk.tab12 : rtab .any (opsOf Try.f63 12) = impl_KeepOk.T12 := by kernel_rfl
theorem impl_KeepOk.bits12 : waitsOk impl_KeepOk.T12.2 impl_KeepOk.B12 = true := by kernel_rfl
theorem impl_KeepOk.calls (k : Nat) (aR : Option Addr) (ax : Nat) (q : List (S83)) (a1 : Option Addr) (ay : Nat) (l : List (S81)) (r : Bool) (w : World) (cX : Kd.C k83 w aR q.length q) (cP : q.length ≤ ax) (cY : Kd.C k81 w a1 l.length l) (cQ : l.length ≤ ay) (h : impl_KeepOk.f k q l = some r) :
  Calls Try.prog 63 #[.agg #[.slice aR q.length ax, .slice a1 l.length ay]] w fun e w' => e = .returned (.bool r) ∧ Below w.heap.size w w' := by
 have gH := Try.underlying47
 have gJ := Try.underlying83
 have gI := Try.underlying81
 have bZ := am cX
 have d4 := am cP
 clear cX cP
 have cc := am cY
 have d5 := am cQ
 clear cY cQ
 have HB := am (Below.refl w.heap.size w)
 have al := h
 clear h
 unfold impl_KeepOk.f at al
 replace al := am al
 go_enter Try.func63, Try.ntmps63
 go_wp2_with (first | ((with_reducible refine gate_dst (N := 1) rfl ?_); (try (refine gate_guard (by rfl) ?_; dsimp only)); refine bx (N := 1) (cs := #[.slice aR q.length ax, .slice a1 l.length ay]) (t := 47) ?_; intro bh hg w2 hbox hb; have D := am hbox; have ar := gA hg HB; replace HB := hA HB hb; clear hb hbox hg; obtain ⟨eL, eM, eN, eO⟩ := cf2 D))
 go_loopg [10] k (fun kq dq w' => ∃ (M : Int), dq = .int .i64 M ∧ Aside0 (impl_KeepOk.l0 kq q (q.length : Int) M q l = some r) ∧ Aside0 (kq ≤ k) ∧ Aside0 (w'.heap[bh]? = some (.cells #[(.slice aR q.length ax), (.slice a1 l.length ay)] 47 (0, 0))) ∧ Aside0 (Below w.heap.size w w'))
 case atStart => exact ⟨(0), be_, al, ⟨Nat.le_refl _⟩, Cb D, Ce1 HB ar⟩
 case round =>
  clear al; obtain ⟨M, rfl, ah, aT, D, HB⟩ := hrel
  cases gk with
  | zero => exact absurd ah.out (by simp [impl_KeepOk.l0])
  | succ k1 => ?_
  replace ah := ah.out; simp only [impl_KeepOk.l0] at ah
  obtain ⟨cj, ac⟩ | ⟨cj, ac⟩ := sd ah
  ·obtain ⟨gm, aC⟩ := yd ac; obtain ⟨cC, ao⟩ := yd aC; replace ao := am ao; clear ah ac aC
   have dT : 0 ≤ (M : Int) := dga
   have dU : M < (q.length : Int) := dga
   obtain ⟨be, gw, dQ, dR, dS⟩ := at_T83 bZ.out M dT dU; cases gw; replace dQ := (hbc HB dQ).trans dQ; replace dR := (hbc HB dR).trans dR; replace dS := (hbc HB dS).trans dS; replace dT := eq_true dT; replace dU := eq_true dU
   go_upto_region 4 with (first | ((with_reducible refine gate_dst (N := 4) rfl ?_); (try (refine gate_guard (by rfl) ?_; dsimp only)); refine bx (N := 4) (cs := #[.int .i64 0, .int .i64 0, .string (⟨#[]⟩ : ByteArray)]) (t := 83) ?_; intro b2 hg w8 hbox hb; have ap := am hbox; have bO := gA hg HB; replace HB := De1 HB ar hb; have bF := nA hg D; have ch := mA hg D; replace D := bA D hb; clear hb hbox hg; have ik := ch.out; have iw := bF.out; obtain ⟨dw, dx, dy, dC, dD, dE⟩ := cf3 ap))
   (try simp only [Act.put, List.setIfInBounds_toArray, List.set_cons_zero, List.set_cons_succ])
   go_cut [40] (fun gU wc => ∃ (kq : Nat) (eH : Bool), gU = .bool eH ∧ Aside0 (impl_KeepOk.j1 kq M q (q.length : Int) M eH q l ((rd_T83 q M).f0) ((rd_T83 q M).f1) ((rd_T83 q M).f2) = some r) ∧ Aside0 (kq ≤ k1) ∧ Hc wc bh #[(.slice (some be) q.length ax), (.slice a1 l.length ay)] 47 ∧ Hc wc b2 #[.int .i64 ((rd_T83 q M).f0), .int .i64 ((rd_T83 q M).f1), .string ((rd_T83 q M).f2)] 83 ∧ Hb w wc)
   case first =>
    replace ao := ao.out; obtain ⟨fo, co, aj⟩ := bsi ao; (try dsimp only at aj)
    obtain ⟨rfl, au⟩ | ⟨rfl, au⟩ := sb aj
    ·obtain ⟨fp, dH, bo⟩ := bsi au; (try dsimp only at bo)
     obtain ⟨rfl, a9⟩ | ⟨rfl, a9⟩ := sb bo
     ·obtain ⟨cu, bC⟩ | ⟨cu, bC⟩ := sp a9
      ·have ci : decide (40 < (((rd_T83 q M).f2).size : Int)) = true := decide_eq_true cu
       have fV : decide (40 < ((rd_T83 q M).f2).size) = true := decide_eq_true (by omega)
       clear cu
       (first | rw [ci] | (simp only [i64_w, i32_w]; rw [ci]) | skip)
       replace bC := am bC; clear ao aj au bo a9; obtain ⟨ia, il⟩ := o2_ ch bF; obtain ⟨dw, dx, dy, dC, dD, dE⟩ := cf3 ap
       go_wp2_with (first | ((with_reducible refine gate_callee (f := 45) rfl ?_); refine gM (some 17) Try.func45 (impl_within.calls ((rd_T83 q M).f0) 1 1000000 true _ co.out) ?_; rintro w' ⟨nd, rfl⟩) | (go_at_call 54; refine (impl_isIndex.calls ((rd_T83 q M).f1) true _ dH.out).mono ?_; rintro e w' ⟨rfl, ⟨nd, rfl⟩⟩))
       go_meet
       case rel => exact ⟨_, true, be_, bC, D7x2_⟩
      have ci : decide (40 < (((rd_T83 q M).f2).size : Int)) = false := decide_eq_false cu
      have fV : decide (40 < ((rd_T83 q M).f2).size) = false := decide_eq_false (by omega)
      clear cu
      (first | rw [ci] | (simp only [i64_w, i32_w]; rw [ci]) | skip)
      obtain ⟨dL, bM⟩ | ⟨dL, bM⟩ := sp bC
      ·obtain ⟨fW, fX⟩ := yE dL; clear dL; replace bM := am bM; clear ao aj au bo a9 bC; obtain ⟨ib, im⟩ := o2_ ch bF; obtain ⟨dw, dx, dy, dC, dD, dE⟩ := cf3 ap
       go_wp2_with (first | ((with_reducible refine gate_callee (f := 45) rfl ?_); refine gM (some 17) Try.func45 (impl_within.calls ((rd_T83 q M).f0) 1 1000000 true _ co.out) ?_; rintro w' ⟨nd, rfl⟩) | (go_at_call 54; refine (impl_isIndex.calls ((rd_T83 q M).f1) true _ dH.out).mono ?_; rintro e w' ⟨rfl, ⟨nd, rfl⟩⟩))
       go_meet
       case rel => exact ⟨_, ((((rd_T83 q M).f2).toList != ([] : List UInt8))), be_, bM, D7x2_⟩
      obtain ⟨fW, fX⟩ := nE dL; replace bM := am bM; clear ao aj au bo a9 bC; obtain ⟨ic, io⟩ := o2_ ch bF; obtain ⟨dw, dx, dy, dC, dD, dE⟩ := cf3 ap
      go_wp2_with (first | ((with_reducible refine gate_callee (f := 45) rfl ?_); refine gM (some 17) Try.func45 (impl_within.calls ((rd_T83 q M).f0) 1 1000000 true _ co.out) ?_; rintro w' ⟨nd, rfl⟩) | (go_at_call 54; refine (impl_isIndex.calls ((rd_T83 q M).f1) true _ dH.out).mono ?_; rintro e w' ⟨rfl, ⟨nd, rfl⟩⟩))
      go_meet
      case rel => exact ⟨_, false, be_, bM, D7x2_⟩
     replace a9 := am a9; clear ao aj au bo; obtain ⟨ig, iq⟩ := o2_ ch bF; obtain ⟨dw, dx, dy, dC, dD, dE⟩ := cf3 ap
     go_wp2_with (first | ((with_reducible refine gate_callee (f := 45) rfl ?_); refine gM (some 17) Try.func45 (impl_within.calls ((rd_T83 q M).f0) 1 1000000 true _ co.out) ?_; rintro w' ⟨nd, rfl⟩) | (go_at_call 54; refine (impl_isIndex.calls ((rd_T83 q M).f1) false _ dH.out).mono ?_; rintro e w' ⟨rfl, ⟨nd, rfl⟩⟩))
     go_meet
     case rel => exact ⟨_, true, be_, a9, D7x2_⟩
    replace au := am au; clear ao aj; obtain ⟨ih, ir⟩ := o2_ ch bF; obtain ⟨dw, dx, dy, dC, dD, dE⟩ := cf3 ap
    go_wp2_with (first | ((with_reducible refine gate_callee (f := 45) rfl ?_); refine gM (some 17) Try.func45 (impl_within.calls ((rd_T83 q M).f0) 1 1000000 false _ co.out) ?_; rintro w' ⟨nd, rfl⟩))
    go_meet
    case rel => exact ⟨_, true, be_, au, D7x2_⟩
   clear ao
   try clear c4
   try clear cj
   try clear c5
   try clear gm
   try clear c6
   try clear cC
   try clear dQ
   try clear dR
   try clear dS
   try clear dT
   try clear dU
   obtain ⟨kq, eH, rfl, bn, dJ, D, ap, HB⟩ := hcut
   cases kq with
   | zero => exact absurd bn.out (by simp [impl_KeepOk.j1])
   | succ fn => ?_
   replace bn := bn.out; simp only [impl_KeepOk.j1] at bn
   obtain ⟨rfl, bD⟩ | ⟨rfl, bD⟩ := sb bn
   ·obtain rfl := Option.some.inj bD; clear bD bn
    go_wp2
    go_ret; exact ⟨B22x12_, (Ae2 HB ar bO)⟩
   obtain ⟨cv, bi⟩ | ⟨cv, bi⟩ := sp bD
   ·have f2 : decide (0 < M) = true := decide_eq_true cv
    clear cv; obtain ⟨aE, dP⟩ : ∃ j_ : Int, (wrap64 (M - 1)) = j_ := ⟨_, rfl⟩
    (first | rw [dP] at bi | simp only [dP] at bi)
    have h8 : (IntKind.i64.wrap (M - 1)) = aE := (i64_w _).trans dP
    obtain ⟨ht, bw⟩ := yd bi; obtain ⟨hu, bN⟩ := yd bw
    obtain ⟨cx, bP⟩ | ⟨cx, bP⟩ := sp bN
    ·have f4 : decide (((rd_T83 q M).f0) ≤ ((rd_T83 q (aE)).f0)) = true := decide_eq_true cx
     clear cx; obtain rfl := Option.some.inj bP; clear bP bn bD bi bw bN
     try go_wp2
     replace D := dA D; replace ap := dA ap; replace HB := bdr HB
     have b5 : 0 ≤ ((aE) : Int) := dga
     have b6 : (aE) < (q.length : Int) := dga
     obtain ⟨d9, ee, bI, bJ, bK⟩ := at_T83 bZ.out (aE) b5 b6; have db := bK; have da := bJ; have cZ := bI; obtain rfl : be = d9 := (by injection ee); replace bI := (hbc HB bI).trans bI; replace bJ := (hbc HB bJ).trans bJ; replace bK := (hbc HB bK).trans bK; replace b5 := eq_true b5; replace b6 := eq_true b6; refine st_ 14 (fun w' => w'.cell? ⟨bh, 0, none⟩ = some (.slice (some be) q.length ax) ∧ w'.cell? ⟨bh, 1, none⟩ = some (.slice a1 l.length ay) ∧ w'.cell? ⟨b2, 0, none⟩ = some (.int .i64 ((rd_T83 q M).f0)) ∧ w'.cell? ⟨b2, 1, none⟩ = some (.int .i64 ((rd_T83 q M).f1)) ∧ w'.cell? ⟨b2, 2, none⟩ = some (.string ((rd_T83 q M).f2)) ∧ w'.cell? (be.add (((aE)).toNat * 3)) = some (.int .i64 ((rd_T83 q (aE)).f0)) ∧ w'.cell? ⟨(be.add (((aE)).toNat * 3)).block, (be.add (((aE)).toNat * 3)).off + 1, none⟩ = some (.int .i64 ((rd_T83 q (aE)).f1)) ∧ w'.cell? ⟨(be.add (((aE)).toNat * 3)).block, (be.add (((aE)).toNat * 3)).off + 2, none⟩ = some (.string ((rd_T83 q (aE)).f2))) [] impl_KeepOk.tab6 impl_KeepOk.bits6 D7x4_ (fun U j ak => ?_); generalize wc.drew = iF at D ap HB bI bJ bK U ⊢; refine pu_ 0 41 j ?_; refine pu_ 1 42 j ?_; refine pu_ 2 43 j ?_; refine pu_ 3 44 j ?_; refine pu_ 5 46 j ?_; refine pu_ 6 47 j ?_; refine pu_ 10 51 j ?_; refine ta_ 4 45 j ak U ?_; refine pu_ 7 48 j ?_; refine pu_ 8 49 j ?_; refine ta_ 9 50 j ak U ?_; refine ta_ 11 52 j ak U ?_; refine pu_ 12 53 j ?_; refine pu_ 13 54 j ?_; refine done_ (done_of j.out gk_) ?_
     try go_wp2
     go_ret
     exact ⟨(by first | rfl | (simp [errW_none, errW_some] <;> rfl) | (simp only [← dP]; first | rfl | (simp [errW_none, errW_some] <;> rfl)) | (simp [*, errW_none, errW_some] <;> rfl)), (Ae2 HB ar bO)⟩
    have f4 : decide (((rd_T83 q M).f0) ≤ ((rd_T83 q (aE)).f0)) = false := decide_eq_false cx
    clear cx; replace bP := am bP; clear bn bD bi bw bN
    try go_wp2
    replace D := dA D; replace ap := dA ap; replace HB := bdr HB
    have b5 : 0 ≤ ((aE) : Int) := dga
    have b6 : (aE) < (q.length : Int) := dga
    obtain ⟨d9, ee, bI, bJ, bK⟩ := at_T83 bZ.out (aE) b5 b6; have db := bK; have da := bJ; have cZ := bI; obtain rfl : be = d9 := (by injection ee); replace bI := (hbc HB bI).trans bI; replace bJ := (hbc HB bJ).trans bJ; replace bK := (hbc HB bK).trans bK; replace b5 := eq_true b5; replace b6 := eq_true b6; refine st_ 14 (fun w' => w'.cell? ⟨bh, 0, none⟩ = some (.slice (some be) q.length ax) ∧ w'.cell? ⟨bh, 1, none⟩ = some (.slice a1 l.length ay) ∧ w'.cell? ⟨b2, 0, none⟩ = some (.int .i64 ((rd_T83 q M).f0)) ∧ w'.cell? ⟨b2, 1, none⟩ = some (.int .i64 ((rd_T83 q M).f1)) ∧ w'.cell? ⟨b2, 2, none⟩ = some (.string ((rd_T83 q M).f2)) ∧ w'.cell? (be.add (((aE)).toNat * 3)) = some (.int .i64 ((rd_T83 q (aE)).f0)) ∧ w'.cell? ⟨(be.add (((aE)).toNat * 3)).block, (be.add (((aE)).toNat * 3)).off + 1, none⟩ = some (.int .i64 ((rd_T83 q (aE)).f1)) ∧ w'.cell? ⟨(be.add (((aE)).toNat * 3)).block, (be.add (((aE)).toNat * 3)).off + 2, none⟩ = some (.string ((rd_T83 q (aE)).f2))) [] impl_KeepOk.tab6 impl_KeepOk.bits6 D7x4_ (fun U j ak => ?_); generalize wc.drew = fw at D ap HB bI bJ bK U ⊢; refine pu_ 0 41 j ?_; refine pu_ 1 42 j ?_; refine pu_ 2 43 j ?_; refine pu_ 3 44 j ?_; refine pu_ 5 46 j ?_; refine pu_ 6 47 j ?_; refine pu_ 10 51 j ?_; refine ta_ 4 45 j ak U ?_; refine pu_ 7 48 j ?_; refine pu_ 8 49 j ?_; refine ta_ 9 50 j ak U ?_; refine ta_ 11 52 j ak U ?_; refine pu_ 12 53 j ?_; refine pu_ 13 54 j ?_; refine done_ (done_of j.out gk_) ?_
    try go_wp2
    go_roundg fn
    case measure => have := aT.out; have := dJ.out; omega
    case rel => exact ⟨(wrap64 (M + 1)), be_, bP, ⟨(by have := aT.out; have := dJ.out; omega)⟩, Cb D, Ce2 HB ar bO⟩
   have f2 : decide (0 < M) = false := decide_eq_false cv
   clear cv; replace bi := am bi; clear bn bD
   try go_wp2
   replace D := dA D; replace ap := dA ap; replace HB := bdr HB; refine st_ 14 (fun w' => True) [] impl_KeepOk.tab6 impl_KeepOk.bits6 trivial (fun U j ak => ?_); generalize wc.drew = iG at D ap HB U ⊢; refine pu_ 0 41 j ?_; refine pu_ 1 42 j ?_; refine pu_ 2 43 j ?_; refine of_ 3 44 j ?_; refine of_ 4 45 j ?_; refine of_ 5 46 j ?_; refine of_ 6 47 j ?_; refine of_ 7 48 j ?_; refine of_ 8 49 j ?_; refine of_ 9 50 j ?_; refine of_ 10 51 j ?_; refine of_ 11 52 j ?_; refine of_ 12 53 j ?_; refine pu_ 13 54 j ?_; refine done_ (done_of j.out gk_) ?_
   try go_wp2
   go_roundg fn
   case measure => have := aT.out; have := dJ.out; omega
   case rel => exact ⟨(wrap64 (M + 1)), be_, bi, ⟨(by have := aT.out; have := dJ.out; omega)⟩, Cb D, Ce2 HB ar bO⟩
  replace ac := am ac; clear ah; obtain ⟨eL, eM, eN, eO⟩ := cf2 D
  go_wp2
  go_loopg [59] k1 (fun kq gW w' => ∃ (J : Int), gW = .int .i64 J ∧ Aside0 (impl_KeepOk.l1 kq l (l.length : Int) J q l = some r) ∧ Aside0 (kq ≤ k1) ∧ Aside0 (w'.heap[bh]? = some (.cells #[(.slice aR q.length ax), (.slice a1 l.length ay)] 47 (0, 0))) ∧ Aside0 (Below w.heap.size w w'))
  case atStart => exact ⟨(0), be_, ac, ⟨Nat.le_refl _⟩, Cb D, Ce1 HB ar⟩
  case round =>
   clear ac
   try clear c4
   try clear cj
   obtain ⟨J, rfl, ba, ca, D, HB⟩ := hrel
   cases gk with
   | zero => exact absurd ba.out (by simp [impl_KeepOk.l1])
   | succ k2 => ?_
   replace ba := ba.out; simp only [impl_KeepOk.l1] at ba
   obtain ⟨f8, bj⟩ | ⟨f8, bj⟩ := sd ba
   ·obtain ⟨hv, cd⟩ := yd bj; obtain ⟨hx, bk⟩ := yd cd; replace bk := am bk; clear ba bj cd
    have eq : 0 ≤ (J : Int) := dga
    have ex : J < (l.length : Int) := dga
    obtain ⟨bp, gx, ef, eg, eh⟩ := at_T81 cc.out J eq ex; cases gx; replace ef := (hbc HB ef).trans ef; replace eg := (hbc HB eg).trans eg; replace eh := (hbc HB eh).trans eh; replace eq := eq_true eq; replace ex := eq_true ex
    go_upto_region 12 with (first | ((with_reducible refine gate_dst (N := 6) rfl ?_); (try (refine gate_guard (by rfl) ?_; dsimp only)); refine bx (N := 6) (cs := #[.string (⟨#[]⟩ : ByteArray), .string (⟨#[]⟩ : ByteArray), .int .i64 0]) (t := 81) ?_; intro ai hg cl hbox hb; have B := am hbox; have br := gA hg HB; replace HB := De1 HB ar hb; have cg := nA hg D; have fP := mA hg D; replace D := bA D hb; clear hb hbox hg; have ii := fP.out; have iu := cg.out; obtain ⟨iP, iQ, iR, iY, iZ, i0⟩ := cf3 B))
    (try simp only [Act.put, List.setIfInBounds_toArray, List.set_cons_zero, List.set_cons_succ])
    go_cut [95] (fun gX wc => ∃ (kq : Nat) (eI : Bool), gX = .bool eI ∧ Aside0 (impl_KeepOk.j3 kq l (l.length : Int) J eI q l = some r) ∧ Aside0 (kq ≤ k2) ∧ Hc wc bh #[(.slice aR q.length ax), (.slice (some bp) l.length ay)] 47 ∧ Hc wc ai #[.string ((rd_T81 l J).f0), .string ((rd_T81 l J).f1), .int .i64 ((rd_T81 l J).f2)] 81 ∧ Hb w wc)
    case first =>
     replace bk := bk.out; obtain ⟨fq, b9, bE⟩ := bsi bk; (try dsimp only at bE)
     obtain ⟨rfl, bd⟩ | ⟨rfl, bd⟩ := sb bE
     ·obtain ⟨fr, bY, ce⟩ := bsi bd; (try dsimp only at ce)
      obtain ⟨rfl, bS⟩ | ⟨rfl, bS⟩ := sb ce
      ·obtain ⟨fs, dI, cr⟩ := bsi bS; (try dsimp only at cr)
       obtain ⟨rfl, b0⟩ | ⟨rfl, b0⟩ := sb cr
       ·obtain ⟨cy, bT⟩ | ⟨cy, bT⟩ := sp b0
        ·have cz : decide (0 < J) = true := decide_eq_true cy
         clear cy
         (first | rw [cz] | (simp only [i64_w, i32_w]; rw [cz]) | skip)
         obtain ⟨bq, b4⟩ : ∃ j_ : Int, (wrap64 (J - 1)) = j_ := ⟨_, rfl⟩
         (first | rw [b4] at bT | simp only [b4] at bT)
         (try rw [b4] at b9); (try rw [b4] at bY); (try rw [b4] at dI)
         have h9 : (IntKind.i64.wrap (J - 1)) = bq := (i64_w _).trans b4
         obtain ⟨hI, eU⟩ := yd bT; obtain ⟨hJ, d7⟩ := yd eU; replace d7 := am d7; clear bk bE bd ce bS cr b0 bT eU
         try go_wp2
         generalize hw : (((cl.setCell ⟨ai, 0, none⟩ (.string ((rd_T81 l J).f0))).setCell ⟨ai, 1, none⟩ (.string ((rd_T81 l J).f1))).setCell ⟨ai, 2, none⟩ (.int .i64 ((rd_T81 l J).f2))) = dr; replace hw := hw.symm
         replace D : Hc dr bh #[.slice aR q.length ax, .slice (some bp) l.length ay] 47 := ⟨wAp1 D cg⟩
         replace B : Hc dr ai #[.string ((rd_T81 l J).f0), .string ((rd_T81 l J).f1), .int .i64 ((rd_T81 l J).f2)] 81 := ⟨wAp0 B⟩
         replace HB : Hb w dr := ⟨wAe2 HB ar br⟩
         clear hw; replace D := dA D; replace B := dA B; replace HB := bdr HB
         have er : 0 ≤ ((bq) : Int) := dga
         have ey : (bq) < (l.length : Int) := dga
         obtain ⟨fU, gy, dc, dd, de⟩ := at_T81 cc.out (bq) er ey; have bW := de; have bV := dd; have bU := dc; obtain rfl : bp = fU := (by injection gy); replace dc := (hbc HB dc).trans dc; replace dd := (hbc HB dd).trans dd; replace de := (hbc HB de).trans de; replace er := eq_true er; replace ey := eq_true ey; refine st_ 32 (fun w' => w'.cell? ⟨ai, 0, none⟩ = some (.string ((rd_T81 l J).f0)) ∧ w'.cell? ⟨ai, 1, none⟩ = some (.string ((rd_T81 l J).f1)) ∧ w'.cell? ⟨ai, 2, none⟩ = some (.int .i64 ((rd_T81 l J).f2)) ∧ w'.cell? ⟨bh, 0, none⟩ = some (.slice aR q.length ax) ∧ w'.cell? ⟨bh, 1, none⟩ = some (.slice (some bp) l.length ay) ∧ w'.cell? (bp.add (((bq)).toNat * 3)) = some (.string ((rd_T81 l (bq)).f0)) ∧ w'.cell? ⟨(bp.add (((bq)).toNat * 3)).block, (bp.add (((bq)).toNat * 3)).off + 1, none⟩ = some (.string ((rd_T81 l (bq)).f1)) ∧ w'.cell? ⟨(bp.add (((bq)).toNat * 3)).block, (bp.add (((bq)).toNat * 3)).off + 2, none⟩ = some (.int .i64 ((rd_T81 l (bq)).f2))) [] impl_KeepOk.tab12 impl_KeepOk.bits12 D7x0_ (fun U j ak => ?_); generalize dr.drew = dY at D B HB dc dd de U ⊢; refine pu_ 0 64 j ?_; refine ta_ 1 65 j ak U ?_; refine on_ 2 (some 66) j (fun K hK => ?_); refine gT Try.func90 (impl_keyOk.calls ((rd_T81 l J).f0) true _ b9.out) ?_; rintro w' ⟨nd, rfl⟩; refine hK.out _ _ D7x0_ (fun U => nm_ ?_); clear hK K; refine pu_ 3 67 j ?_; refine pu_ 4 68 j ?_; refine pu_ 5 69 j ?_; refine ta_ 6 70 j ak U ?_; refine on_ 7 (some 71) j (fun K hK => ?_); refine gT Try.func91 (impl_valOk.calls ((rd_T81 l J).f1) true _ bY.out) ?_; rintro w' ⟨nd, rfl⟩; refine hK.out _ _ D7x0_ (fun U => nm_ ?_); clear hK K; refine pu_ 8 72 j ?_; refine pu_ 9 73 j ?_; refine pu_ 10 74 j ?_; refine pu_ 11 75 j ?_; refine ta_ 12 76 j ak U ?_; refine on_ 13 (some 77) j (fun K hK => ?_); refine gT Try.func45 (impl_within.calls ((rd_T81 l J).f2) 1 1000000000 true _ dI.out) ?_; rintro w' ⟨nd, rfl⟩; refine hK.out _ _ D7x0_ (fun U => nm_ ?_); clear hK K; refine pu_ 14 78 j ?_; refine pu_ 15 79 j ?_; refine pu_ 16 80 j ?_; refine pu_ 17 81 j ?_; refine pu_ 18 82 j ?_; refine pu_ 19 83 j ?_; refine pu_ 20 84 j ?_; refine pu_ 22 86 j ?_; refine pu_ 23 87 j ?_; refine pu_ 27 91 j ?_; refine ta_ 21 85 j ak U ?_; refine pu_ 24 88 j ?_; refine pu_ 25 89 j ?_; refine ta_ 26 90 j ak U ?_; refine ta_ 28 92 j ak U ?_; refine pu_ 29 93 j ?_; refine pu_ 30 94 j ?_; refine pu_ 31 95 j ?_; refine done_ (done_of j.out gk_) ?_
         try go_wp2
         go_meet
         case rel => exact ⟨_, (!(Op.bytesLess (((rd_T81 l (bq)).f0).toList) (((rd_T81 l J).f0).toList))), (by first | rfl | (simp; done) | (simp only [← b4] <;> (first | rfl | simp)) | (simp [*]; done)), d7, D7x3_⟩
        have cz : decide (0 < J) = false := decide_eq_false cy
        clear cy
        (first | rw [cz] | (simp only [i64_w, i32_w]; rw [cz]) | skip)
        replace bT := am bT; clear bk bE bd ce bS cr b0
        try go_wp2
        generalize hw : (((cl.setCell ⟨ai, 0, none⟩ (.string ((rd_T81 l J).f0))).setCell ⟨ai, 1, none⟩ (.string ((rd_T81 l J).f1))).setCell ⟨ai, 2, none⟩ (.int .i64 ((rd_T81 l J).f2))) = dZ; replace hw := hw.symm
        replace D : Hc dZ bh #[.slice aR q.length ax, .slice (some bp) l.length ay] 47 := ⟨wAp1 D cg⟩
        replace B : Hc dZ ai #[.string ((rd_T81 l J).f0), .string ((rd_T81 l J).f1), .int .i64 ((rd_T81 l J).f2)] 81 := ⟨wAp0 B⟩
        replace HB : Hb w dZ := ⟨wAe2 HB ar br⟩
        clear hw; replace D := dA D; replace B := dA B; replace HB := bdr HB; refine st_ 32 (fun w' => w'.cell? ⟨ai, 0, none⟩ = some (.string ((rd_T81 l J).f0)) ∧ w'.cell? ⟨ai, 1, none⟩ = some (.string ((rd_T81 l J).f1)) ∧ w'.cell? ⟨ai, 2, none⟩ = some (.int .i64 ((rd_T81 l J).f2))) [] impl_KeepOk.tab12 impl_KeepOk.bits12 D7x1_ (fun U j ak => ?_); generalize dZ.drew = iI at D B HB U ⊢; refine pu_ 0 64 j ?_; refine ta_ 1 65 j ak U ?_; refine on_ 2 (some 66) j (fun K hK => ?_); refine gT Try.func90 (impl_keyOk.calls ((rd_T81 l J).f0) true _ b9.out) ?_; rintro w' ⟨nd, rfl⟩; refine hK.out _ _ D7x1_ (fun U => nm_ ?_); clear hK K; refine pu_ 3 67 j ?_; refine pu_ 4 68 j ?_; refine pu_ 5 69 j ?_; refine ta_ 6 70 j ak U ?_; refine on_ 7 (some 71) j (fun K hK => ?_); refine gT Try.func91 (impl_valOk.calls ((rd_T81 l J).f1) true _ bY.out) ?_; rintro w' ⟨nd, rfl⟩; refine hK.out _ _ D7x1_ (fun U => nm_ ?_); clear hK K; refine pu_ 8 72 j ?_; refine pu_ 9 73 j ?_; refine pu_ 10 74 j ?_; refine pu_ 11 75 j ?_; refine ta_ 12 76 j ak U ?_; refine on_ 13 (some 77) j (fun K hK => ?_); refine gT Try.func45 (impl_within.calls ((rd_T81 l J).f2) 1 1000000000 true _ dI.out) ?_; rintro w' ⟨nd, rfl⟩; refine hK.out _ _ D7x1_ (fun U => nm_ ?_); clear hK K; refine pu_ 14 78 j ?_; refine pu_ 15 79 j ?_; refine pu_ 16 80 j ?_; refine pu_ 17 81 j ?_; refine pu_ 18 82 j ?_; refine pu_ 19 83 j ?_; refine of_ 20 84 j ?_; refine of_ 21 85 j ?_; refine of_ 22 86 j ?_; refine of_ 23 87 j ?_; refine of_ 24 88 j ?_; refine of_ 25 89 j ?_; refine of_ 26 90 j ?_; refine of_ 27 91 j ?_; refine of_ 28 92 j ?_; refine of_ 29 93 j ?_; refine pu_ 30 94 j ?_; refine pu_ 31 95 j ?_; refine done_ (done_of j.out gk_) ?_
        try go_wp2
        go_meet
        case rel => exact ⟨_, false, be_, bT, D7x3_⟩
       replace b0 := am b0; clear bk bE bd ce bS cr
       try go_wp2
       generalize hw : (((cl.setCell ⟨ai, 0, none⟩ (.string ((rd_T81 l J).f0))).setCell ⟨ai, 1, none⟩ (.string ((rd_T81 l J).f1))).setCell ⟨ai, 2, none⟩ (.int .i64 ((rd_T81 l J).f2))) = d0; replace hw := hw.symm
       replace D : Hc d0 bh #[.slice aR q.length ax, .slice (some bp) l.length ay] 47 := ⟨wAp1 D cg⟩
       replace B : Hc d0 ai #[.string ((rd_T81 l J).f0), .string ((rd_T81 l J).f1), .int .i64 ((rd_T81 l J).f2)] 81 := ⟨wAp0 B⟩
       replace HB : Hb w d0 := ⟨wAe2 HB ar br⟩
       clear hw; replace D := dA D; replace B := dA B; replace HB := bdr HB; refine st_ 32 (fun w' => w'.cell? ⟨ai, 0, none⟩ = some (.string ((rd_T81 l J).f0)) ∧ w'.cell? ⟨ai, 1, none⟩ = some (.string ((rd_T81 l J).f1)) ∧ w'.cell? ⟨ai, 2, none⟩ = some (.int .i64 ((rd_T81 l J).f2))) [] impl_KeepOk.tab12 impl_KeepOk.bits12 D7x1_ (fun U j ak => ?_); generalize d0.drew = fx at D B HB U ⊢; refine pu_ 0 64 j ?_; refine ta_ 1 65 j ak U ?_; refine on_ 2 (some 66) j (fun K hK => ?_); refine gT Try.func90 (impl_keyOk.calls ((rd_T81 l J).f0) true _ b9.out) ?_; rintro w' ⟨nd, rfl⟩; refine hK.out _ _ D7x1_ (fun U => nm_ ?_); clear hK K; refine pu_ 3 67 j ?_; refine pu_ 4 68 j ?_; refine pu_ 5 69 j ?_; refine ta_ 6 70 j ak U ?_; refine on_ 7 (some 71) j (fun K hK => ?_); refine gT Try.func91 (impl_valOk.calls ((rd_T81 l J).f1) true _ bY.out) ?_; rintro w' ⟨nd, rfl⟩; refine hK.out _ _ D7x1_ (fun U => nm_ ?_); clear hK K; refine pu_ 8 72 j ?_; refine pu_ 9 73 j ?_; refine pu_ 10 74 j ?_; refine pu_ 11 75 j ?_; refine ta_ 12 76 j ak U ?_; refine on_ 13 (some 77) j (fun K hK => ?_); refine gT Try.func45 (impl_within.calls ((rd_T81 l J).f2) 1 1000000000 false _ dI.out) ?_; rintro w' ⟨nd, rfl⟩; refine hK.out _ _ D7x1_ (fun U => nm_ ?_); clear hK K; refine pu_ 14 78 j ?_; refine pu_ 15 79 j ?_; refine pu_ 16 80 j ?_; refine of_ 17 81 j ?_; refine of_ 18 82 j ?_; refine of_ 19 83 j ?_; refine of_ 20 84 j ?_; refine of_ 21 85 j ?_; refine of_ 22 86 j ?_; refine of_ 23 87 j ?_; refine of_ 24 88 j ?_; refine of_ 25 89 j ?_; refine of_ 26 90 j ?_; refine of_ 27 91 j ?_; refine of_ 28 92 j ?_; refine of_ 29 93 j ?_; refine of_ 30 94 j ?_; refine pu_ 31 95 j ?_; refine done_ (done_of j.out gk_) ?_
       try go_wp2
       go_meet
       case rel => exact ⟨_, true, be_, b0, D7x3_⟩
      replace bS := am bS; clear bk bE bd ce
      try go_wp2
      generalize hw : (((cl.setCell ⟨ai, 0, none⟩ (.string ((rd_T81 l J).f0))).setCell ⟨ai, 1, none⟩ (.string ((rd_T81 l J).f1))).setCell ⟨ai, 2, none⟩ (.int .i64 ((rd_T81 l J).f2))) = d1; replace hw := hw.symm
      replace D : Hc d1 bh #[.slice aR q.length ax, .slice (some bp) l.length ay] 47 := ⟨wAp1 D cg⟩
      replace B : Hc d1 ai #[.string ((rd_T81 l J).f0), .string ((rd_T81 l J).f1), .int .i64 ((rd_T81 l J).f2)] 81 := ⟨wAp0 B⟩
      replace HB : Hb w d1 := ⟨wAe2 HB ar br⟩
      clear hw; replace D := dA D; replace B := dA B; replace HB := bdr HB; refine st_ 32 (fun w' => w'.cell? ⟨ai, 0, none⟩ = some (.string ((rd_T81 l J).f0)) ∧ w'.cell? ⟨ai, 1, none⟩ = some (.string ((rd_T81 l J).f1)) ∧ w'.cell? ⟨ai, 2, none⟩ = some (.int .i64 ((rd_T81 l J).f2))) [] impl_KeepOk.tab12 impl_KeepOk.bits12 D7x1_ (fun U j ak => ?_); generalize d1.drew = iJ at D B HB U ⊢; refine pu_ 0 64 j ?_; refine ta_ 1 65 j ak U ?_; refine on_ 2 (some 66) j (fun K hK => ?_); refine gT Try.func90 (impl_keyOk.calls ((rd_T81 l J).f0) true _ b9.out) ?_; rintro w' ⟨nd, rfl⟩; refine hK.out _ _ D7x1_ (fun U => nm_ ?_); clear hK K; refine pu_ 3 67 j ?_; refine pu_ 4 68 j ?_; refine pu_ 5 69 j ?_; refine ta_ 6 70 j ak U ?_; refine on_ 7 (some 71) j (fun K hK => ?_); refine gT Try.func91 (impl_valOk.calls ((rd_T81 l J).f1) false _ bY.out) ?_; rintro w' ⟨nd, rfl⟩; refine hK.out _ _ D7x1_ (fun U => nm_ ?_); clear hK K; refine pu_ 8 72 j ?_; refine pu_ 9 73 j ?_; refine pu_ 10 74 j ?_; refine of_ 11 75 j ?_; refine of_ 12 76 j ?_; refine of_ 13 77 j ?_; refine of_ 14 78 j ?_; refine pu_ 15 79 j ?_; refine pu_ 16 80 j ?_; refine of_ 17 81 j ?_; refine of_ 18 82 j ?_; refine of_ 19 83 j ?_; refine of_ 20 84 j ?_; refine of_ 21 85 j ?_; refine of_ 22 86 j ?_; refine of_ 23 87 j ?_; refine of_ 24 88 j ?_; refine of_ 25 89 j ?_; refine of_ 26 90 j ?_; refine of_ 27 91 j ?_; refine of_ 28 92 j ?_; refine of_ 29 93 j ?_; refine of_ 30 94 j ?_; refine pu_ 31 95 j ?_; refine done_ (done_of j.out gk_) ?_
      try go_wp2
      go_meet
      case rel => exact ⟨_, true, be_, bS, D7x3_⟩
     replace bd := am bd; clear bk bE
     try go_wp2
     generalize hw : (((cl.setCell ⟨ai, 0, none⟩ (.string ((rd_T81 l J).f0))).setCell ⟨ai, 1, none⟩ (.string ((rd_T81 l J).f1))).setCell ⟨ai, 2, none⟩ (.int .i64 ((rd_T81 l J).f2))) = d2; replace hw := hw.symm
     replace D : Hc d2 bh #[.slice aR q.length ax, .slice (some bp) l.length ay] 47 := ⟨wAp1 D cg⟩
     replace B : Hc d2 ai #[.string ((rd_T81 l J).f0), .string ((rd_T81 l J).f1), .int .i64 ((rd_T81 l J).f2)] 81 := ⟨wAp0 B⟩
     replace HB : Hb w d2 := ⟨wAe2 HB ar br⟩
     clear hw; replace D := dA D; replace B := dA B; replace HB := bdr HB; refine st_ 32 (fun w' => w'.cell? ⟨ai, 0, none⟩ = some (.string ((rd_T81 l J).f0)) ∧ w'.cell? ⟨ai, 1, none⟩ = some (.string ((rd_T81 l J).f1)) ∧ w'.cell? ⟨ai, 2, none⟩ = some (.int .i64 ((rd_T81 l J).f2))) [] impl_KeepOk.tab12 impl_KeepOk.bits12 D7x1_ (fun U j ak => ?_); generalize d2.drew = fy at D B HB U ⊢; refine pu_ 0 64 j ?_; refine ta_ 1 65 j ak U ?_; refine on_ 2 (some 66) j (fun K hK => ?_); refine gT Try.func90 (impl_keyOk.calls ((rd_T81 l J).f0) false _ b9.out) ?_; rintro w' ⟨nd, rfl⟩; refine hK.out _ _ D7x1_ (fun U => nm_ ?_); clear hK K; refine pu_ 3 67 j ?_; refine pu_ 4 68 j ?_; refine of_ 5 69 j ?_; refine of_ 6 70 j ?_; refine of_ 7 71 j ?_; refine of_ 8 72 j ?_; refine pu_ 9 73 j ?_; refine pu_ 10 74 j ?_; refine of_ 11 75 j ?_; refine of_ 12 76 j ?_; refine of_ 13 77 j ?_; refine of_ 14 78 j ?_; refine pu_ 15 79 j ?_; refine pu_ 16 80 j ?_; refine of_ 17 81 j ?_; refine of_ 18 82 j ?_; refine of_ 19 83 j ?_; refine of_ 20 84 j ?_; refine of_ 21 85 j ?_; refine of_ 22 86 j ?_; refine of_ 23 87 j ?_; refine of_ 24 88 j ?_; refine of_ 25 89 j ?_; refine of_ 26 90 j ?_; refine of_ 27 91 j ?_; refine of_ 28 92 j ?_; refine of_ 29 93 j ?_; refine of_ 30 94 j ?_; refine pu_ 31 95 j ?_; refine done_ (done_of j.out gk_) ?_
     try go_wp2
     go_meet
     case rel => exact ⟨_, true, be_, bd, D7x3_⟩
    clear bk
    try clear c4
    obtain ⟨kq, eI, rfl, b1, eT, D, B, HB⟩ := hcut
    cases kq with
    | zero => exact absurd b1.out (by simp [impl_KeepOk.j3])
    | succ gN => ?_
    replace b1 := b1.out; simp only [impl_KeepOk.j3] at b1
    obtain ⟨rfl, cf⟩ | ⟨rfl, cf⟩ := sb b1
    ·obtain rfl := Option.some.inj cf; clear cf b1
     go_wp2
     go_ret; exact ⟨B22x12_, (Ae2 HB ar br)⟩
    replace cf := am cf; clear b1
    go_wp2
    go_roundg gN
    case measure => have := aT.out; have := ca.out; have := eT.out; omega
    case rel => exact ⟨(wrap64 (J + 1)), be_, cf, ⟨(by have := aT.out; have := ca.out; have := eT.out; omega)⟩, Cb D, Ce2 HB ar br⟩
   obtain ⟨cB, ct⟩ | ⟨cB, ct⟩ := sp bj
   ·have gq := decide_eq_true cB
    have gr : decide (q.length ≤ 3) = true := decide_eq_true (by omega)
    clear cB; obtain rfl := Option.some.inj ct; clear ct ba bj; obtain ⟨eL, eM, eN, eO⟩ := cf2 D
    go_wp2
    go_ret; exact ⟨B22x12_, (Ae1 HB ar)⟩
   have gq := decide_eq_false cB
   have gr : decide (q.length ≤ 3) = false := decide_eq_false (by omega)
   clear cB; obtain rfl := Option.some.inj ct; clear ct ba bj; obtain ⟨eL, eM, eN, eO⟩ := cf2 D
   go_wp2
   go_ret; exact ⟨B22x12_, (Ae1 HB ar)⟩
theorem B23x5_ (h : p := by have := aT.out; omega) : p := h
def impl_VarText.l0 : Nat → Int → List Int → Option (ByteArray × Bool)
 | 0, _, _ => none
 | k + 1, x0, x4 => if x0 > 127 then (if x4.length < 140737488355328 then (impl_VarText.l0 k (wrap64 (Int.tdiv x0 128)) (x4 ++ [(wrap64 ((Int.tmod x0 128) + 128)) % 256])) else (none)) else (if x4.length < 140737488355328 then (some (strOfNums (x4 ++ [(x0) % 256]), true)) else (none))
def impl_VarText.f (k : Nat) (a0 : Int) : Option (ByteArray × Bool) := (impl_within.f a0 0 1000000000).bind fun ft => (if ft = true then (impl_VarText.l0 k a0 (([] : List Int))) else (some ((⟨#[]⟩ : ByteArray), false)))
theorem impl_VarText.calls (k : Nat) (a0 : Int) (r1 : ByteArray) (r2 : Bool) (w : World) (h : impl_VarText.f k a0 = some (r1, r2)) :
  Calls Try.prog 92 #[.int .i64 a0] w fun e w' => e = .returned (.tuple #[.string r1, .bool r2]) ∧ Below w.heap.size w w' := by
 have HB := am (Below.refl w.heap.size w)
 have al := h
 clear h
 unfold impl_VarText.f at al
 obtain ⟨ft, A2, ah⟩ := bsi al
 (try dsimp only at ah)
 obtain ⟨rfl, ac⟩ | ⟨rfl, ac⟩ := sb ah
 ·obtain ⟨g5, df⟩ : ∃ y_ : List Int, y_ = (([] : List Int)) := ⟨_, rfl⟩
  (first | with_reducible replace ac := hq df ac | rw [← df] at ac | simp only [← df] at ac)
  have eX := am df; clear df; replace ac := am ac; clear al ah; go_enter Try.func92, Try.ntmps92
  go_wp2_with (first | ((with_reducible refine gate_callee (f := 45) rfl ?_); refine gM (some 6) Try.func45 (impl_within.calls a0 0 1000000000 true _ A2.out) ?_; rintro w' ⟨nd, rfl⟩) | ((with_reducible refine gate_dst (N := 8) rfl ?_); refine Kd.R_lit (Kd.int .u8) _ 5 ?hg (N := 8) ?hd (xs := ([] : List Int)) (inner := []) (ok := fun _ => True) (okp := fun _ => True) ?hr ?hp (fun _ hk => hk) trivial (Below.refl _ _) (Nat.le_refl _) (by simp) ?_; (case hd => rfl); (case hg => rfl); (case hr => first | (go_simp; done) | (go_simp; rfl)); (case hp => exact (Reps.none _ _)); intro ix w4 cV hb hg_ hnew_; clear hg_ hnew_; (first | rw [← eX.out] at cV | (simp only [Int.reduceToNat] at cV; rw [← eX.out] at cV)); have fK := am (Kd.R_lower cV (below_size (Ae0 HB))); replace HB := hA HB hb; clear hb cV))
  go_loopg [0, 4] k (fun kq v0 v4 w' => ∃ (bz : Int) (aI : List Int), v0 = .int .i64 bz ∧ Aside0 (impl_VarText.l0 kq bz aI = some (r1, r2)) ∧ Aside0 (kq ≤ k) ∧ Aside0 (Kd.R (Kd.int .u8) 5 w' w.heap.size (fun _ => True) v4 aI) ∧ Aside0 (Below w.heap.size w w'))
  case atStart => exact ⟨(a0), g5, be_, ac, ⟨Nat.le_refl _⟩, Cr fK, Ce0 HB⟩
  case round =>
   clear ac
   try clear c3
   obtain ⟨bz, aI, rfl, aC, aT, dK, HB⟩ := hrel
   cases gk with
   | zero => exact absurd aC.out (by simp [impl_VarText.l0])
   | succ k1 => ?_
   replace aC := aC.out; simp only [impl_VarText.l0] at aC
   obtain ⟨c6, ao⟩ | ⟨c6, ao⟩ := sp aC
   ·have cC : decide (127 < bz) = true := decide_eq_true c6
    clear c6; obtain ⟨fN, aj⟩ := ya ao; obtain ⟨g6, dh⟩ : ∃ y_ : List Int, y_ = (aI ++ [(wrap64 ((Int.tmod bz 128) + 128)) % 256]) := ⟨_, rfl⟩
    (first | with_reducible replace aj := hq dh aj | rw [← dh] at aj | simp only [← dh] at aj)
    have fS := am dh; clear dh; replace aj := am aj; clear aC ao
    go_wp2_with (first | ((with_reducible refine gate_builtin (b := .append) (xs := #[.tmp 11, .tmp 16]) rfl ?_); at_builtin; refine Kd.R_append (Kd.int .u8) (w0 := w) w.heap.size rfl (.tmp 11) (.tmp 16) 22 5 (.int .u8 0) 1 rfl Try.underlying22 info5 rfl (by decide) (by omega) u4 aI ((wrap64 ((Int.tmod bz 128) + 128)) % 256) [.int .u8 ((wrap64 ((Int.tmod bz 128) + 128)) % 256)] (fun _ => True) (fun _ => False) rfl rfl ?aP (fun _ hk => hk.elim) ?aF ?aO ?aB ?aS ?aL ?_; (case aP => exact rfl); (case aB => exact (Ae0 HB)); (case aF => exact (fun _ _ => trivial)); (case aO => exact (Ar dK)); (case aS => exact (below_size (Ae0 HB))); (case aL => have := fN.out; omega); intro iy w8 ho hb hg hat; rw [← fS.out] at ho; replace HB := am hb; have fL := am ho; clear dK; clear ho hb hg hat))
    go_roundg k1
    case measure => have := aT.out; omega
    case rel => exact ⟨(wrap64 (Int.tdiv bz 128)), g6, be_, aj, ⟨B23x5_⟩, Cr fL, Ce0 HB⟩
   ·have cC : decide (127 < bz) = false := decide_eq_false c6
    clear c6; obtain ⟨fO, au⟩ := ya ao; obtain ⟨iO, di⟩ : ∃ y_ : List Int, y_ = (aI ++ [(bz) % 256]) := ⟨_, rfl⟩
    (first | with_reducible replace au := hq di au | rw [← di] at au | simp only [← di] at au)
    have fT := am di; clear di; obtain ⟨rfl, rfl⟩ := s2 au; clear au aC ao
    go_wp2_with (first | ((with_reducible refine gate_builtin (b := .append) (xs := #[.tmp 20, .tmp 23]) rfl ?_); at_builtin; refine Kd.R_append (Kd.int .u8) (w0 := w) w.heap.size rfl (.tmp 20) (.tmp 23) 22 5 (.int .u8 0) 1 rfl Try.underlying22 info5 rfl (by decide) (by omega) u4 aI ((bz) % 256) [.int .u8 ((bz) % 256)] (fun _ => True) (fun _ => False) rfl rfl ?aP (fun _ hk => hk.elim) ?aF ?aO ?aB ?aS ?aL ?_; (case aP => exact rfl); (case aB => exact (Ae0 HB)); (case aF => exact (fun _ _ => trivial)); (case aO => exact (Ar dK)); (case aS => exact (below_size (Ae0 HB))); (case aL => have := fO.out; omega); intro iz iC ho hb hg hat; rw [← fT.out] at ho; replace HB := am hb; have fM := am ho; clear dK; clear ho hb hg hat; have h7 := own_string (P := Try.prog) Try.underlying22 Try.underlying5 Try.underlying9 (Kd.own_of_R fM.out)))
    go_ret2
    exact ⟨B22x12_, (Ae0 HB)⟩
 ·obtain ⟨rfl, rfl⟩ := s2 ac; clear ac al ah; go_enter Try.func92, Try.ntmps92
  go_wp2_with (first | ((with_reducible refine gate_callee (f := 45) rfl ?_); refine gM (some 6) Try.func45 (impl_within.calls a0 0 1000000000 false _ A2.out) ?_; rintro w' ⟨nd, rfl⟩))
  go_ret2
  exact ⟨B22x12_, (Ae0 HB)⟩

def impl_varTexts.l0 : Nat → ByteArray → List Int → Int → Int → Option (ByteArray)
 | 0, _, _, _, _ => none
 | k + 1, x3, x8, x9, aa => if aa < x9 then (if 0 ≤ aa then (if aa < (x8.length : Int) then ((impl_VarText.f k (rd x8 aa)).bind fun e6 => (if x3.size + e6.1.size ≤ 9223372036854775807 then (impl_varTexts.l0 k (x3 ++ e6.1) x8 x9 (wrap64 (aa + 1))) else (none))) else (none)) else (none)) else (some x3)
def impl_varTexts.f (k : Nat) (l0 : List Int) : Option (ByteArray) := impl_varTexts.l0 k (⟨#[]⟩ : ByteArray) l0 (l0.length : Int) 0
theorem impl_varTexts.calls (k : Nat) (A0 : Option Addr) (c0 : Nat) (l0 : List Int) (r : ByteArray) (w : World) (cW : Kd.C (Kd.int .i64) w A0 l0.length l0) (cN : l0.length ≤ c0) (h : impl_varTexts.f k l0 = some r) :
  Calls Try.prog 64 #[.slice A0 l0.length c0] w fun e w' => e = .returned (.string r) ∧ Below w.heap.size w w' := by
 have d6 := am cW
 have fJ := am cN
 clear cW cN
 have HB := am (Below.refl w.heap.size w)
 have al := h
 clear h
 unfold impl_varTexts.f at al
 replace al := am al
 go_enter Try.func64, Try.ntmps64
 go_wp2
 go_loopg [3, 10] k (fun kq v3 dq w' => ∃ (bL : ByteArray) (M : Int), v3 = .string bL ∧ dq = .int .i64 M ∧ Aside0 (impl_varTexts.l0 kq bL l0 (l0.length : Int) M = some r) ∧ Aside0 (kq ≤ k) ∧ Aside0 (Below w.heap.size w w'))
 case atStart => exact ⟨((⟨#[]⟩ : ByteArray)), 0, be_, be_, al, ⟨Nat.le_refl _⟩, Ce0 HB⟩
 case round =>
  clear al; obtain ⟨bL, M, rfl, rfl, ah, aT, HB⟩ := hrel
  cases gk with
  | zero => exact absurd ah.out (by simp [impl_varTexts.l0])
  | succ k1 => ?_
  replace ah := ah.out; simp only [impl_varTexts.l0] at ah
  obtain ⟨cw, ac⟩ | ⟨cw, ac⟩ := sd ah
  ·obtain ⟨f9, aC⟩ := yd ac; obtain ⟨cj, ao⟩ := yd aC; obtain ⟨⟨eE, gO⟩, A5, aj⟩ := bsi ao; (try dsimp only at aj); obtain ⟨c6, au⟩ := yn aj; have cC := eq_true c6; have gs := decide_eq_true c6
   try have ec : (9223372036854775807 < bL.size + eE.size) = False := eq_false (Nat.not_lt.2 c6)
   try (have ed := ec; simp only [ByteArray.size_append] at ed)
   replace au := am au; clear ah ac aC ao aj
   have et : 0 ≤ (M : Int) := dga
   have ez : M < (l0.length : Int) := dga
   obtain ⟨g9, gB, ei⟩ := Kd.at_int d6.out M et ez; cases gB; replace ei := (hbc HB ei).trans ei; replace et := eq_true et; replace ez := eq_true ez
   go_wp2_with (first | ((with_reducible refine gate_callee (f := 92) rfl ?_); refine gM (some 16) Try.func92 (impl_VarText.calls k1 (rd l0 M) eE gO _ A5.out) ?_; rintro w7 hb; replace HB := hA HB hb))
   go_roundg k1
   case measure => have := aT.out; omega
   case rel => exact ⟨(bL ++ eE), (wrap64 (M + 1)), be_, be_, au, ⟨B23x5_⟩, Ce0 HB⟩
  ·obtain rfl := Option.some.inj ac; clear ac ah
   go_wp2
   go_ret; exact ⟨B22x12_, (Ae0 HB)⟩

def impl_ShortText.f (k : Nat) (a0 : ByteArray) : Option (ByteArray × Bool) := if (a0.size : Int) > 20000 then (some ((⟨#[]⟩ : ByteArray), false)) else ((impl_VarText.f k (a0.size : Int)).bind fun e7 => (if e7.1.size + a0.size ≤ 9223372036854775807 then (some (e7.1 ++ a0, true)) else (none)))
theorem impl_ShortText.calls (k : Nat) (a0 : ByteArray) (r1 : ByteArray) (r2 : Bool) (w : World) (h : impl_ShortText.f k a0 = some (r1, r2)) :
  Calls Try.prog 93 #[.string a0] w fun e w' => e = .returned (.tuple #[.string r1, .bool r2]) ∧ Below w.heap.size w w' := by
 have HB := am (Below.refl w.heap.size w)
 have al := h
 clear h
 unfold impl_ShortText.f at al
 obtain ⟨c2, ah⟩ | ⟨c2, ah⟩ := sp al
 ·have cw : decide (20000 < (a0.size : Int)) = true := decide_eq_true c2
  have f3 : decide (20000 < a0.size) = true := decide_eq_true (by omega)
  clear c2; obtain ⟨rfl, rfl⟩ := s2 ah; clear ah al; go_enter Try.func93, Try.ntmps93
  go_wp2
  go_ret2
  exact ⟨B22x12_, (Ae0 HB)⟩
 ·have cw : decide (20000 < (a0.size : Int)) = false := decide_eq_false c2
  have f3 : decide (20000 < a0.size) = false := decide_eq_false (by omega)
  clear c2; obtain ⟨⟨fu, gP⟩, A3, ac⟩ := bsi ah; (try dsimp only at ac); obtain ⟨c4, aC⟩ := yn ac; have cj := eq_true c4; have hH := decide_eq_true c4
  try have gj : (9223372036854775807 < fu.size + a0.size) = False := eq_false (Nat.not_lt.2 c4)
  try (have gl := gj; simp only [ByteArray.size_append] at gl)
  obtain ⟨rfl, rfl⟩ := s2 aC; clear aC al ah ac; go_enter Try.func93, Try.ntmps93
  go_wp2_with (first | ((with_reducible refine gate_callee (f := 92) rfl ?_); refine gM (some 12) Try.func92 (impl_VarText.calls k (a0.size : Int) fu gP _ A3.out) ?_; rintro w5 hb; replace HB := hA HB hb))
  go_ret2
  exact ⟨B22x12_, (Ae0 HB)⟩

def impl_shortTexts.l0 : Nat → ByteArray → List ByteArray → Int → Int → Option (ByteArray)
 | 0, _, _, _, _ => none
 | k + 1, x3, x8, x9, aa => if aa < x9 then (if 0 ≤ aa then (if aa < (x8.length : Int) then ((impl_ShortText.f k (rdOf ByteArray.empty x8 aa)).bind fun e8 => (if x3.size + e8.1.size ≤ 9223372036854775807 then (impl_shortTexts.l0 k (x3 ++ e8.1) x8 x9 (wrap64 (aa + 1))) else (none))) else (none)) else (none)) else (some x3)
def impl_shortTexts.f (k : Nat) (l0 : List ByteArray) : Option (ByteArray) := impl_shortTexts.l0 k (⟨#[]⟩ : ByteArray) l0 (l0.length : Int) 0
theorem impl_shortTexts.calls (k : Nat) (A0 : Option Addr) (c0 : Nat) (l0 : List ByteArray) (r : ByteArray) (w : World) (cW : Kd.C Kd.string w A0 l0.length l0) (cN : l0.length ≤ c0) (h : impl_shortTexts.f k l0 = some r) :
  Calls Try.prog 65 #[.slice A0 l0.length c0] w fun e w' => e = .returned (.string r) ∧ Below w.heap.size w w' := by
 have d6 := am cW
 have fJ := am cN
 clear cW cN
 have HB := am (Below.refl w.heap.size w)
 have al := h
 clear h
 unfold impl_shortTexts.f at al
 replace al := am al
 go_enter Try.func65, Try.ntmps65
 go_wp2
 go_loopg [3, 10] k (fun kq v3 dq w' => ∃ (bL : ByteArray) (M : Int), v3 = .string bL ∧ dq = .int .i64 M ∧ Aside0 (impl_shortTexts.l0 kq bL l0 (l0.length : Int) M = some r) ∧ Aside0 (kq ≤ k) ∧ Aside0 (Below w.heap.size w w'))
 case atStart => exact ⟨((⟨#[]⟩ : ByteArray)), 0, be_, be_, al, ⟨Nat.le_refl _⟩, Ce0 HB⟩
 case round =>
  clear al; obtain ⟨bL, M, rfl, rfl, ah, aT, HB⟩ := hrel
  cases gk with
  | zero => exact absurd ah.out (by simp [impl_shortTexts.l0])
  | succ k1 => ?_
  replace ah := ah.out; simp only [impl_shortTexts.l0] at ah
  obtain ⟨cw, ac⟩ | ⟨cw, ac⟩ := sd ah
  ·obtain ⟨f9, aC⟩ := yd ac; obtain ⟨cj, ao⟩ := yd aC; obtain ⟨⟨eF, gQ⟩, A5, aj⟩ := bsi ao; (try dsimp only at aj); obtain ⟨c6, au⟩ := yn aj; have cC := eq_true c6; have gs := decide_eq_true c6
   try have ec : (9223372036854775807 < bL.size + eF.size) = False := eq_false (Nat.not_lt.2 c6)
   try (have ed := ec; simp only [ByteArray.size_append] at ed)
   replace au := am au; clear ah ac aC ao aj
   have eu : 0 ≤ (M : Int) := dga
   have eB : M < (l0.length : Int) := dga
   obtain ⟨he, gC, ej⟩ := Kd.at_string d6.out M eu eB; cases gC; replace ej := (hbc HB ej).trans ej; replace eu := eq_true eu; replace eB := eq_true eB
   go_wp2_with (first | ((with_reducible refine gate_callee (f := 93) rfl ?_); refine gM (some 16) Try.func93 (impl_ShortText.calls k1 (rdOf ByteArray.empty l0 M) eF gQ _ A5.out) ?_; rintro w7 hb; replace HB := hA HB hb))
   go_roundg k1
   case measure => have := aT.out; omega
   case rel => exact ⟨(bL ++ eF), (wrap64 (M + 1)), be_, be_, au, ⟨B23x5_⟩, Ce0 HB⟩
  obtain rfl := Option.some.inj ac; clear ac ah
  go_wp2
  go_ret; exact ⟨B22x12_, (Ae0 HB)⟩
theorem B24x11_ (h : p := by first | exact (Kd.R_below (tr (aW aD)) hb) | exact Kd.R_mono (Kd.R_below (tr (aW aD)) hb) (fun _ h_ => by first | trivial | exact h_ | exact h_.1)) : p := h
theorem B24x12_ (h : p := by first | exact (Kd.R_below (tr (aY aD)) hb) | exact Kd.R_mono (Kd.R_below (tr (aY aD)) hb) (fun _ h_ => by first | trivial | exact h_ | exact h_.1)) : p := h
theorem B24x22_ (h : p := by simp only [putSel, Bool.false_eq_true, if_false]) : p := h
theorem B24x23_ (h : p := by rw [ha.out]; exact putSel_upk 0 hb_ rfl rfl rfl) : p := h
theorem B24x24_ (h : p := by rw [ha.out]; exact putSel_upk 1 hb_ rfl rfl rfl) : p := h
theorem B24x25_ (h : p := by rw [ha.out]; exact putSel_upk 2 hb_ rfl rfl rfl) : p := h
theorem B24x26_ (h : p := by rw [ha.out]; exact putSel_upk 3 hb_ rfl rfl rfl) : p := h
theorem B24x27_ (h : p := by rw [ha.out]; exact putSel_upk 4 hb_ rfl rfl rfl) : p := h
theorem B24x28_ (h : p := by rw [ha.out]; exact putSel_upk 5 hb_ rfl rfl rfl) : p := h
theorem B24x29_ (h : p := by rw [ha.out]; exact putSel_upk 6 hb_ rfl rfl rfl) : p := h
theorem B24x30_ (h : p := by rw [ha.out]; exact putSel_upk 7 hb_ rfl rfl rfl) : p := h
theorem B24x31_ (h : p := by rw [ha.out]; exact putSel_upk 8 hb_ rfl rfl rfl) : p := h
theorem B24x32_ (h : p := by rw [ha.out]; exact putSel_upk 9 hb_ rfl rfl rfl) : p := h
mutual
def impl_KeepText.l0 : Nat → ByteArray → List (S83) → Int → Int → List (S83) → List (S81) → Option (ByteArray × Bool)
 | 0, _, _, _, _, _, _ => none
 | k + 1, x4, ds, fz, b7, g3, d3 => if b7 < fz then (if 0 ≤ b7 then (if b7 < (ds.length : Int) then ((impl_varTexts.f k (([(rd_T83 ds b7).f0, (rd_T83 ds b7).f1] : List Int))).bind fun aJ => ((impl_shortTexts.f k (([(rd_T83 ds b7).f2] : List ByteArray))).bind fun aK => (if aJ.size + aK.size ≤ 9223372036854775807 then (if x4.size + (aJ ++ aK).size ≤ 9223372036854775807 then (impl_KeepText.l0 k (x4 ++ (aJ ++ aK)) ds fz (wrap64 (b7 + 1)) g3 d3) else (none)) else (none)))) else (none)) else (none)) else ((impl_varTexts.f k (([(d3.length : Int)] : List Int))).bind fun ck => (if x4.size + ck.size ≤ 9223372036854775807 then (impl_KeepText.l1 k (x4 ++ ck) d3 (d3.length : Int) 0) else (none)))
def impl_KeepText.l1 : Nat → ByteArray → List (S81) → Int → Int → Option (ByteArray × Bool)
 | 0, _, _, _, _ => none
 | k + 1, x4, dt, fA, b8 => if b8 < fA then (if 0 ≤ b8 then (if b8 < (dt.length : Int) then ((impl_shortTexts.f k (([(rd_T81 dt b8).f0, (rd_T81 dt b8).f1] : List ByteArray))).bind fun aM => ((impl_varTexts.f k (([(rd_T81 dt b8).f2] : List Int))).bind fun aN => (if aM.size + aN.size ≤ 9223372036854775807 then (if x4.size + (aM ++ aN).size ≤ 9223372036854775807 then (impl_KeepText.l1 k (x4 ++ (aM ++ aN)) dt fA (wrap64 (b8 + 1))) else (none)) else (none)))) else (none)) else (none)) else (if (x4.size : Int) > 20000 then (some ((⟨#[]⟩ : ByteArray), false)) else (some (x4, true)))
end
def impl_KeepText.f (k : Nat) (q : List (S83)) (l : List (S81)) : Option (ByteArray × Bool) := (impl_KeepOk.f k q l).bind fun fv => (if fv = true then ((impl_varTexts.f k (([(q.length : Int)] : List Int))).bind fun dV => (impl_KeepText.l0 k dV q (q.length : Int) 0 q l)) else (some ((⟨#[]⟩ : ByteArray), false)))
def impl_KeepText.T7 : Bool × List (List Nat × List Nat) := (true, [([], []), ([], []), ([1], [1]), ([], []), ([3], [3]), ([2, 4], [2, 4]), ([5], [5]), ([], []), ([7], [7]), ([8], [8]), ([9, 6], [9]), ([6, 10], [6, 10]), ([0, 11], [0, 11]), ([12, 10, 0, 1, 2, 3, 4, 5, 6, 7, 8, 9, 10, 11, 12], [0, 12])])
def impl_KeepText.B7 : List Nat := [0, 0, 2, 0, 8, 30, 62, 0, 128, 384, 1022, 2046, 4095, 8191]
theorem impl_KeepText.tab7 : rtab .any (opsOf Try.f26 7) = impl_KeepText.T7 := by kernel_rfl
theorem impl_KeepText.bits7 : waitsOk impl_KeepText.T7.2 impl_KeepText.B7 = true := by kernel_rfl
def impl_KeepText.T13 : Bool × List (List Nat × List Nat) := (true, [([], []), ([], []), ([1], [1]), ([], []), ([3], [3]), ([2, 4], [2, 4]), ([5], [5]), ([], []), ([7], [7]), ([8], [8]), ([9, 6], [9]), ([6, 10], [6, 10]), ([0, 11], [0, 11]), ([12, 10, 0, 1, 2, 3, 4, 5, 6, 7, 8, 9, 10, 11, 12], [0, 12])])
def impl_KeepText.B13 : List Nat := [0, 0, 2, 0, 8, 30, 62, 0, 128, 384, 1022, 2046, 4095, 8191]
theorem impl_KeepText.tab13 : rtab .any (opsOf Try.f26 13) = impl_KeepText.T13 := by kernel_rfl
theorem impl_KeepText.bits13 : waitsOk impl_KeepText.T13.2 impl_KeepText.B13 = true := by kernel_rfl
theorem impl_KeepText.calls (k : Nat) (aR : Option Addr) (ax : Nat) (q : List (S83)) (a1 : Option Addr) (ay : Nat) (l : List (S81)) (r1 : ByteArray) (r2 : Bool) (w : World) (cX : Kd.C k83 w aR q.length q) (cP : q.length ≤ ax) (cY : Kd.C k81 w a1 l.length l) (cQ : l.length ≤ ay) (h : impl_KeepText.f k q l = some (r1, r2)) :
  Calls Try.prog 26 #[.agg #[.slice aR q.length ax, .slice a1 l.length ay]] w fun e w' => e = .returned (.tuple #[.string r1, .bool r2]) ∧ Below w.heap.size w w' := by
 have gH := Try.underlying47
 have gJ := Try.underlying83
 have gI := Try.underlying81
 have bZ := am cX
 have d4 := am cP
 clear cX cP
 have cc := am cY
 have d5 := am cQ
 clear cY cQ
 have HB := am (Below.refl w.heap.size w)
 have al := h
 clear h
 unfold impl_KeepText.f at al
 obtain ⟨fv, A2, ah⟩ := bsi al
 (try dsimp only at ah)
 obtain ⟨rfl, ac⟩ | ⟨rfl, ac⟩ := sb ah
 ·obtain ⟨fB, dj⟩ : ∃ y_ : List Int, y_ = (([(q.length : Int)] : List Int)) := ⟨_, rfl⟩
  (first | with_reducible replace ac := hq dj ac | rw [← dj] at ac | simp only [← dj] at ac)
  have eY := am dj; clear dj; obtain ⟨dV, A4, aC⟩ := bsi ac; (try dsimp only at aC); replace aC := am aC; clear al ah ac; go_enter Try.func26, Try.ntmps26
  go_wp2_with (first | ((with_reducible refine gate_dst (N := 1) rfl ?_); refine bx (N := 1) (cs := #[.slice aR q.length ax, .slice a1 l.length ay]) (t := 47) ?_; intro b3 hg w5 hbox hb; have z := am hbox; have ag := gA hg HB; replace HB := hA HB hb; clear hb hbox hg; obtain ⟨dz, dB, dF, dG⟩ := cf2 z) | ((with_reducible refine gate_callee (f := 63) rfl ?_); refine gM (some 10) Try.func63 (impl_KeepOk.calls k _ _ q _ _ l true _ (tc (Kd.C_below bZ.out HB.out)) d4.out (tc (Kd.C_below cc.out HB.out)) d5.out A2.out) ?_; rintro w7 hb; replace z := bA z hb; replace HB := De1 HB ag hb; obtain ⟨dz, dB, dF, dG⟩ := cf2 z) | ((with_reducible refine gate_dst (N := 15) rfl ?_); refine lL (Kd.int .i64) 3 15 ([(q.length : Int)] : List Int) [.int .i64 (q.length : Int)] (Reps.one (show Kd.M (Kd.int .i64) _ _ _ (q.length : Int) [.int .i64 (q.length : Int)] from rfl) (Reps.none _ _)) ?_; intro iA w9 cT hb; (first | rw [← eY.out] at cT | (simp only [Int.reduceToNat] at cT; rw [← eY.out] at cT)); have cp := am (Kd.R_lower cT (below_size (Ae1 HB ag))); replace z := bA z hb; replace HB := De1 HB ag hb; clear hb cT; obtain ⟨fH, gu, gF⟩ := Kd.R_slice cp.out; subst gF) | ((with_reducible refine gate_callee (f := 64) rfl ?_); refine gL (some 16) Try.func64 #[.slice fH fB.length gu] ?_; (with_reducible refine (impl_varTexts.calls k _ _ fB dV _ ?z1 ?z2 A4.out).mono ?_); (case z1 => repeat (first | exact (Kd.R_reads' cp.out).2.2 | (with_reducible refine Kd.C_alloc ?_ _) | (with_reducible refine Kd.C_drewN ?_ _) | (with_reducible refine Kd.C_drew ?_))); (case z2 => exact (Kd.R_reads' cp.out).2.1); rintro e iD ⟨rfl, hb⟩; refine ⟨_, rfl, ?_⟩; replace cp := rA cp hb; replace z := bA z hb; replace HB := De1 HB ag hb; obtain ⟨dz, dB, dF, dG⟩ := cf2 z))
  go_loopg [4, 20] k (fun kq v4 gR w' => ∃ (aI : ByteArray) (Y : Int), v4 = .string aI ∧ gR = .int .i64 Y ∧ Aside0 (impl_KeepText.l0 kq aI q (q.length : Int) Y q l = some (r1, r2)) ∧ Aside0 (kq ≤ k) ∧ Aside0 (w'.heap[b3]? = some (.cells #[(.slice aR q.length ax), (.slice a1 l.length ay)] 47 (0, 0))) ∧ Aside0 (Below w.heap.size w w'))
  case atStart => exact ⟨(dV), 0, be_, be_, aC, ⟨Nat.le_refl _⟩, Cb z, Ce1 HB ag⟩
  case round =>
   clear aC
   try clear c3
   obtain ⟨aI, Y, rfl, rfl, ao, aT, z, HB⟩ := hrel
   cases gk with
   | zero => exact absurd ao.out (by simp [impl_KeepText.l0])
   | succ k1 => ?_
   replace ao := ao.out; simp only [impl_KeepText.l0] at ao
   obtain ⟨e9, aj⟩ | ⟨e9, aj⟩ := sd ao
   ·obtain ⟨ci, au⟩ := yd aj; obtain ⟨hh, bo⟩ := yd au; obtain ⟨du, dk⟩ : ∃ y_ : List Int, y_ = (([(rd_T83 q Y).f0, (rd_T83 q Y).f1] : List Int)) := ⟨_, rfl⟩
    (first | with_reducible replace bo := hq dk bo | rw [← dk] at bo | simp only [← dk] at bo)
    have eZ := am dk; clear dk; obtain ⟨aJ, fD, a9⟩ := bsi bo; (try dsimp only at a9); obtain ⟨cm, dl⟩ : ∃ y_ : List ByteArray, y_ = (([(rd_T83 q Y).f2] : List ByteArray)) := ⟨_, rfl⟩
    (first | with_reducible replace a9 := hq dl a9 | rw [← dl] at a9 | simp only [← dl] at a9)
    have e0 := am dl; clear dl; obtain ⟨aK, fE, bC⟩ := bsi a9; (try dsimp only at bC); obtain ⟨ea, bM⟩ := yn bC; have hj := eq_true ea; have hl := decide_eq_true ea
    try have fY : (9223372036854775807 < aJ.size + aK.size) = False := eq_false (Nat.not_lt.2 ea)
    try (have fZ := fY; simp only [ByteArray.size_append] at fZ)
    obtain ⟨dM, bn⟩ := yn bM; have hm := eq_true dM; have hn := decide_eq_true dM
    try have f0 : (9223372036854775807 < aI.size + (aJ ++ aK).size) = False := eq_false (Nat.not_lt.2 dM)
    try have hs : (9223372036854775807 < aI.size + aJ.size + aK.size) = False := eq_false (by have h_ := dM; simp only [ByteArray.size_append, ByteArray.size_extract, decide_eq_true_eq, decide_eq_false_iff_not] at *; omega)
    try (have f1 := f0; simp only [ByteArray.size_append] at f1)
    replace bn := am bn; clear ao aj au bo a9 bC bM
    have ev : 0 ≤ (Y : Int) := dga
    have eC : Y < (q.length : Int) := dga
    obtain ⟨e4, gD, ek, el, em⟩ := at_T83 bZ.out Y ev eC; cases gD; replace ek := (hbc HB ek).trans ek; replace el := (hbc HB el).trans el; replace em := (hbc HB em).trans em; replace ev := eq_true ev; replace eC := eq_true eC
    try go_wp2_with (first | ((with_reducible refine gate_dst (N := 6) rfl ?_); refine bx (N := 6) (cs := #[.int .i64 0, .int .i64 0, .string (⟨#[]⟩ : ByteArray)]) (t := 83) ?_; intro a2 hg gY hbox hb; have ae := am hbox; have bu := gA hg HB; replace HB := De1 HB ag hb; have eV := nA hg z; have fQ := mA hg z; replace z := bA z hb; clear hb hbox hg; have ie := fQ.out; have ip := eV.out; obtain ⟨iS, iT, iU, i1, i2, i3⟩ := cf3 ae))
    generalize hw : (((gY.setCell ⟨a2, 0, none⟩ (.int .i64 ((rd_T83 q Y).f0))).setCell ⟨a2, 1, none⟩ (.int .i64 ((rd_T83 q Y).f1))).setCell ⟨a2, 2, none⟩ (.string ((rd_T83 q Y).f2))) = dW; replace hw := hw.symm
    replace z : Hc dW b3 #[.slice (some e4) q.length ax, .slice a1 l.length ay] 47 := ⟨wAp1 z eV⟩
    replace ae : Hc dW a2 #[.int .i64 ((rd_T83 q Y).f0), .int .i64 ((rd_T83 q Y).f1), .string ((rd_T83 q Y).f2)] 83 := ⟨wAp0 ae⟩
    replace HB : Hb w dW := ⟨wAe2 HB ag bu⟩
    clear hw; replace z := dA z; replace ae := dA ae; replace HB := bdr HB; refine st_ 14 (fun w' => True) [] impl_KeepText.tab7 impl_KeepText.bits7 trivial (fun U j ak => ?_); generalize dW.drew = iE at z ae HB U ⊢; refine pu_ 0 24 j ?_; refine pu_ 1 25 j ?_; refine pu_ 3 27 j ?_; refine pu_ 7 31 j ?_; refine inv_at [2, 4, 5, 6, 8, 9, 10, 11, 12, 13] (fun d8 b a w' => ∃ (az : Value) (av : Value), a = putSel d8 b [(2, 26, .int .i64 ((rd_T83 q Y).f0)), (4, 28, .int .i64 ((rd_T83 q Y).f1)), (5, 29, az), (6, 30, .string aJ), (8, 32, .string ((rd_T83 q Y).f2)), (9, 33, av), (10, 34, .string aK), (11, 35, .string (aJ ++ aK)), (12, 36, .string (aI ++ (aJ ++ aK))), (13, 4, .string (aI ++ (aJ ++ aK)))] ∧ (w'.heap[b3]? = some (.cells #[.slice (some e4) q.length ax, .slice a1 l.length ay] 47 (0, 0))) ∧ (w'.heap[a2]? = some (.cells #[.int .i64 ((rd_T83 q Y).f0), .int .i64 ((rd_T83 q Y).f1), .string ((rd_T83 q Y).f2)] 83 (0, 0))) ∧ (Below w.heap.size w w') ∧ (b 5 = true → Kd.R (Kd.int .i64) 3 w' w.heap.size (fun _ => True) az du) ∧ (b 9 = true → Kd.R Kd.string 9 w' w.heap.size (fun _ => True) av cm)) j.out ak.out gk_ gk_ ?_ ?_ ?_
    ·exact ⟨.bool false, .bool false, B24x22_, z.out, ae.out, HB.out, fun h_ => absurd h_ (by decide), fun h_ => absurd h_ (by decide)⟩
    ·skip
     clear z ae HB; refine steps_cons ?_ ?_
     ·rintro b a w' ⟨az, av, ha, ad, aG, Q_HB, aV, aW⟩ hb_ hon hoff; refine ⟨_, rfl, fun K hK => ?_⟩
      have hM : a.tmps[25]? = some (.pointer (some ⟨a2, 0, none⟩)) := by rw [ha]; exact (putSel_off rfl).trans rfl
      replace ha := am ha; have ae := am aG; have HB := am Q_HB
      have cO : w'.cell? ⟨a2, 0, none⟩ = some (.int .i64 ((rd_T83 q Y).f0)) := bc ae 0
      have cR : w'.cell? ⟨a2, 1, none⟩ = some (.int .i64 ((rd_T83 q Y).f1)) := bc ae 1
      have cS : w'.cell? ⟨a2, 2, none⟩ = some (.string ((rd_T83 q Y).f2)) := bc ae 2
      refine value_ (w1 := w') (v := .int .i64 ((rd_T83 q Y).f0)) (by rfl) rfl ?_ ?_
      ·go_simp; (try simp only [i64_w])
       try rfl
      refine hK.out _ _ ⟨az, av, B24x23_, ad, aG, Q_HB, fun aD => absurd ((hoff 5 gk_).symm.trans aD) (by decide), aW⟩
     refine steps_cons ?_ ?_
     ·rintro b a w' ⟨az, av, ha, ad, aG, Q_HB, aV, aW⟩ hb_ hon hoff; refine ⟨_, rfl, fun K hK => ?_⟩
      have hO : a.tmps[27]? = some (.pointer (some ⟨a2, 1, none⟩)) := by rw [ha]; exact (putSel_off rfl).trans rfl
      replace ha := am ha; have ae := am aG; have HB := am Q_HB
      have cO : w'.cell? ⟨a2, 0, none⟩ = some (.int .i64 ((rd_T83 q Y).f0)) := bc ae 0
      have cR : w'.cell? ⟨a2, 1, none⟩ = some (.int .i64 ((rd_T83 q Y).f1)) := bc ae 1
      have cS : w'.cell? ⟨a2, 2, none⟩ = some (.string ((rd_T83 q Y).f2)) := bc ae 2
      refine value_ (w1 := w') (v := .int .i64 ((rd_T83 q Y).f1)) (by rfl) rfl ?_ ?_
      ·go_simp; (try simp only [i64_w])
       try rfl
      refine hK.out _ _ ⟨az, av, B24x24_, ad, aG, Q_HB, fun aD => absurd ((hoff 5 gk_).symm.trans aD) (by decide), aW⟩
     refine steps_cons ?_ ?_
     ·rintro b a w' ⟨az, av, ha, ad, aG, Q_HB, aV, aW⟩ hb_ hon hoff; refine ⟨_, rfl, fun K hK => ?_⟩
      have hN : a.tmps[26]? = some (.int .i64 ((rd_T83 q Y).f0)) := by rw [ha]; exact putSel_on (e := (2, 26, .int .i64 ((rd_T83 q Y).f0))) 0 rfl rfl (hon 2 gk_) rfl
      have hP : a.tmps[28]? = some (.int .i64 ((rd_T83 q Y).f1)) := by rw [ha]; exact putSel_on (e := (4, 28, .int .i64 ((rd_T83 q Y).f1))) 1 rfl rfl (hon 4 gk_) rfl
      replace ha := am ha; have z := am ad; have ae := am aG; have HB := am Q_HB; refine lS (Kd.int .i64) 3 29 ([(rd_T83 q Y).f0, (rd_T83 q Y).f1] : List Int) [.int .i64 ((rd_T83 q Y).f0), .int .i64 ((rd_T83 q Y).f1)] (Reps.one (show Kd.M (Kd.int .i64) _ _ _ ((rd_T83 q Y).f0) [.int .i64 ((rd_T83 q Y).f0)] from rfl) (Reps.one (show Kd.M (Kd.int .i64) _ _ _ ((rd_T83 q Y).f1) [.int .i64 ((rd_T83 q Y).f1)] from rfl) (Reps.none _ _))) ?_; intro az eG bG hb
      (first | rw [← eZ.out] at bG | (simp only [Int.reduceToNat] at bG; rw [← eZ.out] at bG))
      have a4 := am (Kd.R_lower bG (below_size (Ae2 HB ag bu))); have a5 := bA z hb; have a6 := bA ae hb; have a7 := De2 HB ag bu hb
      have eJ := fun (aD : b 9 = true) => (show Kd.R Kd.string 9 eG w.heap.size (fun _ => True) av cm from B24x11_)
      clear z; clear ae; clear HB; have bl := a4; have z := a5; have ae := a6; have HB := a7; clear a4 a5 a6 a7; clear hb bG; refine hK.out _ _ ⟨az, av, B24x25_, (Ab z), (Ab ae), (Ae2 HB ag bu), fun _ => (Ar bl), eJ⟩
     refine steps_cons ?_ ?_
     ·rintro b a w' ⟨az, av, ha, ad, aG, Q_HB, aV, aW⟩ hb_ hon hoff; refine ⟨_, rfl, fun K hK => ?_⟩
      have ff : a.tmps[29]? = some (az) := by rw [ha]; exact putSel_on (e := (5, 29, az)) 2 rfl rfl (hon 5 gk_) rfl
      replace ha := am ha; have z := am ad; have ae := am aG; have HB := am Q_HB; have bl := am (aV (hon 5 gk_)); obtain ⟨eP, fb, fj⟩ := Kd.R_slice bl.out
      (first | subst fj | (injection fj with f1_ f2_ f3_; have f4_ := f1_.symm; have f5_ := f3_.symm; clear f1_ f2_ f3_; subst f4_; subst f5_))
      refine goes_ Try.func64 gk_ rfl #[.slice eP du.length fb] (by rfl) rfl rfl (by first | (simp only [List.map_toArray, List.map_cons, List.map_nil, Act.eval, Array.getD_eq_getD_getElem?, Option.getD_some, ff]; done) | (simp only [List.map_toArray, List.map_cons, List.map_nil, Act.eval, Array.getD_eq_getD_getElem?, Option.getD_some, ff]; rfl)) ?_
      with_reducible refine (impl_varTexts.calls k1 _ _ du aJ _ ?z1 ?z2 fD.out).mono ?_
      (case z1 => repeat (first | exact (Kd.R_reads' bl.out).2.2 | (with_reducible refine Kd.C_alloc ?_ _) | (with_reducible refine Kd.C_drewN ?_ _) | (with_reducible refine Kd.C_drew ?_)))
      (case z2 => exact (Kd.R_reads' bl.out).2.1)
      rintro e gZ ⟨rfl, hb⟩; refine ⟨_, rfl, ?_⟩; have a4 := rA bl hb; have a5 := bA z hb; have a6 := bA ae hb; have a7 := De2 HB ag bu hb
      have eJ := fun (aD : b 9 = true) => (show Kd.R Kd.string 9 gZ w.heap.size (fun _ => True) av cm from B24x11_)
      clear bl; clear z; clear ae; clear HB; have bl := a4; have z := a5; have ae := a6; have HB := a7; clear a4 a5 a6 a7; refine hK.out _ _ ⟨.slice eP du.length fb, av, B24x26_, (Ab z), (Ab ae), (Ae2 HB ag bu), fun _ => (Ar bl), eJ⟩
     refine steps_cons ?_ ?_
     ·rintro b a w' ⟨az, av, ha, ad, aG, Q_HB, aV, aW⟩ hb_ hon hoff; refine ⟨_, rfl, fun K hK => ?_⟩
      have hR : a.tmps[31]? = some (.pointer (some ⟨a2, 2, none⟩)) := by rw [ha]; exact (putSel_off rfl).trans rfl
      replace ha := am ha; have ae := am aG; have HB := am Q_HB
      have cO : w'.cell? ⟨a2, 0, none⟩ = some (.int .i64 ((rd_T83 q Y).f0)) := bc ae 0
      have cR : w'.cell? ⟨a2, 1, none⟩ = some (.int .i64 ((rd_T83 q Y).f1)) := bc ae 1
      have cS : w'.cell? ⟨a2, 2, none⟩ = some (.string ((rd_T83 q Y).f2)) := bc ae 2
      refine value_ (w1 := w') (v := .string ((rd_T83 q Y).f2)) (by rfl) rfl ?_ ?_
      ·go_simp; (try simp only [i64_w])
       try rfl
      refine hK.out _ _ ⟨az, av, B24x27_, ad, aG, Q_HB, aV, fun aD => absurd ((hoff 9 gk_).symm.trans aD) (by decide)⟩
     refine steps_cons ?_ ?_
     ·rintro b a w' ⟨az, av, ha, ad, aG, Q_HB, aV, aW⟩ hb_ hon hoff; refine ⟨_, rfl, fun K hK => ?_⟩
      have hS : a.tmps[32]? = some (.string ((rd_T83 q Y).f2)) := by rw [ha]; exact putSel_on (e := (8, 32, .string ((rd_T83 q Y).f2))) 4 rfl rfl (hon 8 gk_) rfl
      replace ha := am ha; have z := am ad; have ae := am aG; have HB := am Q_HB; refine lS Kd.string 9 33 ([(rd_T83 q Y).f2] : List ByteArray) [.string ((rd_T83 q Y).f2)] (Reps.one (show Kd.M Kd.string _ _ _ ((rd_T83 q Y).f2) [.string ((rd_T83 q Y).f2)] from rfl) (Reps.none _ _)) ?_; intro av eG bG hb
      (first | rw [← e0.out] at bG | (simp only [Int.reduceToNat] at bG; rw [← e0.out] at bG))
      have a4 := am (Kd.R_lower bG (below_size (Ae2 HB ag bu))); have a5 := bA z hb; have a6 := bA ae hb; have a7 := De2 HB ag bu hb
      have g7 := fun (aD : b 5 = true) => (show Kd.R (Kd.int .i64) 3 eG w.heap.size (fun _ => True) az du from (by first | exact (Kd.R_below (tr (aV aD)) hb) | exact Kd.R_mono (Kd.R_below (tr (aV aD)) hb) (fun _ h_ => by first | trivial | exact h_ | exact h_.1)))
      clear z; clear ae; clear HB; have bQ := a4; have z := a5; have ae := a6; have HB := a7; clear a4 a5 a6 a7; clear hb bG; refine hK.out _ _ ⟨az, av, B24x28_, (Ab z), (Ab ae), (Ae2 HB ag bu), g7, fun _ => (Ar bQ)⟩
     refine steps_cons ?_ ?_
     ·rintro b a w' ⟨az, av, ha, ad, aG, Q_HB, aV, aW⟩ hb_ hon hoff; refine ⟨_, rfl, fun K hK => ?_⟩
      have fg : a.tmps[33]? = some (av) := by rw [ha]; exact putSel_on (e := (9, 33, av)) 5 rfl rfl (hon 9 gk_) rfl
      replace ha := am ha; have z := am ad; have ae := am aG; have HB := am Q_HB; have bl := am (aV (hon 5 gk_)); have bQ := am (aW (hon 9 gk_)); obtain ⟨eQ, fc, fk⟩ := Kd.R_slice bQ.out
      (first | subst fk | (injection fk with f1_ f2_ f3_; have f4_ := f1_.symm; have f5_ := f3_.symm; clear f1_ f2_ f3_; subst f4_; subst f5_))
      refine goes_ Try.func65 gk_ rfl #[.slice eQ cm.length fc] (by rfl) rfl rfl (by first | (simp only [List.map_toArray, List.map_cons, List.map_nil, Act.eval, Array.getD_eq_getD_getElem?, Option.getD_some, fg]; done) | (simp only [List.map_toArray, List.map_cons, List.map_nil, Act.eval, Array.getD_eq_getD_getElem?, Option.getD_some, fg]; rfl)) ?_
      with_reducible refine (impl_shortTexts.calls k1 _ _ cm aK _ ?z1 ?z2 fE.out).mono ?_
      (case z1 => repeat (first | exact (Kd.R_reads' bQ.out).2.2 | (with_reducible refine Kd.C_alloc ?_ _) | (with_reducible refine Kd.C_drewN ?_ _) | (with_reducible refine Kd.C_drew ?_)))
      (case z2 => exact (Kd.R_reads' bQ.out).2.1)
      rintro e fw ⟨rfl, hb⟩; refine ⟨_, rfl, ?_⟩; replace bl := rA bl hb; replace bQ := rA bQ hb; replace z := bA z hb; replace ae := bA ae hb; replace HB := De2 HB ag bu hb; refine hK.out _ _ ⟨az, .slice eQ cm.length fc, B24x29_, (Ab z), (Ab ae), (Ae2 HB ag bu), fun _ => (Ar bl), fun _ => (Ar bQ)⟩
     refine steps_cons ?_ ?_
     ·rintro b a w' ⟨az, av, ha, ad, aG, Q_HB, aV, aW⟩ hb_ hon hoff; refine ⟨_, rfl, fun K hK => ?_⟩
      have hQ : a.tmps[30]? = some (.string aJ) := by rw [ha]; exact putSel_on (e := (6, 30, .string aJ)) 3 rfl rfl (hon 6 gk_) rfl
      have hT : a.tmps[34]? = some (.string aK) := by rw [ha]; exact putSel_on (e := (10, 34, .string aK)) 6 rfl rfl (hon 10 gk_) rfl
      replace ha := am ha; have HB := am Q_HB; refine value_ (w1 := w') (v := .string (aJ ++ aK)) (by rfl) rfl ?_ ?_
      ·go_simp; (try simp only [i64_w])
       try rfl
      refine hK.out _ _ ⟨az, av, B24x30_, ad, aG, Q_HB, aV, aW⟩
     refine steps_cons ?_ ?_
     ·rintro b a w' ⟨az, av, ha, ad, aG, Q_HB, aV, aW⟩ hb_ hon hoff; refine ⟨_, rfl, fun K hK => ?_⟩
      have hL : a.tmps[24]? = some (.string aI) := by rw [ha]; exact (putSel_off rfl).trans rfl
      have hU : a.tmps[35]? = some (.string (aJ ++ aK)) := by rw [ha]; exact putSel_on (e := (11, 35, .string (aJ ++ aK))) 7 rfl rfl (hon 11 gk_) rfl
      replace ha := am ha; have HB := am Q_HB; refine value_ (w1 := w') (v := .string (aI ++ (aJ ++ aK))) (by rfl) rfl ?_ ?_
      ·go_simp; (try simp only [i64_w])
       try rfl
      refine hK.out _ _ ⟨az, av, B24x31_, ad, aG, Q_HB, aV, aW⟩
     refine steps_cons ?_ ?_
     ·rintro b a w' ⟨az, av, ha, ad, aG, Q_HB, aV, aW⟩ hb_ hon hoff; refine ⟨_, rfl, fun K hK => ?_⟩
      have hV : a.tmps[36]? = some (.string (aI ++ (aJ ++ aK))) := by rw [ha]; exact putSel_on (e := (12, 36, .string (aI ++ (aJ ++ aK)))) 8 rfl rfl (hon 12 gk_) rfl
      replace ha := am ha; have HB := am Q_HB; refine value_ (w1 := w') (v := .string (aI ++ (aJ ++ aK))) (by rfl) rfl ?_ ?_
      ·go_simp; (try simp only [i64_w])
       try rfl
      refine hK.out _ _ ⟨az, av, B24x32_, ad, aG, Q_HB, aV, aW⟩
     exact steps_nil
    rintro b a fw hall ⟨az, av, ha, ad, aG, Q_HB, aV, aW⟩; clear z ae HB; have cH := hall 2 gk_; have cI := hall 4 gk_; have cJ := hall 5 gk_; have cK := hall 6 gk_; have cL := hall 8 gk_; have cM := hall 9 gk_; have cD := hall 10 gk_; have cE := hall 11 gk_; have cF := hall 12 gk_; have cG := hall 13 gk_; subst ha; simp only [putSel, cH, cI, cJ, cK, cL, cM, cD, cE, cF, cG, if_true, Act.put, List.setIfInBounds_toArray, List.set_cons_zero, List.set_cons_succ]; have z := am ad; clear ad; clear aG; have HB := am Q_HB; clear Q_HB; clear aV; clear aW; clear hall cH cI cJ cK cL cM cD cE cF cG
    try go_wp2
    go_roundg k1
    case measure => have := aT.out; omega
    case rel => exact ⟨(aI ++ (aJ ++ aK)), (wrap64 (Y + 1)), be_, be_, bn, ⟨(by have := aT.out; omega)⟩, Cb z, Ce2 HB ag bu⟩
   obtain ⟨fC, dm⟩ : ∃ y_ : List Int, y_ = (([(l.length : Int)] : List Int)) := ⟨_, rfl⟩
   (first | with_reducible replace aj := hq dm aj | rw [← dm] at aj | simp only [← dm] at aj)
   have e1 := am dm; clear dm; obtain ⟨ck, fF, bD⟩ := bsi aj; (try dsimp only at bD); obtain ⟨dN, bi⟩ := yn bD; have f5 := eq_true dN; have f6 := decide_eq_true dN
   try have fa : (9223372036854775807 < aI.size + ck.size) = False := eq_false (Nat.not_lt.2 dN)
   try (have f7 := fa; simp only [ByteArray.size_append] at f7)
   replace bi := am bi; clear ao aj bD; obtain ⟨dz, dB, dF, dG⟩ := cf2 z
   go_wp2_with (first | ((with_reducible refine gate_dst (N := 42) rfl ?_); refine lL (Kd.int .i64) 3 42 ([(l.length : Int)] : List Int) [.int .i64 (l.length : Int)] (Reps.one (show Kd.M (Kd.int .i64) _ _ _ (l.length : Int) [.int .i64 (l.length : Int)] from rfl) (Reps.none _ _)) ?_; intro iB iH cU hb; (first | rw [← e1.out] at cU | (simp only [Int.reduceToNat] at cU; rw [← e1.out] at cU)); have cq := am (Kd.R_lower cU (below_size (Ae1 HB ag))); replace z := bA z hb; replace HB := De1 HB ag hb; clear hb cU; obtain ⟨fI, gv, gG⟩ := Kd.R_slice cq.out; subst gG) | ((with_reducible refine gate_callee (f := 64) rfl ?_); refine gL (some 43) Try.func64 #[.slice fI fC.length gv] ?_; (with_reducible refine (impl_varTexts.calls k1 _ _ fC ck _ ?z1 ?z2 fF.out).mono ?_); (case z1 => repeat (first | exact (Kd.R_reads' cq.out).2.2 | (with_reducible refine Kd.C_alloc ?_ _) | (with_reducible refine Kd.C_drewN ?_ _) | (with_reducible refine Kd.C_drew ?_))); (case z2 => exact (Kd.R_reads' cq.out).2.1); rintro e cl ⟨rfl, hb⟩; refine ⟨_, rfl, ?_⟩; replace cq := rA cq hb; replace z := bA z hb; replace HB := De1 HB ag hb; obtain ⟨dz, dB, dF, dG⟩ := cf2 z))
   go_loopg [4, 48] k1 (fun kq v4 gV w' => ∃ (a8 : ByteArray) (Z : Int), v4 = .string a8 ∧ gV = .int .i64 Z ∧ Aside0 (impl_KeepText.l1 kq a8 l (l.length : Int) Z = some (r1, r2)) ∧ Aside0 (kq ≤ k1) ∧ Aside0 (w'.heap[b3]? = some (.cells #[(.slice aR q.length ax), (.slice a1 l.length ay)] 47 (0, 0))) ∧ Aside0 (Below w.heap.size w w'))
   case atStart => exact ⟨(aI ++ ck), 0, be_, be_, bi, ⟨Nat.le_refl _⟩, Cb z, Ce1 HB ag⟩
   case round =>
    clear bi
    try clear c3
    try clear hf
    try clear e9
    try clear dN
    try clear f5
    try clear f6
    try clear fa
    obtain ⟨a8, Z, rfl, rfl, bw, ca, z, HB⟩ := hrel
    cases gk with
    | zero => exact absurd bw.out (by simp [impl_KeepText.l1])
    | succ k2 => ?_
    replace bw := bw.out; simp only [impl_KeepText.l1] at bw
    obtain ⟨ga, bN⟩ | ⟨ga, bN⟩ := sd bw
    ·obtain ⟨hz, bP⟩ := yd bN; obtain ⟨hB, ba⟩ := yd bP; obtain ⟨dv, dn⟩ : ∃ y_ : List ByteArray, y_ = (([(rd_T81 l Z).f0, (rd_T81 l Z).f1] : List ByteArray)) := ⟨_, rfl⟩
     (first | with_reducible replace ba := hq dn ba | rw [← dn] at ba | simp only [← dn] at ba)
     have e2 := am dn; clear dn; obtain ⟨aM, bY, bj⟩ := bsi ba; (try dsimp only at bj); obtain ⟨cn, dp⟩ : ∃ y_ : List Int, y_ = (([(rd_T81 l Z).f2] : List Int)) := ⟨_, rfl⟩
     (first | with_reducible replace bj := hq dp bj | rw [← dp] at bj | simp only [← dp] at bj)
     have e3 := am dp; clear dp; obtain ⟨aN, fG, cd⟩ := bsi bj; (try dsimp only at cd); obtain ⟨eb, bk⟩ := yn cd; have hC := eq_true eb; have hD := decide_eq_true eb
     try have gb : (9223372036854775807 < aM.size + aN.size) = False := eq_false (Nat.not_lt.2 eb)
     try (have gg := gb; simp only [ByteArray.size_append] at gg)
     obtain ⟨dO, bE⟩ := yn bk; have hE := eq_true dO; have hF := decide_eq_true dO
     try have gh : (9223372036854775807 < a8.size + (aM ++ aN).size) = False := eq_false (Nat.not_lt.2 dO)
     try have hG : (9223372036854775807 < a8.size + aM.size + aN.size) = False := eq_false (by have h_ := dO; simp only [ByteArray.size_append, ByteArray.size_extract, decide_eq_true_eq, decide_eq_false_iff_not] at *; omega)
     try (have gi := gh; simp only [ByteArray.size_append] at gi)
     replace bE := am bE; clear bw bN bP ba bj cd bk
     have ew : 0 ≤ (Z : Int) := dga
     have eD : Z < (l.length : Int) := dga
     obtain ⟨e5, gE, en, eo, ep⟩ := at_T81 cc.out Z ew eD; cases gE; replace en := (hbc HB en).trans en; replace eo := (hbc HB eo).trans eo; replace ep := (hbc HB ep).trans ep; replace ew := eq_true ew; replace eD := eq_true eD
     try go_wp2_with (first | ((with_reducible refine gate_dst (N := 8) rfl ?_); refine bx (N := 8) (cs := #[.string (⟨#[]⟩ : ByteArray), .string (⟨#[]⟩ : ByteArray), .int .i64 0]) (t := 81) ?_; intro a3 hg g0 hbox hb; have af := am hbox; have bv := gA hg HB; replace HB := De1 HB ag hb; have eW := nA hg z; have fR := mA hg z; replace z := bA z hb; clear hb hbox hg; have ij := fR.out; have iv := eW.out; obtain ⟨iV, iW, iX, i4, i5, i6⟩ := cf3 af))
     generalize hw : (((g0.setCell ⟨a3, 0, none⟩ (.string ((rd_T81 l Z).f0))).setCell ⟨a3, 1, none⟩ (.string ((rd_T81 l Z).f1))).setCell ⟨a3, 2, none⟩ (.int .i64 ((rd_T81 l Z).f2))) = dX; replace hw := hw.symm
     replace z : Hc dX b3 #[.slice aR q.length ax, .slice (some e5) l.length ay] 47 := ⟨wAp1 z eW⟩
     replace af : Hc dX a3 #[.string ((rd_T81 l Z).f0), .string ((rd_T81 l Z).f1), .int .i64 ((rd_T81 l Z).f2)] 81 := ⟨wAp0 af⟩
     replace HB : Hb w dX := ⟨wAe2 HB ag bv⟩
     clear hw; replace z := dA z; replace af := dA af; replace HB := bdr HB; refine st_ 14 (fun w' => True) [] impl_KeepText.tab13 impl_KeepText.bits13 trivial (fun U j ak => ?_); generalize dX.drew = dr at z af HB U ⊢; refine pu_ 0 52 j ?_; refine pu_ 1 53 j ?_; refine pu_ 3 55 j ?_; refine pu_ 7 59 j ?_; refine inv_at [2, 4, 5, 6, 8, 9, 10, 11, 12, 13] (fun d8 b a w' => ∃ (aA : Value) (aw : Value), a = putSel d8 b [(2, 54, .string ((rd_T81 l Z).f0)), (4, 56, .string ((rd_T81 l Z).f1)), (5, 57, aA), (6, 58, .string aM), (8, 60, .int .i64 ((rd_T81 l Z).f2)), (9, 61, aw), (10, 62, .string aN), (11, 63, .string (aM ++ aN)), (12, 64, .string (a8 ++ (aM ++ aN))), (13, 4, .string (a8 ++ (aM ++ aN)))] ∧ (w'.heap[b3]? = some (.cells #[.slice aR q.length ax, .slice (some e5) l.length ay] 47 (0, 0))) ∧ (w'.heap[a3]? = some (.cells #[.string ((rd_T81 l Z).f0), .string ((rd_T81 l Z).f1), .int .i64 ((rd_T81 l Z).f2)] 81 (0, 0))) ∧ (Below w.heap.size w w') ∧ (b 5 = true → Kd.R Kd.string 9 w' w.heap.size (fun _ => True) aA dv) ∧ (b 9 = true → Kd.R (Kd.int .i64) 3 w' w.heap.size (fun _ => True) aw cn)) j.out ak.out gk_ gk_ ?_ ?_ ?_
     ·exact ⟨.bool false, .bool false, B24x22_, z.out, af.out, HB.out, fun h_ => absurd h_ (by decide), fun h_ => absurd h_ (by decide)⟩
     ·skip
      clear z af HB; refine steps_cons ?_ ?_
      ·rintro b a w' ⟨aA, aw, ha, ad, aH, Q_HB, aX, aY⟩ hb_ hon hoff; refine ⟨_, rfl, fun K hK => ?_⟩
       have hX : a.tmps[53]? = some (.pointer (some ⟨a3, 0, none⟩)) := by rw [ha]; exact (putSel_off rfl).trans rfl
       replace ha := am ha; have af := am aH; have HB := am Q_HB
       have cO : w'.cell? ⟨a3, 0, none⟩ = some (.string ((rd_T81 l Z).f0)) := bc af 0
       have cR : w'.cell? ⟨a3, 1, none⟩ = some (.string ((rd_T81 l Z).f1)) := bc af 1
       have cS : w'.cell? ⟨a3, 2, none⟩ = some (.int .i64 ((rd_T81 l Z).f2)) := bc af 2
       refine value_ (w1 := w') (v := .string ((rd_T81 l Z).f0)) (by rfl) rfl ?_ ?_
       ·go_simp; (try simp only [i64_w])
        try rfl
       refine hK.out _ _ ⟨aA, aw, B24x23_, ad, aH, Q_HB, fun aD => absurd ((hoff 5 gk_).symm.trans aD) (by decide), aY⟩
      refine steps_cons ?_ ?_
      ·rintro b a w' ⟨aA, aw, ha, ad, aH, Q_HB, aX, aY⟩ hb_ hon hoff; refine ⟨_, rfl, fun K hK => ?_⟩
       have hZ : a.tmps[55]? = some (.pointer (some ⟨a3, 1, none⟩)) := by rw [ha]; exact (putSel_off rfl).trans rfl
       replace ha := am ha; have af := am aH; have HB := am Q_HB
       have cO : w'.cell? ⟨a3, 0, none⟩ = some (.string ((rd_T81 l Z).f0)) := bc af 0
       have cR : w'.cell? ⟨a3, 1, none⟩ = some (.string ((rd_T81 l Z).f1)) := bc af 1
       have cS : w'.cell? ⟨a3, 2, none⟩ = some (.int .i64 ((rd_T81 l Z).f2)) := bc af 2
       refine value_ (w1 := w') (v := .string ((rd_T81 l Z).f1)) (by rfl) rfl ?_ ?_
       ·go_simp; (try simp only [i64_w])
        try rfl
       refine hK.out _ _ ⟨aA, aw, B24x24_, ad, aH, Q_HB, fun aD => absurd ((hoff 5 gk_).symm.trans aD) (by decide), aY⟩
      refine steps_cons ?_ ?_
      ·rintro b a w' ⟨aA, aw, ha, ad, aH, Q_HB, aX, aY⟩ hb_ hon hoff; refine ⟨_, rfl, fun K hK => ?_⟩
       have hY : a.tmps[54]? = some (.string ((rd_T81 l Z).f0)) := by rw [ha]; exact putSel_on (e := (2, 54, .string ((rd_T81 l Z).f0))) 0 rfl rfl (hon 2 gk_) rfl
       have h0 : a.tmps[56]? = some (.string ((rd_T81 l Z).f1)) := by rw [ha]; exact putSel_on (e := (4, 56, .string ((rd_T81 l Z).f1))) 1 rfl rfl (hon 4 gk_) rfl
       replace ha := am ha; have z := am ad; have af := am aH; have HB := am Q_HB; refine lS Kd.string 9 57 ([(rd_T81 l Z).f0, (rd_T81 l Z).f1] : List ByteArray) [.string ((rd_T81 l Z).f0), .string ((rd_T81 l Z).f1)] (Reps.one (show Kd.M Kd.string _ _ _ ((rd_T81 l Z).f0) [.string ((rd_T81 l Z).f0)] from rfl) (Reps.one (show Kd.M Kd.string _ _ _ ((rd_T81 l Z).f1) [.string ((rd_T81 l Z).f1)] from rfl) (Reps.none _ _))) ?_; intro aA dY bH hb
       (first | rw [← e2.out] at bH | (simp only [Int.reduceToNat] at bH; rw [← e2.out] at bH))
       have a4 := am (Kd.R_lower bH (below_size (Ae2 HB ag bv))); have a5 := bA z hb; have a6 := bA af hb; have a7 := De2 HB ag bv hb
       have eK := fun (aD : b 9 = true) => (show Kd.R (Kd.int .i64) 3 dY w.heap.size (fun _ => True) aw cn from B24x12_)
       clear z; clear af; clear HB; have bm := a4; have z := a5; have af := a6; have HB := a7; clear a4 a5 a6 a7; clear hb bH; refine hK.out _ _ ⟨aA, aw, B24x25_, (Ab z), (Ab af), (Ae2 HB ag bv), fun _ => (Ar bm), eK⟩
      refine steps_cons ?_ ?_
      ·rintro b a w' ⟨aA, aw, ha, ad, aH, Q_HB, aX, aY⟩ hb_ hon hoff; refine ⟨_, rfl, fun K hK => ?_⟩
       have fh : a.tmps[57]? = some (aA) := by rw [ha]; exact putSel_on (e := (5, 57, aA)) 2 rfl rfl (hon 5 gk_) rfl
       replace ha := am ha; have z := am ad; have af := am aH; have HB := am Q_HB; have bm := am (aX (hon 5 gk_)); obtain ⟨eR, fd, fl⟩ := Kd.R_slice bm.out
       (first | subst fl | (injection fl with f1_ f2_ f3_; have f4_ := f1_.symm; have f5_ := f3_.symm; clear f1_ f2_ f3_; subst f4_; subst f5_))
       refine goes_ Try.func65 gk_ rfl #[.slice eR dv.length fd] (by rfl) rfl rfl (by first | (simp only [List.map_toArray, List.map_cons, List.map_nil, Act.eval, Array.getD_eq_getD_getElem?, Option.getD_some, fh]; done) | (simp only [List.map_toArray, List.map_cons, List.map_nil, Act.eval, Array.getD_eq_getD_getElem?, Option.getD_some, fh]; rfl)) ?_
       with_reducible refine (impl_shortTexts.calls k2 _ _ dv aM _ ?z1 ?z2 bY.out).mono ?_
       (case z1 => repeat (first | exact (Kd.R_reads' bm.out).2.2 | (with_reducible refine Kd.C_alloc ?_ _) | (with_reducible refine Kd.C_drewN ?_ _) | (with_reducible refine Kd.C_drew ?_)))
       (case z2 => exact (Kd.R_reads' bm.out).2.1)
       rintro e fx ⟨rfl, hb⟩; refine ⟨_, rfl, ?_⟩; have a4 := rA bm hb; have a5 := bA z hb; have a6 := bA af hb; have a7 := De2 HB ag bv hb
       have eK := fun (aD : b 9 = true) => (show Kd.R (Kd.int .i64) 3 fx w.heap.size (fun _ => True) aw cn from B24x12_)
       clear bm; clear z; clear af; clear HB; have bm := a4; have z := a5; have af := a6; have HB := a7; clear a4 a5 a6 a7; refine hK.out _ _ ⟨.slice eR dv.length fd, aw, B24x26_, (Ab z), (Ab af), (Ae2 HB ag bv), fun _ => (Ar bm), eK⟩
      refine steps_cons ?_ ?_
      ·rintro b a w' ⟨aA, aw, ha, ad, aH, Q_HB, aX, aY⟩ hb_ hon hoff; refine ⟨_, rfl, fun K hK => ?_⟩
       have h2 : a.tmps[59]? = some (.pointer (some ⟨a3, 2, none⟩)) := by rw [ha]; exact (putSel_off rfl).trans rfl
       replace ha := am ha; have af := am aH; have HB := am Q_HB
       have cO : w'.cell? ⟨a3, 0, none⟩ = some (.string ((rd_T81 l Z).f0)) := bc af 0
       have cR : w'.cell? ⟨a3, 1, none⟩ = some (.string ((rd_T81 l Z).f1)) := bc af 1
       have cS : w'.cell? ⟨a3, 2, none⟩ = some (.int .i64 ((rd_T81 l Z).f2)) := bc af 2
       refine value_ (w1 := w') (v := .int .i64 ((rd_T81 l Z).f2)) (by rfl) rfl ?_ ?_
       ·go_simp; (try simp only [i64_w])
        try rfl
       refine hK.out _ _ ⟨aA, aw, B24x27_, ad, aH, Q_HB, aX, fun aD => absurd ((hoff 9 gk_).symm.trans aD) (by decide)⟩
      refine steps_cons ?_ ?_
      ·rintro b a w' ⟨aA, aw, ha, ad, aH, Q_HB, aX, aY⟩ hb_ hon hoff; refine ⟨_, rfl, fun K hK => ?_⟩
       have h3 : a.tmps[60]? = some (.int .i64 ((rd_T81 l Z).f2)) := by rw [ha]; exact putSel_on (e := (8, 60, .int .i64 ((rd_T81 l Z).f2))) 4 rfl rfl (hon 8 gk_) rfl
       replace ha := am ha; have z := am ad; have af := am aH; have HB := am Q_HB; refine lS (Kd.int .i64) 3 61 ([(rd_T81 l Z).f2] : List Int) [.int .i64 ((rd_T81 l Z).f2)] (Reps.one (show Kd.M (Kd.int .i64) _ _ _ ((rd_T81 l Z).f2) [.int .i64 ((rd_T81 l Z).f2)] from rfl) (Reps.none _ _)) ?_; intro aw dY bH hb
       (first | rw [← e3.out] at bH | (simp only [Int.reduceToNat] at bH; rw [← e3.out] at bH))
       have a4 := am (Kd.R_lower bH (below_size (Ae2 HB ag bv))); have a5 := bA z hb; have a6 := bA af hb; have a7 := De2 HB ag bv hb
       have g8 := fun (aD : b 5 = true) => (show Kd.R Kd.string 9 dY w.heap.size (fun _ => True) aA dv from (by first | exact (Kd.R_below (tr (aX aD)) hb) | exact Kd.R_mono (Kd.R_below (tr (aX aD)) hb) (fun _ h_ => by first | trivial | exact h_ | exact h_.1)))
       clear z; clear af; clear HB; have bR := a4; have z := a5; have af := a6; have HB := a7; clear a4 a5 a6 a7; clear hb bH; refine hK.out _ _ ⟨aA, aw, B24x28_, (Ab z), (Ab af), (Ae2 HB ag bv), g8, fun _ => (Ar bR)⟩
      refine steps_cons ?_ ?_
      ·rintro b a w' ⟨aA, aw, ha, ad, aH, Q_HB, aX, aY⟩ hb_ hon hoff; refine ⟨_, rfl, fun K hK => ?_⟩
       have fi : a.tmps[61]? = some (aw) := by rw [ha]; exact putSel_on (e := (9, 61, aw)) 5 rfl rfl (hon 9 gk_) rfl
       replace ha := am ha; have z := am ad; have af := am aH; have HB := am Q_HB; have bm := am (aX (hon 5 gk_)); have bR := am (aY (hon 9 gk_)); obtain ⟨eS, fe, fm⟩ := Kd.R_slice bR.out
       (first | subst fm | (injection fm with f1_ f2_ f3_; have f4_ := f1_.symm; have f5_ := f3_.symm; clear f1_ f2_ f3_; subst f4_; subst f5_))
       refine goes_ Try.func64 gk_ rfl #[.slice eS cn.length fe] (by rfl) rfl rfl (by first | (simp only [List.map_toArray, List.map_cons, List.map_nil, Act.eval, Array.getD_eq_getD_getElem?, Option.getD_some, fi]; done) | (simp only [List.map_toArray, List.map_cons, List.map_nil, Act.eval, Array.getD_eq_getD_getElem?, Option.getD_some, fi]; rfl)) ?_
       with_reducible refine (impl_varTexts.calls k2 _ _ cn aN _ ?z1 ?z2 fG.out).mono ?_
       (case z1 => repeat (first | exact (Kd.R_reads' bR.out).2.2 | (with_reducible refine Kd.C_alloc ?_ _) | (with_reducible refine Kd.C_drewN ?_ _) | (with_reducible refine Kd.C_drew ?_)))
       (case z2 => exact (Kd.R_reads' bR.out).2.1)
       rintro e fy ⟨rfl, hb⟩; refine ⟨_, rfl, ?_⟩; replace bm := rA bm hb; replace bR := rA bR hb; replace z := bA z hb; replace af := bA af hb; replace HB := De2 HB ag bv hb; refine hK.out _ _ ⟨aA, .slice eS cn.length fe, B24x29_, (Ab z), (Ab af), (Ae2 HB ag bv), fun _ => (Ar bm), fun _ => (Ar bR)⟩
      refine steps_cons ?_ ?_
      ·rintro b a w' ⟨aA, aw, ha, ad, aH, Q_HB, aX, aY⟩ hb_ hon hoff; refine ⟨_, rfl, fun K hK => ?_⟩
       have h1 : a.tmps[58]? = some (.string aM) := by rw [ha]; exact putSel_on (e := (6, 58, .string aM)) 3 rfl rfl (hon 6 gk_) rfl
       have h4 : a.tmps[62]? = some (.string aN) := by rw [ha]; exact putSel_on (e := (10, 62, .string aN)) 6 rfl rfl (hon 10 gk_) rfl
       replace ha := am ha; have HB := am Q_HB; refine value_ (w1 := w') (v := .string (aM ++ aN)) (by rfl) rfl ?_ ?_
       ·go_simp; (try simp only [i64_w])
        try rfl
       refine hK.out _ _ ⟨aA, aw, B24x30_, ad, aH, Q_HB, aX, aY⟩
      refine steps_cons ?_ ?_
      ·rintro b a w' ⟨aA, aw, ha, ad, aH, Q_HB, aX, aY⟩ hb_ hon hoff; refine ⟨_, rfl, fun K hK => ?_⟩
       have hW : a.tmps[52]? = some (.string a8) := by rw [ha]; exact (putSel_off rfl).trans rfl
       have h5 : a.tmps[63]? = some (.string (aM ++ aN)) := by rw [ha]; exact putSel_on (e := (11, 63, .string (aM ++ aN))) 7 rfl rfl (hon 11 gk_) rfl
       replace ha := am ha; have HB := am Q_HB; refine value_ (w1 := w') (v := .string (a8 ++ (aM ++ aN))) (by rfl) rfl ?_ ?_
       ·go_simp; (try simp only [i64_w])
        try rfl
       refine hK.out _ _ ⟨aA, aw, B24x31_, ad, aH, Q_HB, aX, aY⟩
      refine steps_cons ?_ ?_
      ·rintro b a w' ⟨aA, aw, ha, ad, aH, Q_HB, aX, aY⟩ hb_ hon hoff; refine ⟨_, rfl, fun K hK => ?_⟩
       have h6 : a.tmps[64]? = some (.string (a8 ++ (aM ++ aN))) := by rw [ha]; exact putSel_on (e := (12, 64, .string (a8 ++ (aM ++ aN)))) 8 rfl rfl (hon 12 gk_) rfl
       replace ha := am ha; have HB := am Q_HB; refine value_ (w1 := w') (v := .string (a8 ++ (aM ++ aN))) (by rfl) rfl ?_ ?_
       ·go_simp; (try simp only [i64_w])
        try rfl
       refine hK.out _ _ ⟨aA, aw, B24x32_, ad, aH, Q_HB, aX, aY⟩
      exact steps_nil
     rintro b a fy hall ⟨aA, aw, ha, ad, aH, Q_HB, aX, aY⟩; clear z af HB; have cH := hall 2 gk_; have cI := hall 4 gk_; have cJ := hall 5 gk_; have cK := hall 6 gk_; have cL := hall 8 gk_; have cM := hall 9 gk_; have cD := hall 10 gk_; have cE := hall 11 gk_; have cF := hall 12 gk_; have cG := hall 13 gk_; subst ha; simp only [putSel, cH, cI, cJ, cK, cL, cM, cD, cE, cF, cG, if_true, Act.put, List.setIfInBounds_toArray, List.set_cons_zero, List.set_cons_succ]; have z := am ad; clear ad; clear aH; have HB := am Q_HB; clear Q_HB; clear aX; clear aY; clear hall cH cI cJ cK cL cM cD cE cF cG
     try go_wp2
     go_roundg k2
     case measure => have := aT.out; have := ca.out; omega
     case rel => exact ⟨(a8 ++ (aM ++ aN)), (wrap64 (Z + 1)), be_, be_, bE, ⟨(by have := aT.out; have := ca.out; omega)⟩, Cb z, Ce2 HB ag bv⟩
    obtain ⟨cA, bd⟩ | ⟨cA, bd⟩ := sp bN
    ·have gn : decide (20000 < (a8.size : Int)) = true := decide_eq_true cA
     have gp : decide (20000 < a8.size) = true := decide_eq_true (by omega)
     clear cA; obtain ⟨rfl, rfl⟩ := s2 bd; clear bd bw bN
     go_wp2
     go_ret2
     exact ⟨B22x12_, (Ae1 HB ag)⟩
    have gn : decide (20000 < (a8.size : Int)) = false := decide_eq_false cA
    have gp : decide (20000 < a8.size) = false := decide_eq_false (by omega)
    clear cA; obtain ⟨rfl, rfl⟩ := s2 bd; clear bd bw bN
    go_wp2
    go_ret2
    exact ⟨B22x12_, (Ae1 HB ag)⟩
 obtain ⟨rfl, rfl⟩ := s2 ac
 clear ac al ah
 go_enter Try.func26, Try.ntmps26
 go_wp2_with (first | ((with_reducible refine gate_dst (N := 1) rfl ?_); refine bx (N := 1) (cs := #[.slice aR q.length ax, .slice a1 l.length ay]) (t := 47) ?_; intro b3 hg iK hbox hb; have z := am hbox; have ag := gA hg HB; replace HB := hA HB hb; clear hb hbox hg; obtain ⟨dz, dB, dF, dG⟩ := cf2 z) | ((with_reducible refine gate_callee (f := 63) rfl ?_); refine gM (some 10) Try.func63 (impl_KeepOk.calls k _ _ q _ _ l false _ (tc (Kd.C_below bZ.out HB.out)) d4.out (tc (Kd.C_below cc.out HB.out)) d5.out A2.out) ?_; rintro iL hb; replace z := bA z hb; replace HB := De1 HB ag hb))
 go_ret2
 exact ⟨B22x12_, (Ae1 HB ag)⟩
end
end Go.Proofs.Ytgffdijodnpolaa.QFnKeepTexts
