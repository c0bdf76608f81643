/- Functions that a law reaches, as functions of Lean, and the walks that show that the calls come to their answers. No condition. -/
import Derived.Test.YtjaamflffmhicaaQFnExactUnwrapx0
import Derived.Test.YtjaamflffmhicaaQFnExactUnwrapx5
import Derived.Test.YtjaamflffmhicaaQFnExactUnwrapx6
import Derived.Test.YtjaamflffmhicaaQFnExactUnwrapx7
import Derived.Test.YtjaamflffmhicaaQFnExactUnwrapx8
import Derived.Test.YtjaamflffmhicaaVFnExactUnwraphort3
import Derived.Test.YtjaamflffmhicaaVFnExactUnwraphort2
import Derived.Test.YtjaamflffmhicaaVFnExactUnwraphort
import Derived.Test.YtjaamflffmhicaaVFnExactUnwraphort8
import Derived.Test.YtjaamflffmhicaaVFnExactUnwrapq2
namespace Go.Proofs.Ytjaamflffmhicaa.QFnExactUnwrap
open Go.RowKit Go.Proofs.YtjaamflffmhicaaW.PrintWords Go.Proofs.YtjaamflffmhicaaW.PrintLast Go.Proofs.YtjaamflffmhicaaW.PrintMore Go.Proofs.Ytjaamflffmhicaa.Short Go.Proofs.Ytjaamflffmhicaa.Sq
set_option linter.unusedVariables false
set_option linter.unusedSimpArgs false
set_option maxHeartbeats 8000000
set_option maxRecDepth 100000
variable {p : Prop}
theorem D9x0_ (h : p := by exact ⟨((hbc HB bZ).trans bZ), ((hbc HB b0).trans b0), ((hbc HB b1).trans b1), ((hbc HB b2).trans b2), ((hbc HB b3).trans b3), ((hbc HB b4).trans b4), ((hbc HB b5).trans b5), ((hbc HB b6).trans b6), ((hbc HB b7).trans b7), ((hbc HB b8).trans b8), ((hbc HB b9).trans b9), ((hbc HB ca).trans ca)⟩) : p := h
theorem D9x1_ (h : p := by exact ⟨B17x16_, (Ae2 HB ah ax)⟩) : p := h
section
attribute [local go_sem] max2_int min2_int max_two min_two max_three min_three max_four min_four
theorem B17x6_ (h : p := by rw [hw]; exact (by (with_reducible repeat (first | apply KQ.S_alloc | apply KQ.S_drewN | apply KQ.S_drew)); exact KQ.S_mono (KQ.S_far (p := ⟨aw, 5, none⟩) (KQ.S_far (p := ⟨aw, 4, none⟩) (KQ.S_far (p := ⟨aw, 3, none⟩) (KQ.S_far (p := ⟨aw, 2, none⟩) (KQ.S_far (p := ⟨aw, 1, none⟩) (KQ.S_far (p := ⟨aw, 0, none⟩) (KQ.S_types aG.out aE.out (by decide)) (fun _ hk => hk.2) (.int .i64 cn)) (fun _ hk => hk.2) (.int .i64 co)) (fun _ hk => hk.2) (.int .i64 cp)) (fun _ hk => hk.2) (.int .i64 cq)) (fun _ hk => hk.2) (.bool cr)) (fun _ hk => hk.2) (.string cf)) (fun _ hk => trivial))) : p := h
theorem B17x16_ (h : p := by first | rfl | (simp [errW_none, errW_some] <;> rfl) | (simp [*, errW_none, errW_some] <;> rfl)) : p := h
theorem B17x25_ (h : p := by have := gs.out; first | omega | exact Nat.le_refl _) : p := h
mutual
def impl_Unwrap.j0 : Nat → List (S52) → Int → Int → Bool → Int → Int → Int → ByteArray → Option ((List (S52)) × Int × Int × Int × ByteArray × Bool)
 | 0, _, _, _, _, _, _, _, _ => none
 | k + 1, Z, x2, x3, hJ, km, kn, ko, hM => if hJ = true then ((impl_copyBits.f k Z).bind fun e4 => (some (e4, 0, 0, 0, (⟨#[]⟩ : ByteArray), false))) else ((impl_ReadDgram.f k hM).bind fun aR => (if aR.2.2.2.2.2.2 = true then (impl_Unwrap.j1 k Z x3 (aR.2.1 != x2) aR.1 aR.2.1 aR.2.2.1 aR.2.2.2.1 aR.2.2.2.2.1 aR.2.2.2.2.2.1) else (impl_Unwrap.j1 k Z x3 true aR.1 aR.2.1 aR.2.2.1 aR.2.2.2.1 aR.2.2.2.2.1 aR.2.2.2.2.2.1)))
def impl_Unwrap.j1 : Nat → List (S52) → Int → Bool → Int → Int → Int → Int → Bool → ByteArray → Option ((List (S52)) × Int × Int × Int × ByteArray × Bool)
 | 0, _, _, _, _, _, _, _, _, _ => none
 | k + 1, Z, x3, hL, hN, hO, hP, hQ, hR, hS => if hL = true then ((impl_copyBits.f k Z).bind fun e5 => (some (e5, 0, 0, 0, (⟨#[]⟩ : ByteArray), false))) else ((impl_JoinBits.f k Z hN hO hP hQ hR hS x3).bind fun d5 => (if d5.2.2.2.2.2.2.2 = true then ((impl_ReadSeg.f d5.2.2.2.2.2.2.1).bind fun dP => (some (d5.1, dP.1, dP.2.1, dP.2.2.1, dP.2.2.2.1, dP.2.2.2.2))) else (some (d5.1, 0, 0, 0, (⟨#[]⟩ : ByteArray), false))))
end
def impl_Unwrap.f (k : Nat) (l0 : List (S52)) (a1 : ByteArray) (a2 : Int) (a3 : Int) : Option ((List (S52)) × Int × Int × Int × ByteArray × Bool) := (impl_ReadCell.f k a1).bind fun bF => (if bF.2.2.2.2 = true then (impl_Unwrap.j0 k l0 a2 a3 (bF.1 != a2) bF.1 bF.2.1 bF.2.2.1 bF.2.2.2.1) else (impl_Unwrap.j0 k l0 a2 a3 true bF.1 bF.2.1 bF.2.2.1 bF.2.2.2.1))
theorem impl_Unwrap.calls (k : Nat) (A0 : Option Addr) (c0 : Nat) (l0 : List (S52)) (a1 : ByteArray) (a2 : Int) (a3 : Int) (r1 : List (S52)) (r2 : Int) (r3 : Int) (r4 : Int) (r5 : ByteArray) (r6 : Bool) (w : World) (aO : Kd.C k52 w A0 l0.length l0) (aN : l0.length ≤ c0) (h : impl_Unwrap.f k l0 a1 a2 a3 = some (r1, r2, r3, r4, r5, r6)) :
  Calls Try.prog 7 #[.slice A0 l0.length c0, .string a1, .int .i64 a2, .int .i64 a3] w fun e w' => ∃ fJ : Value, e = .returned (.tuple #[fJ, .agg #[.int .i64 r2, .int .i64 r3, .int .i64 r4, .string r5], .bool r6]) ∧ SQ k52 52 w' w.heap.size (fun _ => True) fJ r1 ∧ Below w.heap.size w w' := by
 have he := Try.underlying26
 have jP := Try.underlying40
 have jQ := Try.underlying44
 have aH := am aO
 have bM := am aN
 clear aO aN
 have HB := am (Below.refl w.heap.size w)
 have D := h
 clear h
 unfold impl_Unwrap.f at D
 obtain ⟨⟨cd, cl, cm, ce, hs⟩, A5, l⟩ := bsi D
 (try dsimp only at l)
 replace l := am l
 clear D
 go_enter Try.func7, Try.ntmps7
 go_upto_region 2 with (first | ((with_reducible refine gate_dst (N := 9) rfl ?_); refine bx (N := 9) (cs := #[.int .i64 0, .int .i64 0, .int .i64 0, .string (⟨#[]⟩ : ByteArray)]) (t := 26) ?_; intro Y hg w7 hbox hb; have B := am hbox; have ag := gA hg HB; replace HB := hA HB hb; clear hb hbox hg) | ((with_reducible refine gate_callee (f := 19) rfl ?_); refine gM (some 19) Try.func19 (impl_ReadCell.calls k a1 cd cl cm ce hs _ A5.out) ?_; rintro w8 hb; replace B := bA B hb; replace HB := De1 HB ag hb) | ((with_reducible refine gate_dst (N := 11) rfl ?_); refine bx (N := 11) (cs := #[.int .i64 0, .int .i64 0, .int .i64 0, .string (⟨#[]⟩ : ByteArray)]) (t := 40) ?_; intro cT hg w9 hbox hb; have U := am hbox; have ai := gA hg HB; replace HB := De1 HB ag hb; have aY := nA hg B; have bE := mA hg B; replace B := bA B hb; clear hb hbox hg; have iy := bE.out; have i1 := aY.out; obtain ⟨fS, fT, fU, fV, f6, f7, f8, f9⟩ := cf4 U))
 (try simp only [Act.put, List.setIfInBounds_toArray, List.set_cons_zero, List.set_cons_succ])
 go_cut [29] (fun hv wc => ∃ (kq : Nat) (e6 : Bool), hv = .bool e6 ∧ Aside0 (impl_Unwrap.j0 kq l0 a2 a3 e6 cd cl cm ce = some (r1, r2, r3, r4, r5, r6)) ∧ Aside0 (kq ≤ k) ∧ Hc wc Y #[.int .i64 0, .int .i64 0, .int .i64 0, .string (⟨#[]⟩ : ByteArray)] 26 ∧ Hc wc cT #[.int .i64 cd, .int .i64 cl, .int .i64 cm, .string ce] 40 ∧ Hb w wc)
 case first =>
  replace l := l.out
  obtain ⟨rfl, q⟩ | ⟨rfl, q⟩ := sb l
  ·replace q := am q; clear l; obtain ⟨g3, g7⟩ := o2_ bE aY; obtain ⟨fS, fT, fU, fV, f6, f7, f8, f9⟩ := cf4 U
   go_wp2
   go_meet
   case rel => exact ⟨_, ((cd != a2)), be_, q, ⟨gl_⟩, Cp1 B aY, Cp0 U, Ce2 HB ag ai⟩
  ·replace q := am q; clear l
   go_wp2
   go_meet
   case rel => exact ⟨_, true, be_, q, ⟨gl_⟩, Cp1 B aY, Cp0 U, Ce2 HB ag ai⟩
 case rest =>
  clear l; obtain ⟨kq, e6, rfl, z, gs, B, U, HB⟩ := hcut
  cases kq with
  | zero => exact absurd z.out (by simp [impl_Unwrap.j0])
  | succ e3 => ?_
  replace z := z.out; simp only [impl_Unwrap.j0] at z
  obtain ⟨rfl, J⟩ | ⟨rfl, J⟩ := sb z
  ·obtain ⟨e4, gl, ae⟩ := bsi J; (try dsimp only at ae); obtain ⟨rfl, rfl, rfl, rfl, rfl, rfl⟩ := s6 ae; clear ae z J
   go_wp2_with (first | ((with_reducible refine gate_callee (f := 20) rfl ?_); refine gL (some 31) Try.func20 #[.slice A0 l0.length c0] ?_; refine (impl_copyBits.calls e3 _ _ l0 e4 _ (tc (Kd.C_below aH.out HB.out)) bM.out gl.out).mono ?_; rintro e fL ⟨jV, rfl, bj, hb⟩; refine ⟨_, rfl, ?_⟩; have gu := am (Kd.S_lower bj (below_size (Ae2 HB ag ai))); replace B := bA B hb; replace U := bA U hb; replace HB := De2 HB ag ai hb; have g4 := aY.out; have g8 := bE.out; obtain ⟨fO, fP, fQ, fR, f2, f3, f4, f5⟩ := cf4 B))
   refine bodyPost_ret (results_list (rs := [.tmp 8, .cell 9 26, .tmp 10]) rfl (by simp) (.tmp (.cell Y 26 #[.int .i64 0, .int .i64 0, .int .i64 0, .string (⟨#[]⟩ : ByteArray)] (0, 0) _ rfl (Ap0 B) Try.underlying26 rfl gk_ (.tmp .nil)))) rfl ?_; exact ⟨_, B17x16_, SQ_of (by (with_reducible repeat (first | apply Kd.S_alloc | apply Kd.S_drewN | apply Kd.S_drew)); exact Kd.S_mono (Kd.S_far (p := ⟨Y, 3, none⟩) (Kd.S_far (p := ⟨Y, 2, none⟩) (Kd.S_far (p := ⟨Y, 1, none⟩) (Kd.S_far (p := ⟨Y, 0, none⟩) (Kd.S_types gu.out B.out (by decide)) (fun _ hk => hk.2) (.int .i64 0)) (fun _ hk => hk.2) (.int .i64 0)) (fun _ hk => hk.2) (.int .i64 0)) (fun _ hk => hk.2) (.string (⟨#[]⟩ : ByteArray))) (fun _ hk => trivial)), (Ae2 HB ag ai)⟩
  ·obtain ⟨⟨a4, aX, a5, a6, a7, a8, ht⟩, gm, ad⟩ := bsi J; (try dsimp only at ad); replace ad := am ad; clear z J; obtain ⟨iB, i4⟩ := o2_ bE aY; obtain ⟨fS, fT, fU, fV, f6, f7, f8, f9⟩ := cf4 U
   go_upto_region 5 with (first | ((with_reducible refine gate_callee (f := 21) rfl ?_); refine gM (some 36) Try.func21 (impl_ReadDgram.calls e3 ce a4 aX a5 a6 a7 a8 ht _ gm.out) ?_; rintro ka hb; replace B := bA B hb; replace U := bA U hb; replace HB := De2 HB ag ai hb) | ((with_reducible refine gate_dst (N := 13) rfl ?_); refine bx (N := 13) (cs := #[.int .i64 0, .int .i64 0, .int .i64 0, .int .i64 0, .bool false, .string (⟨#[]⟩ : ByteArray)]) (t := 44) ?_; intro bi hg hD hbox hb; have ac := am hbox; have aF := gA hg HB; replace HB := De2 HB ag ai hb; have bD := nA hg B; have bO := mA hg B; replace B := bA B hb; have dM := nA hg U; have d4 := mA hg U; replace U := bA U hb; clear hb hbox hg; have iE := bO.out; have i7 := bD.out; have iF := d4.out; have i9 := dM.out; obtain ⟨e8, e9, fa, fb, fc, fd, fe, ff, fg, fh, fi, fj⟩ := cf6 ac) | ((with_reducible refine gate_store (t := 44) (p := 13) rfl ?_); refine store_event (t := 44) (p := 13) (v := ?vo_w29) (w1 := ((((((hD.setCell ⟨bi, 0, none⟩ (.int .i64 a4)).setCell ⟨bi, 1, none⟩ (.int .i64 aX)).setCell ⟨bi, 2, none⟩ (.int .i64 a5)).setCell ⟨bi, 3, none⟩ (.int .i64 a6)).setCell ⟨bi, 4, none⟩ (.bool a7)).setCell ⟨bi, 5, none⟩ (.string a8))) ?hg ?ho ?hn ?hr ?_; (case ho => rfl); (case hg => rfl); (case hn => rfl); (case hr => exact gs_); intro ec hw; replace B : Hc ec Y #[.int .i64 0, .int .i64 0, .int .i64 0, .string (⟨#[]⟩ : ByteArray)] 26 := ⟨wAp1 B bD⟩; replace U : Hc ec cT #[.int .i64 cd, .int .i64 cl, .int .i64 cm, .string ce] 40 := ⟨wAp1 U dM⟩; replace ac : Hc ec bi #[.int .i64 a4, .int .i64 aX, .int .i64 a5, .int .i64 a6, .bool a7, .string a8] 44 := ⟨wAp0 ac⟩; replace HB : Hb w ec := ⟨wAe3 HB ag ai aF⟩; clear hw))
   (try simp only [Act.put, List.setIfInBounds_toArray, List.set_cons_zero, List.set_cons_succ])
   go_cut [46] (fun hx wc => ∃ (kq : Nat) (e7 : Bool), hx = .bool e7 ∧ Aside0 (impl_Unwrap.j1 kq l0 a3 e7 a4 aX a5 a6 a7 a8 = some (r1, r2, r3, r4, r5, r6)) ∧ Aside0 (kq ≤ e3) ∧ Hc wc Y #[.int .i64 0, .int .i64 0, .int .i64 0, .string (⟨#[]⟩ : ByteArray)] 26 ∧ Hc wc cT #[.int .i64 cd, .int .i64 cl, .int .i64 cm, .string ce] 40 ∧ Hc wc bi #[.int .i64 a4, .int .i64 aX, .int .i64 a5, .int .i64 a6, .bool a7, .string a8] 44 ∧ Hb w wc)
   case first =>
    replace ad := ad.out
    obtain ⟨rfl, ay⟩ | ⟨rfl, ay⟩ := sb ad
    ·replace ay := am ay; clear ad; obtain ⟨iI, jc, iJ, jd⟩ := o4_ bO bD d4 dM; obtain ⟨e8, e9, fa, fb, fc, fd, fe, ff, fg, fh, fi, fj⟩ := cf6 ac
     go_wp2
     go_meet
     case rel => exact ⟨_, ((aX != a2)), be_, ay, ⟨B17x25_⟩, Cb B, Cb U, Cb ac, Ce3 HB ag ai aF⟩
    ·replace ay := am ay; clear ad
     go_wp2
     go_meet
     case rel => exact ⟨_, true, be_, ay, ⟨B17x25_⟩, Cb B, Cb U, Cb ac, Ce3 HB ag ai aF⟩
   case rest =>
    clear ad
    try clear h0
    obtain ⟨kq, e7, rfl, aQ, hZ, B, U, ac, HB⟩ := hcut
    cases kq with
    | zero => exact absurd aQ.out (by simp [impl_Unwrap.j1])
    | succ e2 => ?_
    replace aQ := aQ.out; simp only [impl_Unwrap.j1] at aQ
    obtain ⟨rfl, cQ⟩ | ⟨rfl, cQ⟩ := sb aQ
    ·obtain ⟨e5, gn, eH⟩ := bsi cQ; (try dsimp only at eH); obtain ⟨rfl, rfl, rfl, rfl, rfl, rfl⟩ := s6 eH; clear eH aQ cQ
     go_wp2_with (first | ((with_reducible refine gate_callee (f := 20) rfl ?_); refine gL (some 48) Try.func20 #[.slice A0 l0.length c0] ?_; refine (impl_copyBits.calls e2 _ _ l0 e5 _ (tc (Kd.C_below aH.out HB.out)) bM.out gn.out).mono ?_; rintro e hF ⟨jW, rfl, bj, hb⟩; refine ⟨_, rfl, ?_⟩; have gv := am (Kd.S_lower bj (below_size (Ae3 HB ag ai aF))); replace B := bA B hb; replace U := bA U hb; replace ac := bA ac hb; replace HB := De3 HB ag ai aF hb; have iL := aY.out; have jf := bE.out; have g5 := bD.out; have g9 := bO.out; obtain ⟨fO, fP, fQ, fR, f2, f3, f4, f5⟩ := cf4 B))
     refine bodyPost_ret (results_list (rs := [.tmp 8, .cell 9 26, .tmp 10]) rfl (by simp) (.tmp (.cell Y 26 #[.int .i64 0, .int .i64 0, .int .i64 0, .string (⟨#[]⟩ : ByteArray)] (0, 0) _ rfl (Ap0 B) Try.underlying26 rfl gk_ (.tmp .nil)))) rfl ?_; exact ⟨_, B17x16_, SQ_of (by (with_reducible repeat (first | apply Kd.S_alloc | apply Kd.S_drewN | apply Kd.S_drew)); exact Kd.S_mono (Kd.S_far (p := ⟨Y, 3, none⟩) (Kd.S_far (p := ⟨Y, 2, none⟩) (Kd.S_far (p := ⟨Y, 1, none⟩) (Kd.S_far (p := ⟨Y, 0, none⟩) (Kd.S_types gv.out B.out (by decide)) (fun _ hk => hk.2) (.int .i64 0)) (fun _ hk => hk.2) (.int .i64 0)) (fun _ hk => hk.2) (.int .i64 0)) (fun _ hk => hk.2) (.string (⟨#[]⟩ : ByteArray))) (fun _ hk => trivial)), (Ae3 HB ag ai aF)⟩
    ·obtain ⟨⟨dW, cn, co, cp, cq, cr, cf, jU⟩, fk, d3⟩ := bsi cQ; (try dsimp only at d3)
     obtain ⟨rfl, dL⟩ | ⟨rfl, dL⟩ := sb d3
     ·obtain ⟨⟨cM, cN, cO, cP, hu⟩, gp, eI⟩ := bsi dL; (try dsimp only at eI); obtain ⟨rfl, rfl, rfl, rfl, rfl, rfl⟩ := s6 eI; clear eI aQ cQ d3 dL; obtain ⟨g6, ha, iM, jg⟩ := o4_ bO bD d4 dM; obtain ⟨e8, e9, fa, fb, fc, fd, fe, ff, fg, fh, fi, fj⟩ := cf6 ac
      try go_wp2_with (first | ((with_reducible refine gate_callee (f := 22) rfl ?_); refine gL (some 54) Try.func22 #[.slice A0 l0.length c0, .agg #[.int .i64 a4, .int .i64 aX, .int .i64 a5, .int .i64 a6, .bool a7, .string a8], .int .i64 a3] ?_; refine (impl_JoinBits.calls e2 _ _ l0 a4 aX a5 a6 a7 a8 a3 dW cn co cp cq cr cf true _ (tc (Kd.C_below aH.out HB.out)) bM.out fk.out).mono ?_; rintro e kj ⟨eb, rfl, bj, hb⟩; refine ⟨_, rfl, ?_⟩; have aG := am (KQ.S_lower bj (below_size (Ae3 HB ag ai aF))); replace B := bA B hb; replace U := bA U hb; replace ac := bA ac hb; replace HB := De3 HB ag ai aF hb) | ((with_reducible refine gate_dst (N := 15) rfl ?_); refine bx (N := 15) (cs := #[.int .i64 0, .int .i64 0, .int .i64 0, .int .i64 0, .bool false, .string (⟨#[]⟩ : ByteArray)]) (t := 44) ?_; intro aw hg hG hbox hb; replace aG := am (KQ.S_below aG.out hb); have aE := am hbox; have cg := gA hg HB; replace HB := De3 HB ag ai aF hb; have bN := nA hg B; have cu := mA hg B; replace B := bA B hb; have dN := nA hg U; have eJ := mA hg U; replace U := bA U hb; have dO := nA hg ac; have eK := mA hg ac; replace ac := bA ac hb; clear hb hbox hg; have iN := cu.out; have jh := bN.out; have iO := eJ.out; have ji := dN.out; have iP := eK.out; have jj := dO.out; obtain ⟨fW, fX, fY, fZ, f0, f1, ga, gb, gg, gh, gi, gj⟩ := cf6 aE) | ((with_reducible refine gate_store (t := 44) (p := 15) rfl ?_); refine store_event (t := 44) (p := 15) (v := ?vo_w52) (w1 := ((((((hG.setCell ⟨aw, 0, none⟩ (.int .i64 cn)).setCell ⟨aw, 1, none⟩ (.int .i64 co)).setCell ⟨aw, 2, none⟩ (.int .i64 cp)).setCell ⟨aw, 3, none⟩ (.int .i64 cq)).setCell ⟨aw, 4, none⟩ (.bool cr)).setCell ⟨aw, 5, none⟩ (.string cf))) ?hg ?ho ?hn ?hr ?_; (case ho => rfl); (case hg => rfl); (case hn => rfl); (case hr => exact gs_); intro cX hw; replace aG : Aside0 (KQ.S k52 52 cX w.heap.size (fun _ => True) eb dW) := ⟨B17x6_⟩; replace B : Hc cX Y #[.int .i64 0, .int .i64 0, .int .i64 0, .string (⟨#[]⟩ : ByteArray)] 26 := ⟨wAp1 B bN⟩; replace U : Hc cX cT #[.int .i64 cd, .int .i64 cl, .int .i64 cm, .string ce] 40 := ⟨wAp1 U dN⟩; replace ac : Hc cX bi #[.int .i64 a4, .int .i64 aX, .int .i64 a5, .int .i64 a6, .bool a7, .string a8] 44 := ⟨wAp1 ac dO⟩; replace aE : Hc cX aw #[.int .i64 cn, .int .i64 co, .int .i64 cp, .int .i64 cq, .bool cr, .string cf] 44 := ⟨wAp0 aE⟩; replace HB : Hb w cX := ⟨wAe4 HB ag ai aF cg⟩; clear hw; obtain ⟨fW, fX, fY, fZ, f0, f1, ga, gb, gg, gh, gi, gj⟩ := cf6 aE) | ((with_reducible refine gate_callee (f := 23) rfl ?_); refine gM (some 65) Try.func23 (impl_ReadSeg.calls cf cM cN cO cP hu _ gp.out) ?_; rintro kk hb; replace aG := am (KQ.S_below aG.out hb); replace B := bA B hb; replace U := bA U hb; replace ac := bA ac hb; replace aE := bA aE hb; replace HB := De4 HB ag ai aF cg hb) | ((with_reducible refine gate_dst (N := 16) rfl ?_); refine bx (N := 16) (cs := #[.int .i64 0, .int .i64 0, .int .i64 0, .string (⟨#[]⟩ : ByteArray)]) (t := 26) ?_; intro aW hg hH hbox hb; replace aG := am (KQ.S_below aG.out hb); have a9 := am hbox; have fl := gA hg HB; replace HB := De4 HB ag ai aF cg hb; have cR := nA hg B; have az := mA hg B; replace B := bA B hb; have fp := nA hg U; have gy := mA hg U; replace U := bA U hb; have fq := nA hg ac; have gB := mA hg ac; replace ac := bA ac hb; have fr := nA hg aE; have gC := mA hg aE; replace aE := bA aE hb; clear hb hbox hg; have iQ := az.out; have jk := cR.out; have iR := gy.out; have jl := fp.out; have iS := gB.out; have jm := fq.out; have iT := gC.out; have jn := fr.out; obtain ⟨kp, kr, ks, kt, ku, kv, kw, kx⟩ := cf4 a9))
      generalize hw : ((((hH.setCell ⟨aW, 0, none⟩ (.int .i64 cM)).setCell ⟨aW, 1, none⟩ (.int .i64 cN)).setCell ⟨aW, 2, none⟩ (.int .i64 cO)).setCell ⟨aW, 3, none⟩ (.string cP)) = ct; replace hw := hw.symm
      replace aG : Aside0 (KQ.S k52 52 ct w.heap.size (fun _ => True) eb dW) := ⟨(by rw [hw]; exact (by (with_reducible repeat (first | apply KQ.S_alloc | apply KQ.S_drewN | apply KQ.S_drew)); exact KQ.S_mono (KQ.S_far (p := ⟨aW, 3, none⟩) (KQ.S_far (p := ⟨aW, 2, none⟩) (KQ.S_far (p := ⟨aW, 1, none⟩) (KQ.S_far (p := ⟨aW, 0, none⟩) (KQ.S_types aG.out a9.out (by decide)) (fun _ hk => hk.2) (.int .i64 cM)) (fun _ hk => hk.2) (.int .i64 cN)) (fun _ hk => hk.2) (.int .i64 cO)) (fun _ hk => hk.2) (.string cP)) (fun _ hk => trivial)))⟩
      replace B : Hc ct Y #[.int .i64 0, .int .i64 0, .int .i64 0, .string (⟨#[]⟩ : ByteArray)] 26 := ⟨wAp1 B cR⟩
      replace U : Hc ct cT #[.int .i64 cd, .int .i64 cl, .int .i64 cm, .string ce] 40 := ⟨wAp1 U fp⟩
      replace ac : Hc ct bi #[.int .i64 a4, .int .i64 aX, .int .i64 a5, .int .i64 a6, .bool a7, .string a8] 44 := ⟨wAp1 ac fq⟩
      replace aE : Hc ct aw #[.int .i64 cn, .int .i64 co, .int .i64 cp, .int .i64 cq, .bool cr, .string cf] 44 := ⟨wAp1 aE fr⟩
      replace a9 : Hc ct aW #[.int .i64 cM, .int .i64 cN, .int .i64 cO, .string cP] 26 := ⟨wAp0 a9⟩
      replace HB : Hb w ct := ⟨wAe5 HB ag ai aF cg fl⟩
      clear hw; replace aG := am (KQ.S_drew aG.out); replace B := dA B; replace U := dA U; replace ac := dA ac; replace aE := dA aE; replace a9 := dA a9; replace HB := bdr HB; refine start_ (n := 6) (S := fun w' => w'.cell? ⟨aW, 0, none⟩ = some (.int .i64 cM) ∧ w'.cell? ⟨aW, 1, none⟩ = some (.int .i64 cN) ∧ w'.cell? ⟨aW, 2, none⟩ = some (.int .i64 cO) ∧ w'.cell? ⟨aW, 3, none⟩ = some (.string cP)) (ds := []) #[false, false, false, false, false, false] gk_ rfl rfl ⟨bc a9 0, bc a9 1, bc a9 2, bc a9 3⟩ (fun aj => ?_); generalize ct.drew = ed at aG B U ac aE a9 HB aj ⊢; refine pure_ (i := 0) (N := some 68) (v := ?_) (a' := ?_) #[true, false, false, false, false, false] rfl rfl gk_ (fun _ _ _ h => h) (Or.inl ⟨(by rfl), ?_⟩) ?_ ?_; rotate_left
      ·intro w'; go_simp; with_reducible rfl
      rotate_left
      ·simp only [Act.put, List.setIfInBounds_toArray, List.set_cons_zero, List.set_cons_succ, i64_w, i32_w]; rfl
      refine pure_ (i := 2) (N := some 70) (v := ?_) (a' := ?_) #[true, false, true, false, false, false] rfl rfl gk_ (fun _ _ _ h => h) (Or.inl ⟨(by rfl), ?_⟩) ?_ ?_; rotate_left
      ·intro w'; go_simp; with_reducible rfl
      rotate_left
      ·simp only [Act.put, List.setIfInBounds_toArray, List.set_cons_zero, List.set_cons_succ, i64_w, i32_w]; rfl
      refine pure_ (i := 3) (N := some 8) (v := ?_) (a' := ?_) #[true, false, true, true, false, false] rfl rfl gk_ (fun _ _ _ h => h) (Or.inl ⟨(by rfl), ?_⟩) ?_ ?_; rotate_left
      ·intro w'; go_simp; with_reducible rfl
      rotate_left
      ·simp only [Act.put, List.setIfInBounds_toArray, List.set_cons_zero, List.set_cons_succ, i64_w, i32_w]; rfl
      refine take_ (i := 1) (N := some 69) (v := ?_) (a' := ?_) #[true, true, true, true, false, false] rfl rfl gk_ (fun _ _ _ h => h) (Or.inl ⟨(by rfl), ?_⟩) aj ?_ ?_; rotate_left
      ·rintro w' ⟨s0, s1, s2, s3⟩; go_simp; with_reducible rfl
      rotate_left
      ·simp only [Act.put, List.setIfInBounds_toArray, List.set_cons_zero, List.set_cons_succ, i64_w, i32_w]; rfl
      refine one_ (i := 4) (N := none) #[true, true, true, true, true, false] rfl rfl gk_ (by decide) (fun K hK => ?_)
      have jL : ed.cell? ⟨Y, 0, none⟩ = some (.int .i64 0) := bc B 0
      have h9 := blk_frozen B.out 0; obtain ⟨jv, jw, jx, jy, ie, ig, ih, ii⟩ := o8_ bE bO cu az aY bD bN cR
      have jM : ed.cell? ⟨Y, 1, none⟩ = some (.int .i64 0) := bc B 1
      have ia := blk_frozen B.out 1; obtain ⟨jz, jA, jB, jC, ij, ik, il, im⟩ := o8_ bE bO cu az aY bD bN cR
      have jN : ed.cell? ⟨Y, 2, none⟩ = some (.int .i64 0) := bc B 2
      have ib := blk_frozen B.out 2; obtain ⟨jD, jE, jF, jG, io, ip, iq, ir⟩ := o8_ bE bO cu az aY bD bN cR
      have jO : ed.cell? ⟨Y, 3, none⟩ = some (.string (⟨#[]⟩ : ByteArray)) := bc B 3
      have ic := blk_frozen B.out 3; obtain ⟨jH, jI, jJ, jK, iu, iv, iw, ix⟩ := o8_ bE bO cu az aY bD bN cR; refine skip_ (w1 := ?_) (by rfl) rfl ?_ ?_; rotate_left
      ·go_simp; rfl
      refine hK.out _ _ ⟨((cell_far (p := ⟨Y, _, none⟩) az.out _).trans (((cell_far (p := ⟨Y, _, none⟩) az.out _).trans (((cell_far (p := ⟨Y, _, none⟩) az.out _).trans (((cell_far (p := ⟨Y, _, none⟩) az.out _).trans (aj.1)))))))), ((cell_far (p := ⟨Y, _, none⟩) az.out _).trans (((cell_far (p := ⟨Y, _, none⟩) az.out _).trans (((cell_far (p := ⟨Y, _, none⟩) az.out _).trans (((cell_far (p := ⟨Y, _, none⟩) az.out _).trans (aj.2.1)))))))), ((cell_far (p := ⟨Y, _, none⟩) az.out _).trans (((cell_far (p := ⟨Y, _, none⟩) az.out _).trans (((cell_far (p := ⟨Y, _, none⟩) az.out _).trans (((cell_far (p := ⟨Y, _, none⟩) az.out _).trans (aj.2.2.1)))))))), ((cell_far (p := ⟨Y, _, none⟩) az.out _).trans (((cell_far (p := ⟨Y, _, none⟩) az.out _).trans (((cell_far (p := ⟨Y, _, none⟩) az.out _).trans (((cell_far (p := ⟨Y, _, none⟩) az.out _).trans (aj.2.2.2))))))))⟩ (fun aj => ?_); clear hK K; refine pure_ (i := 5) (N := some 10) (v := ?_) (a' := ?_) #[true, true, true, true, true, true] rfl rfl gk_ (fun _ _ _ h => h) (Or.inl ⟨(by rfl), ?_⟩) ?_ ?_; rotate_left
      ·intro w'; go_simp; with_reducible rfl
      rotate_left
      ·simp only [Act.put, List.setIfInBounds_toArray, List.set_cons_zero, List.set_cons_succ, i64_w, i32_w]; rfl
      refine done_ gk_ ?_
      try go_wp2
      refine bodyPost_ret (results_list (rs := [.tmp 8, .cell 9 26, .tmp 10]) rfl (by simp) (.tmp (.cell Y 26 #[.int .i64 cM, .int .i64 cN, .int .i64 cO, .string cP] (0, 0) _ rfl (Ap0 B) Try.underlying26 rfl gk_ (.tmp .nil)))) rfl ?_; exact ⟨_, B17x16_, (by (with_reducible repeat (first | apply KQ.S_alloc | apply KQ.S_drewN | apply KQ.S_drew)); exact KQ.S_mono (KQ.S_far (p := ⟨Y, 3, none⟩) (KQ.S_far (p := ⟨Y, 2, none⟩) (KQ.S_far (p := ⟨Y, 1, none⟩) (KQ.S_far (p := ⟨Y, 0, none⟩) (KQ.S_types aG.out B.out (by decide)) (fun _ hk => hk.2) (.int .i64 cM)) (fun _ hk => hk.2) (.int .i64 cN)) (fun _ hk => hk.2) (.int .i64 cO)) (fun _ hk => hk.2) (.string cP)) (fun _ hk => trivial)), (Ae5 HB ag ai aF cg fl)⟩
     ·obtain ⟨rfl, rfl, rfl, rfl, rfl, rfl⟩ := s6 dL; clear dL aQ cQ d3; obtain ⟨iU, jo, iV, jp⟩ := o4_ bO bD d4 dM; obtain ⟨e8, e9, fa, fb, fc, fd, fe, ff, fg, fh, fi, fj⟩ := cf6 ac
      go_wp2_with (first | ((with_reducible refine gate_callee (f := 22) rfl ?_); refine gL (some 54) Try.func22 #[.slice A0 l0.length c0, .agg #[.int .i64 a4, .int .i64 aX, .int .i64 a5, .int .i64 a6, .bool a7, .string a8], .int .i64 a3] ?_; refine (impl_JoinBits.calls e2 _ _ l0 a4 aX a5 a6 a7 a8 a3 dW cn co cp cq cr cf false _ (tc (Kd.C_below aH.out HB.out)) bM.out fk.out).mono ?_; rintro e kl ⟨eb, rfl, bj, hb⟩; refine ⟨_, rfl, ?_⟩; have aG := am (KQ.S_lower bj (below_size (Ae3 HB ag ai aF))); replace B := bA B hb; replace U := bA U hb; replace ac := bA ac hb; replace HB := De3 HB ag ai aF hb) | ((with_reducible refine gate_dst (N := 15) rfl ?_); refine bx (N := 15) (cs := #[.int .i64 0, .int .i64 0, .int .i64 0, .int .i64 0, .bool false, .string (⟨#[]⟩ : ByteArray)]) (t := 44) ?_; intro aw hg hI hbox hb; replace aG := am (KQ.S_below aG.out hb); have aE := am hbox; have cg := gA hg HB; replace HB := De3 HB ag ai aF hb; have bN := nA hg B; have cu := mA hg B; replace B := bA B hb; have dN := nA hg U; have eJ := mA hg U; replace U := bA U hb; have dO := nA hg ac; have eK := mA hg ac; replace ac := bA ac hb; clear hb hbox hg; have iW := cu.out; have jq := bN.out; have iX := eJ.out; have jr := dN.out; have iY := eK.out; have js := dO.out; obtain ⟨fW, fX, fY, fZ, f0, f1, ga, gb, gg, gh, gi, gj⟩ := cf6 aE) | ((with_reducible refine gate_store (t := 44) (p := 15) rfl ?_); refine store_event (t := 44) (p := 15) (v := ?vo_w76) (w1 := ((((((hI.setCell ⟨aw, 0, none⟩ (.int .i64 cn)).setCell ⟨aw, 1, none⟩ (.int .i64 co)).setCell ⟨aw, 2, none⟩ (.int .i64 cp)).setCell ⟨aw, 3, none⟩ (.int .i64 cq)).setCell ⟨aw, 4, none⟩ (.bool cr)).setCell ⟨aw, 5, none⟩ (.string cf))) ?hg ?ho ?hn ?hr ?_; (case ho => rfl); (case hg => rfl); (case hn => rfl); (case hr => exact gs_); intro cY hw; replace aG : Aside0 (KQ.S k52 52 cY w.heap.size (fun _ => True) eb dW) := ⟨B17x6_⟩; replace B : Hc cY Y #[.int .i64 0, .int .i64 0, .int .i64 0, .string (⟨#[]⟩ : ByteArray)] 26 := ⟨wAp1 B bN⟩; replace U : Hc cY cT #[.int .i64 cd, .int .i64 cl, .int .i64 cm, .string ce] 40 := ⟨wAp1 U dN⟩; replace ac : Hc cY bi #[.int .i64 a4, .int .i64 aX, .int .i64 a5, .int .i64 a6, .bool a7, .string a8] 44 := ⟨wAp1 ac dO⟩; replace aE : Hc cY aw #[.int .i64 cn, .int .i64 co, .int .i64 cp, .int .i64 cq, .bool cr, .string cf] 44 := ⟨wAp0 aE⟩; replace HB : Hb w cY := ⟨wAe4 HB ag ai aF cg⟩; clear hw; have iZ := aY.out; have jt := bE.out; obtain ⟨fO, fP, fQ, fR, f2, f3, f4, f5⟩ := cf4 B))
      refine bodyPost_ret (results_list (rs := [.tmp 8, .cell 9 26, .tmp 10]) rfl (by simp) (.tmp (.cell Y 26 #[.int .i64 0, .int .i64 0, .int .i64 0, .string (⟨#[]⟩ : ByteArray)] (0, 0) _ rfl (Ap0 B) Try.underlying26 rfl gk_ (.tmp .nil)))) rfl ?_; exact ⟨_, B17x16_, (by (with_reducible repeat (first | apply KQ.S_alloc | apply KQ.S_drewN | apply KQ.S_drew)); exact KQ.S_mono (KQ.S_far (p := ⟨Y, 3, none⟩) (KQ.S_far (p := ⟨Y, 2, none⟩) (KQ.S_far (p := ⟨Y, 1, none⟩) (KQ.S_far (p := ⟨Y, 0, none⟩) (KQ.S_types aG.out B.out (by decide)) (fun _ hk => hk.2) (.int .i64 0)) (fun _ hk => hk.2) (.int .i64 0)) (fun _ hk => hk.2) (.int .i64 0)) (fun _ hk => hk.2) (.string (⟨#[]⟩ : ByteArray))) (fun _ hk => trivial)), (Ae4 HB ag ai aF cg)⟩

def laws_eqStringS.l0 : Nat → List ByteArray → List ByteArray → Int → Option (Bool)
 | 0, _, _, _ => none
 | k + 1, Z, x1, M => if M < (Z.length : Int) then (if 0 ≤ M then (if M < (x1.length : Int) then (if (rdOf ByteArray.empty Z M).toList = (rdOf ByteArray.empty x1 M).toList then (laws_eqStringS.l0 k Z x1 (wrap64 (M + 1))) else (some false)) else (none)) else (none)) else (some true)
def laws_eqStringS.f (k : Nat) (l0 : List ByteArray) (l1 : List ByteArray) : Option (Bool) := if (l0.length : Int) = (l1.length : Int) then (laws_eqStringS.l0 k l0 l1 0) else (some false)
theorem laws_eqStringS.calls (k : Nat) (A0 : Option Addr) (c0 : Nat) (l0 : List ByteArray) (A1 : Option Addr) (c1 : Nat) (l1 : List ByteArray) (r : Bool) (w : World) (aO : Kd.C Kd.string w A0 l0.length l0) (aN : l0.length ≤ c0) (ck : Kd.C Kd.string w A1 l1.length l1) (cj : l1.length ≤ c1) (h : laws_eqStringS.f k l0 l1 = some r) :
  Calls Try.prog 55 #[.slice A0 l0.length c0, .slice A1 l1.length c1] w fun e w' => e = .returned (.bool r) ∧ Drawn0 w w' := by
 have aH := am aO
 have bM := am aN
 clear aO aN
 have ch := am ck
 have fm := am cj
 clear ck cj
 have D := h
 clear h
 unfold laws_eqStringS.f at D
 obtain ⟨c3, l⟩ | ⟨c3, l⟩ := sp D
 ·obtain ⟨av, aZ⟩ := yE c3
  have ci : (l0.length == l1.length) = true := by first | simpa using c3 | (simp at c3 ⊢; omega)
  clear c3; replace l := am l; clear D; go_enter Try.func55, Try.ntmps55
  go_wp2
  repeat (go_quiet (fail); try go_wp2)
  go_loopg [5] k (fun kq v5 w' => ∃ (j : Int), v5 = .int .i64 j ∧ Aside0 (laws_eqStringS.l0 kq l0 l1 j = some r) ∧ Aside0 (kq ≤ k) ∧ Drawn0 w w')
  case atStart => exact ⟨(0), be_, l, ⟨Nat.le_refl _⟩, gd_⟩
  case round =>
   clear l
   try clear c1
   try clear c3
   try clear av
   try clear aZ
   try clear ci
   obtain ⟨j, rfl, q, aK, ⟨m1, rfl⟩⟩ := hrel
   cases gk with
   | zero => exact absurd q.out (by simp [laws_eqStringS.l0])
   | succ k1 => ?_
   replace q := q.out; simp only [laws_eqStringS.l0] at q
   obtain ⟨aV, z⟩ | ⟨aV, z⟩ := sd q
   ·obtain ⟨cv, J⟩ := yd z; obtain ⟨cS, ae⟩ := yd J
    obtain ⟨c7, ad⟩ | ⟨c7, ad⟩ := sp ae
    ·obtain ⟨eS, eT⟩ := yE c7; clear c7; replace ad := am ad; clear q z J ae
     have cw : 0 ≤ (j : Int) := dga
     have cE : j < (l0.length : Int) := dga
     obtain ⟨gF, eU, hh⟩ := Kd.at_string aH.out j cw cE; cases eU; replace cw := eq_true cw; replace cE := eq_true cE
     have cx : 0 ≤ (j : Int) := dga
     have cF : j < (l1.length : Int) := dga
     obtain ⟨gG, eV, hj⟩ := Kd.at_string ch.out j cx cF; cases eV; replace cx := eq_true cx; replace cF := eq_true cF
     go_wp2
     repeat (go_quiet (fail); try go_wp2)
     go_roundg k1
     case measure => have := aK.out; omega
     case rel => exact ⟨(wrap64 (j + 1)), be_, ad, ⟨(by have := aK.out; omega)⟩, gd_⟩
    ·obtain ⟨eS, eT⟩ := nE c7; obtain rfl := Option.some.inj ad; clear ad q z J ae
     have cw : 0 ≤ (j : Int) := dga
     have cE : j < (l0.length : Int) := dga
     obtain ⟨gF, eU, hh⟩ := Kd.at_string aH.out j cw cE; cases eU; replace cw := eq_true cw; replace cE := eq_true cE
     have cx : 0 ≤ (j : Int) := dga
     have cF : j < (l1.length : Int) := dga
     obtain ⟨gG, eV, hj⟩ := Kd.at_string ch.out j cx cF; cases eV; replace cx := eq_true cx; replace cF := eq_true cF
     go_wp2
     repeat (go_quiet (fail); try go_wp2)
     go_ret; exact ⟨gr_, gd_⟩
   ·obtain rfl := Option.some.inj z; clear z q
    go_wp2
    repeat (go_quiet (fail); try go_wp2)
    go_ret; exact ⟨gr_, gd_⟩
 ·obtain ⟨av, aZ⟩ := nE c3
  have ci : (l0.length == l1.length) = false := by first | simpa using c3 | (simp at c3 ⊢; omega)
  obtain rfl := Option.some.inj l; clear l D; go_enter Try.func55, Try.ntmps55
  go_wp2
  repeat (go_quiet (fail); try go_wp2)
  go_ret; exact ⟨gr_, gd_⟩

def laws_eqIntS.l0 : Nat → List Int → List Int → Int → Option (Bool)
 | 0, _, _, _ => none
 | k + 1, Z, x1, M => if M < (Z.length : Int) then (if 0 ≤ M then (if M < (x1.length : Int) then (if (rd Z M) = (rd x1 M) then (laws_eqIntS.l0 k Z x1 (wrap64 (M + 1))) else (some false)) else (none)) else (none)) else (some true)
def laws_eqIntS.f (k : Nat) (l0 : List Int) (l1 : List Int) : Option (Bool) := if (l0.length : Int) = (l1.length : Int) then (laws_eqIntS.l0 k l0 l1 0) else (some false)
theorem laws_eqIntS.calls (k : Nat) (A0 : Option Addr) (c0 : Nat) (l0 : List Int) (A1 : Option Addr) (c1 : Nat) (l1 : List Int) (r : Bool) (w : World) (aO : Kd.C (Kd.int .i64) w A0 l0.length l0) (aN : l0.length ≤ c0) (ck : Kd.C (Kd.int .i64) w A1 l1.length l1) (cj : l1.length ≤ c1) (h : laws_eqIntS.f k l0 l1 = some r) :
  Calls Try.prog 56 #[.slice A0 l0.length c0, .slice A1 l1.length c1] w fun e w' => e = .returned (.bool r) ∧ Drawn0 w w' := by
 have aH := am aO
 have bM := am aN
 clear aO aN
 have ch := am ck
 have fm := am cj
 clear ck cj
 have D := h
 clear h
 unfold laws_eqIntS.f at D
 obtain ⟨c3, l⟩ | ⟨c3, l⟩ := sp D
 ·obtain ⟨av, aZ⟩ := yE c3
  have ci : (l0.length == l1.length) = true := by first | simpa using c3 | (simp at c3 ⊢; omega)
  clear c3; replace l := am l; clear D; go_enter Try.func56, Try.ntmps56
  go_wp2
  repeat (go_quiet (fail); try go_wp2)
  go_loopg [5] k (fun kq v5 w' => ∃ (j : Int), v5 = .int .i64 j ∧ Aside0 (laws_eqIntS.l0 kq l0 l1 j = some r) ∧ Aside0 (kq ≤ k) ∧ Drawn0 w w')
  case atStart => exact ⟨(0), be_, l, ⟨Nat.le_refl _⟩, gd_⟩
  case round =>
   clear l
   try clear c1
   try clear c3
   try clear av
   try clear aZ
   try clear ci
   obtain ⟨j, rfl, q, aK, ⟨m1, rfl⟩⟩ := hrel
   cases gk with
   | zero => exact absurd q.out (by simp [laws_eqIntS.l0])
   | succ k1 => ?_
   replace q := q.out; simp only [laws_eqIntS.l0] at q
   obtain ⟨aV, z⟩ | ⟨aV, z⟩ := sd q
   ·obtain ⟨cv, J⟩ := yd z; obtain ⟨cS, ae⟩ := yd J
    obtain ⟨c7, ad⟩ | ⟨c7, ad⟩ := sp ae
    ·obtain ⟨eS, eT⟩ := yE c7; clear c7; replace ad := am ad; clear q z J ae
     have cy : 0 ≤ (j : Int) := dga
     have cG : j < (l0.length : Int) := dga
     obtain ⟨gH, eW, hl⟩ := Kd.at_int aH.out j cy cG; cases eW; replace cy := eq_true cy; replace cG := eq_true cG
     have cz : 0 ≤ (j : Int) := dga
     have cH : j < (l1.length : Int) := dga
     obtain ⟨gI, eX, hm⟩ := Kd.at_int ch.out j cz cH; cases eX; replace cz := eq_true cz; replace cH := eq_true cH
     go_wp2
     repeat (go_quiet (fail); try go_wp2)
     go_roundg k1
     case measure => have := aK.out; omega
     case rel => exact ⟨(wrap64 (j + 1)), be_, ad, ⟨(by have := aK.out; omega)⟩, gd_⟩
    obtain ⟨eS, eT⟩ := nE c7; obtain rfl := Option.some.inj ad; clear ad q z J ae
    have cy : 0 ≤ (j : Int) := dga
    have cG : j < (l0.length : Int) := dga
    obtain ⟨gH, eW, hl⟩ := Kd.at_int aH.out j cy cG; cases eW; replace cy := eq_true cy; replace cG := eq_true cG
    have cz : 0 ≤ (j : Int) := dga
    have cH : j < (l1.length : Int) := dga
    obtain ⟨gI, eX, hm⟩ := Kd.at_int ch.out j cz cH; cases eX; replace cz := eq_true cz; replace cH := eq_true cH
    go_wp2
    repeat (go_quiet (fail); try go_wp2)
    go_ret; exact ⟨gr_, gd_⟩
   obtain rfl := Option.some.inj z; clear z q
   go_wp2
   repeat (go_quiet (fail); try go_wp2)
   go_ret; exact ⟨gr_, gd_⟩
 obtain ⟨av, aZ⟩ := nE c3
 have ci : (l0.length == l1.length) = false := by first | simpa using c3 | (simp at c3 ⊢; omega)
 obtain rfl := Option.some.inj l
 clear l D
 go_enter Try.func56, Try.ntmps56
 go_wp2
 repeat (go_quiet (fail); try go_wp2)
 go_ret
 exact ⟨gr_, gd_⟩
theorem B18x13_ (h : p := by repeat (first | (with_reducible first | exact HK.out | apply Kept.alloc | apply Kept.drewN | apply Kept.drew) | exact HK.out)) : p := h
theorem B18x20_ (h : p := by have := aK.out; omega) : p := h
def laws_eqBits.f (k : Nat) (aA : Int) (aB : Int) (aI : List ByteArray) (aL : List Int) (ba : Int) (bd : Int) (aC : Int) (aD : Int) (aJ : List ByteArray) (aM : List Int) (be : Int) (bh : Int) : Option (Bool) := if aA = aC then (if aB = aD then ((laws_eqStringS.f k aI aJ).bind fun fG => (if fG = true then ((laws_eqIntS.f k aL aM).bind fun fH => (if fH = true then (if ba = be then (if bd = bh then (some true) else (some false)) else (some false)) else (some false))) else (some false))) else (some false)) else (some false)
theorem laws_eqBits.calls (k : Nat) (aA : Int) (aB : Int) (bG : Option Addr) (bV : Nat) (aI : List ByteArray) (bH : Option Addr) (bW : Nat) (aL : List Int) (ba : Int) (bd : Int) (aC : Int) (aD : Int) (bI : Option Addr) (bX : Nat) (aJ : List ByteArray) (bJ : Option Addr) (bY : Nat) (aM : List Int) (be : Int) (bh : Int) (r : Bool) (w : World) (fC : Kd.C Kd.string w bG aI.length aI) (fy : aI.length ≤ bV) (fD : Kd.C (Kd.int .i64) w bH aL.length aL) (fz : aL.length ≤ bW) (fE : Kd.C Kd.string w bI aJ.length aJ) (fA : aJ.length ≤ bX) (fF : Kd.C (Kd.int .i64) w bJ aM.length aM) (fB : aM.length ≤ bY) (h : laws_eqBits.f k aA aB aI aL ba bd aC aD aJ aM be bh = some r) :
  Calls Try.prog 24 #[.agg #[.int .i64 aA, .int .i64 aB, .slice bG aI.length bV, .slice bH aL.length bW, .int .i64 ba, .int .i64 bd], .agg #[.int .i64 aC, .int .i64 aD, .slice bI aJ.length bX, .slice bJ aM.length bY, .int .i64 be, .int .i64 bh]] w fun e w' => e = .returned (.bool r) ∧ Below w.heap.size w w' := by
 have hf := Try.underlying52
 have dE := am fC
 have dC := am fy
 clear fC fy
 have d1 := am fD
 have dZ := am fz
 clear fD fz
 have dF := am fE
 have dD := am fA
 clear fE fA
 have d2 := am fF
 have d0 := am fB
 clear fF fB
 have HB := am (Below.refl w.heap.size w)
 have D := h
 clear h
 unfold laws_eqBits.f at D
 obtain ⟨c3, l⟩ | ⟨c3, l⟩ := sp D
 ·obtain ⟨av, aZ⟩ := yE c3; clear c3
  obtain ⟨c4, q⟩ | ⟨c4, q⟩ := sp l
  ·obtain ⟨aV, d6⟩ := yE c4; clear c4; obtain ⟨fG, A5, z⟩ := bsi q; (try dsimp only at z)
   obtain ⟨rfl, J⟩ | ⟨rfl, J⟩ := sb z
   ·obtain ⟨fH, A7, ae⟩ := bsi J; (try dsimp only at ae)
    obtain ⟨rfl, ad⟩ | ⟨rfl, ad⟩ := sb ae
    ·obtain ⟨c9, ay⟩ | ⟨c9, ay⟩ := sp ad
     ·obtain ⟨gV, gW⟩ := yE c9; clear c9
      obtain ⟨c10, aQ⟩ | ⟨c10, aQ⟩ := sp ay
      ·obtain ⟨gN, gO⟩ := yE c10; clear c10; obtain rfl := Option.some.inj aQ; clear aQ D l q z J ae ad ay; go_enter Try.func24, Try.ntmps24
       go_wp2_with (first | ((with_reducible refine gate_dst (N := 2) rfl ?_); refine bx (N := 2) (cs := #[.int .i64 aA, .int .i64 aB, .slice bG aI.length bV, .slice bH aL.length bW, .int .i64 ba, .int .i64 bd]) (t := 52) ?_; intro cU hg hz hbox hb; have aa := am hbox; have ah := gA hg HB; replace HB := hA HB hb; clear hb hbox hg) | ((with_reducible refine gate_dst (N := 3) rfl ?_); refine bx (N := 3) (cs := #[.int .i64 aC, .int .i64 aD, .slice bI aJ.length bX, .slice bJ aM.length bY, .int .i64 be, .int .i64 bh]) (t := 52) ?_; intro cV hg fK hbox hb; have aS := am hbox; have ax := gA hg HB; replace HB := De1 HB ah hb; have aT := nA hg aa; have aU := mA hg aa; replace aa := bA aa hb; clear hb hbox hg; have g3 := aT.out; have g7 := aU.out; obtain ⟨da, db, dc, dd, de, df, dn, dp, dq, dr, dt, du⟩ := cf6 aa; obtain ⟨dh, di, dj, dk, dl, dm, dv, dw, dx, dy, dz, dB⟩ := cf6 aS) | ((with_reducible refine gate_callee (f := 55) rfl ?_); refine gM (some 19) Try.func55 (laws_eqStringS.calls k _ _ aI _ _ aJ true _ (tc (Kd.C_below dE.out HB.out)) dC.out (tc (Kd.C_below dF.out HB.out)) dD.out A5.out) ?_; rintro w' ⟨nd, rfl⟩) | ((with_reducible refine gate_callee (f := 56) rfl ?_); refine gM (some 25) Try.func56 (laws_eqIntS.calls k _ _ aL _ _ aM true _ (tc (Kd.C_below d1.out (Ae2 HB ah ax))) dZ.out (tc (Kd.C_below d2.out (Ae2 HB ah ax))) d0.out A7.out) ?_; rintro w' ⟨nd, rfl⟩))
       go_ret; exact D9x1_
      ·obtain ⟨gN, gO⟩ := nE c10; obtain rfl := Option.some.inj aQ; clear aQ D l q z J ae ad ay; go_enter Try.func24, Try.ntmps24
       go_wp2_with (first | ((with_reducible refine gate_dst (N := 2) rfl ?_); refine bx (N := 2) (cs := #[.int .i64 aA, .int .i64 aB, .slice bG aI.length bV, .slice bH aL.length bW, .int .i64 ba, .int .i64 bd]) (t := 52) ?_; intro cU hg jZ hbox hb; have aa := am hbox; have ah := gA hg HB; replace HB := hA HB hb; clear hb hbox hg) | ((with_reducible refine gate_dst (N := 3) rfl ?_); refine bx (N := 3) (cs := #[.int .i64 aC, .int .i64 aD, .slice bI aJ.length bX, .slice bJ aM.length bY, .int .i64 be, .int .i64 bh]) (t := 52) ?_; intro cV hg fL hbox hb; have aS := am hbox; have ax := gA hg HB; replace HB := De1 HB ah hb; have aT := nA hg aa; have aU := mA hg aa; replace aa := bA aa hb; clear hb hbox hg; have g4 := aT.out; have g8 := aU.out; obtain ⟨da, db, dc, dd, de, df, dn, dp, dq, dr, dt, du⟩ := cf6 aa; obtain ⟨dh, di, dj, dk, dl, dm, dv, dw, dx, dy, dz, dB⟩ := cf6 aS) | ((with_reducible refine gate_callee (f := 55) rfl ?_); refine gM (some 19) Try.func55 (laws_eqStringS.calls k _ _ aI _ _ aJ true _ (tc (Kd.C_below dE.out HB.out)) dC.out (tc (Kd.C_below dF.out HB.out)) dD.out A5.out) ?_; rintro w' ⟨nd, rfl⟩) | ((with_reducible refine gate_callee (f := 56) rfl ?_); refine gM (some 25) Try.func56 (laws_eqIntS.calls k _ _ aL _ _ aM true _ (tc (Kd.C_below d1.out (Ae2 HB ah ax))) dZ.out (tc (Kd.C_below d2.out (Ae2 HB ah ax))) d0.out A7.out) ?_; rintro w' ⟨nd, rfl⟩))
       go_ret; exact D9x1_
     ·obtain ⟨gV, gW⟩ := nE c9; obtain rfl := Option.some.inj ay; clear ay D l q z J ae ad; go_enter Try.func24, Try.ntmps24
      go_wp2_with (first | ((with_reducible refine gate_dst (N := 2) rfl ?_); refine bx (N := 2) (cs := #[.int .i64 aA, .int .i64 aB, .slice bG aI.length bV, .slice bH aL.length bW, .int .i64 ba, .int .i64 bd]) (t := 52) ?_; intro cU hg j6 hbox hb; have aa := am hbox; have ah := gA hg HB; replace HB := hA HB hb; clear hb hbox hg) | ((with_reducible refine gate_dst (N := 3) rfl ?_); refine bx (N := 3) (cs := #[.int .i64 aC, .int .i64 aD, .slice bI aJ.length bX, .slice bJ aM.length bY, .int .i64 be, .int .i64 bh]) (t := 52) ?_; intro cV hg hC hbox hb; have aS := am hbox; have ax := gA hg HB; replace HB := De1 HB ah hb; have aT := nA hg aa; have aU := mA hg aa; replace aa := bA aa hb; clear hb hbox hg; have iC := aT.out; have i5 := aU.out; obtain ⟨da, db, dc, dd, de, df, dn, dp, dq, dr, dt, du⟩ := cf6 aa; obtain ⟨dh, di, dj, dk, dl, dm, dv, dw, dx, dy, dz, dB⟩ := cf6 aS) | ((with_reducible refine gate_callee (f := 55) rfl ?_); refine gM (some 19) Try.func55 (laws_eqStringS.calls k _ _ aI _ _ aJ true _ (tc (Kd.C_below dE.out HB.out)) dC.out (tc (Kd.C_below dF.out HB.out)) dD.out A5.out) ?_; rintro w' ⟨nd, rfl⟩) | ((with_reducible refine gate_callee (f := 56) rfl ?_); refine gM (some 25) Try.func56 (laws_eqIntS.calls k _ _ aL _ _ aM true _ (tc (Kd.C_below d1.out (Ae2 HB ah ax))) dZ.out (tc (Kd.C_below d2.out (Ae2 HB ah ax))) d0.out A7.out) ?_; rintro w' ⟨nd, rfl⟩))
      go_ret; exact D9x1_
    ·obtain rfl := Option.some.inj ad; clear ad D l q z J ae; go_enter Try.func24, Try.ntmps24
     go_wp2_with (first | ((with_reducible refine gate_dst (N := 2) rfl ?_); refine bx (N := 2) (cs := #[.int .i64 aA, .int .i64 aB, .slice bG aI.length bV, .slice bH aL.length bW, .int .i64 ba, .int .i64 bd]) (t := 52) ?_; intro cU hg kc hbox hb; have aa := am hbox; have ah := gA hg HB; replace HB := hA HB hb; clear hb hbox hg) | ((with_reducible refine gate_dst (N := 3) rfl ?_); refine bx (N := 3) (cs := #[.int .i64 aC, .int .i64 aD, .slice bI aJ.length bX, .slice bJ aM.length bY, .int .i64 be, .int .i64 bh]) (t := 52) ?_; intro cV hg hE hbox hb; have aS := am hbox; have ax := gA hg HB; replace HB := De1 HB ah hb; have aT := nA hg aa; have aU := mA hg aa; replace aa := bA aa hb; clear hb hbox hg; have iG := aT.out; have ja := aU.out; obtain ⟨da, db, dc, dd, de, df, dn, dp, dq, dr, dt, du⟩ := cf6 aa; obtain ⟨dh, di, dj, dk, dl, dm, dv, dw, dx, dy, dz, dB⟩ := cf6 aS) | ((with_reducible refine gate_callee (f := 55) rfl ?_); refine gM (some 19) Try.func55 (laws_eqStringS.calls k _ _ aI _ _ aJ true _ (tc (Kd.C_below dE.out HB.out)) dC.out (tc (Kd.C_below dF.out HB.out)) dD.out A5.out) ?_; rintro w' ⟨nd, rfl⟩) | ((with_reducible refine gate_callee (f := 56) rfl ?_); refine gM (some 25) Try.func56 (laws_eqIntS.calls k _ _ aL _ _ aM false _ (tc (Kd.C_below d1.out (Ae2 HB ah ax))) dZ.out (tc (Kd.C_below d2.out (Ae2 HB ah ax))) d0.out A7.out) ?_; rintro w' ⟨nd, rfl⟩))
     go_ret; exact D9x1_
   ·obtain rfl := Option.some.inj J; clear J D l q z; go_enter Try.func24, Try.ntmps24
    go_wp2_with (first | ((with_reducible refine gate_dst (N := 2) rfl ?_); refine bx (N := 2) (cs := #[.int .i64 aA, .int .i64 aB, .slice bG aI.length bV, .slice bH aL.length bW, .int .i64 ba, .int .i64 bd]) (t := 52) ?_; intro cU hg ke hbox hb; have aa := am hbox; have ah := gA hg HB; replace HB := hA HB hb; clear hb hbox hg) | ((with_reducible refine gate_dst (N := 3) rfl ?_); refine bx (N := 3) (cs := #[.int .i64 aC, .int .i64 aD, .slice bI aJ.length bX, .slice bJ aM.length bY, .int .i64 be, .int .i64 bh]) (t := 52) ?_; intro cV hg kf hbox hb; have aS := am hbox; have ax := gA hg HB; replace HB := De1 HB ah hb; have aT := nA hg aa; have aU := mA hg aa; replace aa := bA aa hb; clear hb hbox hg; have iK := aT.out; have je := aU.out; obtain ⟨da, db, dc, dd, de, df, dn, dp, dq, dr, dt, du⟩ := cf6 aa; obtain ⟨dh, di, dj, dk, dl, dm, dv, dw, dx, dy, dz, dB⟩ := cf6 aS) | ((with_reducible refine gate_callee (f := 55) rfl ?_); refine gM (some 19) Try.func55 (laws_eqStringS.calls k _ _ aI _ _ aJ false _ (tc (Kd.C_below dE.out HB.out)) dC.out (tc (Kd.C_below dF.out HB.out)) dD.out A5.out) ?_; rintro w' ⟨nd, rfl⟩))
    go_ret; exact D9x1_
  ·obtain ⟨aV, d6⟩ := nE c4; obtain rfl := Option.some.inj q; clear q D l; go_enter Try.func24, Try.ntmps24
   go_wp2_with (first | ((with_reducible refine gate_dst (N := 2) rfl ?_); refine bx (N := 2) (cs := #[.int .i64 aA, .int .i64 aB, .slice bG aI.length bV, .slice bH aL.length bW, .int .i64 ba, .int .i64 bd]) (t := 52) ?_; intro cU hg hF hbox hb; have aa := am hbox; have ah := gA hg HB; replace HB := hA HB hb; clear hb hbox hg) | ((with_reducible refine gate_dst (N := 3) rfl ?_); refine bx (N := 3) (cs := #[.int .i64 aC, .int .i64 aD, .slice bI aJ.length bX, .slice bJ aM.length bY, .int .i64 be, .int .i64 bh]) (t := 52) ?_; intro cV hg kg hbox hb; have aS := am hbox; have ax := gA hg HB; replace HB := De1 HB ah hb; have aT := nA hg aa; have aU := mA hg aa; replace aa := bA aa hb; clear hb hbox hg; have g5 := aT.out; have g9 := aU.out; obtain ⟨da, db, dc, dd, de, df, dn, dp, dq, dr, dt, du⟩ := cf6 aa; obtain ⟨dh, di, dj, dk, dl, dm, dv, dw, dx, dy, dz, dB⟩ := cf6 aS))
   go_ret; exact D9x1_
 ·obtain ⟨av, aZ⟩ := nE c3; obtain rfl := Option.some.inj l; clear l D; go_enter Try.func24, Try.ntmps24
  go_wp2_with (first | ((with_reducible refine gate_dst (N := 2) rfl ?_); refine bx (N := 2) (cs := #[.int .i64 aA, .int .i64 aB, .slice bG aI.length bV, .slice bH aL.length bW, .int .i64 ba, .int .i64 bd]) (t := 52) ?_; intro cU hg kh hbox hb; have aa := am hbox; have ah := gA hg HB; replace HB := hA HB hb; clear hb hbox hg) | ((with_reducible refine gate_dst (N := 3) rfl ?_); refine bx (N := 3) (cs := #[.int .i64 aC, .int .i64 aD, .slice bI aJ.length bX, .slice bJ aM.length bY, .int .i64 be, .int .i64 bh]) (t := 52) ?_; intro cV hg ki hbox hb; have aS := am hbox; have ax := gA hg HB; replace HB := De1 HB ah hb; have aT := nA hg aa; have aU := mA hg aa; replace aa := bA aa hb; clear hb hbox hg; have g6 := aT.out; have ha := aU.out; obtain ⟨da, db, dc, dd, de, df, dn, dp, dq, dr, dt, du⟩ := cf6 aa; obtain ⟨dh, di, dj, dk, dl, dm, dv, dw, dx, dy, dz, dB⟩ := cf6 aS))
  go_ret; exact D9x1_

def laws_eqBitsS.l0 : Nat → List (S52) → List (S52) → Int → Option (Bool)
 | 0, _, _, _ => none
 | k + 1, Z, x1, M => if M < (Z.length : Int) then (if 0 ≤ M then (if M < (x1.length : Int) then ((laws_eqBits.f k ((rd_T52 Z M).f0) ((rd_T52 Z M).f1) ((rd_T52 Z M).f2) ((rd_T52 Z M).f3) ((rd_T52 Z M).f4) ((rd_T52 Z M).f5) ((rd_T52 x1 M).f0) ((rd_T52 x1 M).f1) ((rd_T52 x1 M).f2) ((rd_T52 x1 M).f3) ((rd_T52 x1 M).f4) ((rd_T52 x1 M).f5)).bind fun fI => (if fI = true then (laws_eqBitsS.l0 k Z x1 (wrap64 (M + 1))) else (some false))) else (none)) else (none)) else (some true)
def laws_eqBitsS.f (k : Nat) (l0 : List (S52)) (l1 : List (S52)) : Option (Bool) := if (l0.length : Int) = (l1.length : Int) then (laws_eqBitsS.l0 k l0 l1 0) else (some false)
def laws_eqBitsS.T6 : Bool × List (List Nat × List Nat) := (true, [([], []), ([], []), ([0, 1], [0, 1]), ([2], [2]), ([], []), ([], []), ([4, 5], [4, 5]), ([6], [6]), ([3, 7], [3, 7]), ([8], [8])])
def laws_eqBitsS.B6 : List Nat := [0, 0, 3, 7, 0, 0, 48, 112, 255, 511]
theorem laws_eqBitsS.tab6 : rtab .any (opsOf Try.f8 6) = laws_eqBitsS.T6 := by kernel_rfl
theorem laws_eqBitsS.bits6 : waitsOk laws_eqBitsS.T6.2 laws_eqBitsS.B6 = true := by kernel_rfl
theorem laws_eqBitsS.calls (k : Nat) (A0 : Option Addr) (c0 : Nat) (l0 : List (S52)) (A1 : Option Addr) (c1 : Nat) (l1 : List (S52)) (r : Bool) (w : World) (aO : Kd.C k52 w A0 l0.length l0) (aN : l0.length ≤ c0) (ck : Kd.C k52 w A1 l1.length l1) (cj : l1.length ≤ c1) (h : laws_eqBitsS.f k l0 l1 = some r) :
  Calls Try.prog 8 #[.slice A0 l0.length c0, .slice A1 l1.length c1] w fun e w' => e = .returned (.bool r) ∧ Below w.heap.size w w' := by
 have hf := Try.underlying52
 have aH := am aO
 have bM := am aN
 clear aO aN
 have ch := am ck
 have fm := am cj
 clear ck cj
 have HB := am (Below.refl w.heap.size w)
 have D := h
 clear h
 unfold laws_eqBitsS.f at D
 obtain ⟨c3, l⟩ | ⟨c3, l⟩ := sp D
 ·obtain ⟨av, aZ⟩ := yE c3
  have ci : (l0.length == l1.length) = true := by first | simpa using c3 | (simp at c3 ⊢; omega)
  clear c3; replace l := am l; clear D; go_enter Try.func8, Try.ntmps8
  go_wp2
  go_loopg [5] k (fun kq v5 w' => ∃ (j : Int), v5 = .int .i64 j ∧ Aside0 (laws_eqBitsS.l0 kq l0 l1 j = some r) ∧ Aside0 (kq ≤ k) ∧ Aside0 (Below w.heap.size w w'))
  case atStart => exact ⟨(0), be_, l, ⟨Nat.le_refl _⟩, Ce0 HB⟩
  case round =>
   clear l
   try clear c1
   try clear c3
   try clear av
   try clear aZ
   try clear ci
   obtain ⟨j, rfl, q, aK, HB⟩ := hrel
   cases gk with
   | zero => exact absurd q.out (by simp [laws_eqBitsS.l0])
   | succ k1 => ?_
   replace q := q.out; simp only [laws_eqBitsS.l0] at q
   obtain ⟨aV, z⟩ | ⟨aV, z⟩ := sd q
   ·obtain ⟨cv, J⟩ := yd z; obtain ⟨cS, ae⟩ := yd J; obtain ⟨fI, A7, ad⟩ := bsi ae; (try dsimp only at ad)
    obtain ⟨rfl, ay⟩ | ⟨rfl, ay⟩ := sb ad
    ·replace ay := am ay; clear q z J ae ad
     try go_wp2
     replace HB := bdr HB
     have cA : 0 ≤ (j : Int) := dga
     have cI : j < (l0.length : Int) := dga
     obtain ⟨ar, ev, eM, ew, eN, eY, bk, bl, bm, bn, bo, bp, hl536_2, hi536_2, hl536_3, hi536_3⟩ := at_T52 aH.out j cA cI; have b4 := bp; have b3 := bo; have b2 := bn; have b1 := bm; have b0 := bl; have bZ := bk; cases eY; replace bk := (hbc HB bk).trans bk; replace bl := (hbc HB bl).trans bl; replace bm := (hbc HB bm).trans bm; replace bn := (hbc HB bn).trans bn; replace bo := (hbc HB bo).trans bo; replace bp := (hbc HB bp).trans bp; have dG := am hi536_2; have ez := am hl536_2; clear hi536_2 hl536_2; have dH := am hi536_3; have eB := am hl536_3; clear hi536_3 hl536_3; replace cA := eq_true cA; replace cI := eq_true cI
     have cB : 0 ≤ (j : Int) := dga
     have cJ : j < (l1.length : Int) := dga
     obtain ⟨au, ex, eO, ey, eP, eZ, bq, br, bu, bv, bw, bz, hl537_2, hi537_2, hl537_3, hi537_3⟩ := at_T52 ch.out j cB cJ; have ca := bz; have b9 := bw; have b8 := bv; have b7 := bu; have b6 := br; have b5 := bq; cases eZ; replace bq := (hbc HB bq).trans bq; replace br := (hbc HB br).trans br; replace bu := (hbc HB bu).trans bu; replace bv := (hbc HB bv).trans bv; replace bw := (hbc HB bw).trans bw; replace bz := (hbc HB bz).trans bz; have dI := am hi537_2; have eC := am hl537_2; clear hi537_2 hl537_2; have dJ := am hi537_3; have eD := am hl537_3; clear hi537_3 hl537_3; replace cB := eq_true cB; replace cJ := eq_true cJ; refine st_ 10 (fun w' => w'.cell? (ar.add ((j).toNat * 6)) = some (.int .i64 ((rd_T52 l0 j).f0)) ∧ w'.cell? ⟨(ar.add ((j).toNat * 6)).block, (ar.add ((j).toNat * 6)).off + 1, none⟩ = some (.int .i64 ((rd_T52 l0 j).f1)) ∧ w'.cell? ⟨(ar.add ((j).toNat * 6)).block, (ar.add ((j).toNat * 6)).off + 2, none⟩ = some (.slice ev ((rd_T52 l0 j).f2).length eM) ∧ w'.cell? ⟨(ar.add ((j).toNat * 6)).block, (ar.add ((j).toNat * 6)).off + 3, none⟩ = some (.slice ew ((rd_T52 l0 j).f3).length eN) ∧ w'.cell? ⟨(ar.add ((j).toNat * 6)).block, (ar.add ((j).toNat * 6)).off + 4, none⟩ = some (.int .i64 ((rd_T52 l0 j).f4)) ∧ w'.cell? ⟨(ar.add ((j).toNat * 6)).block, (ar.add ((j).toNat * 6)).off + 5, none⟩ = some (.int .i64 ((rd_T52 l0 j).f5)) ∧ w'.cell? (au.add ((j).toNat * 6)) = some (.int .i64 ((rd_T52 l1 j).f0)) ∧ w'.cell? ⟨(au.add ((j).toNat * 6)).block, (au.add ((j).toNat * 6)).off + 1, none⟩ = some (.int .i64 ((rd_T52 l1 j).f1)) ∧ w'.cell? ⟨(au.add ((j).toNat * 6)).block, (au.add ((j).toNat * 6)).off + 2, none⟩ = some (.slice ex ((rd_T52 l1 j).f2).length eO) ∧ w'.cell? ⟨(au.add ((j).toNat * 6)).block, (au.add ((j).toNat * 6)).off + 3, none⟩ = some (.slice ey ((rd_T52 l1 j).f3).length eP) ∧ w'.cell? ⟨(au.add ((j).toNat * 6)).block, (au.add ((j).toNat * 6)).off + 4, none⟩ = some (.int .i64 ((rd_T52 l1 j).f4)) ∧ w'.cell? ⟨(au.add ((j).toNat * 6)).block, (au.add ((j).toNat * 6)).off + 5, none⟩ = some (.int .i64 ((rd_T52 l1 j).f5))) [] laws_eqBitsS.tab6 laws_eqBitsS.bits6 D9x0_ (fun aj ap dK => ?_); generalize wr.drew = w9 at HB dG dH dI dJ bk bl bm bn bo bp bq br bu bv bw bz aj ⊢; refine pu_ 0 17 ap ?_; refine pu_ 1 18 ap ?_; refine pu_ 2 19 ap ?_; refine pu_ 4 21 ap ?_; refine pu_ 5 22 ap ?_; refine pu_ 6 23 ap ?_; refine ta_ 3 20 ap dK aj ?_; refine ta_ 7 24 ap dK aj ?_; refine on_ 8 (some 25) ap (fun K hK => ?_); refine gT Try.func24 (laws_eqBits.calls k1 ((rd_T52 l0 j).f0) ((rd_T52 l0 j).f1) _ _ ((rd_T52 l0 j).f2) _ _ ((rd_T52 l0 j).f3) ((rd_T52 l0 j).f4) ((rd_T52 l0 j).f5) ((rd_T52 l1 j).f0) ((rd_T52 l1 j).f1) _ _ ((rd_T52 l1 j).f2) _ _ ((rd_T52 l1 j).f3) ((rd_T52 l1 j).f4) ((rd_T52 l1 j).f5) true _ (tc (Kd.C_below dG.out HB.out)) ez.out (tc (Kd.C_below dH.out HB.out)) eB.out (tc (Kd.C_below dI.out HB.out)) eC.out (tc (Kd.C_below dJ.out HB.out)) eD.out A7.out) ?_; rintro dX hb; replace HB := hA HB hb; refine hK.out _ _ D9x0_ (fun aj => nm_ ?_); clear hK K; refine pu_ 9 26 ap ?_; refine done_ (done_of ap.out gk_) ?_
     try go_wp2
     go_roundg k1
     case measure => have := aK.out; omega
     case rel => exact ⟨(wrap64 (j + 1)), be_, ay, ⟨B18x20_⟩, Ce0 HB⟩
    ·obtain rfl := Option.some.inj ay; clear ay q z J ae ad
     try go_wp2
     replace HB := bdr HB
     have cA : 0 ≤ (j : Int) := dga
     have cI : j < (l0.length : Int) := dga
     obtain ⟨ar, ev, eM, ew, eN, eY, bk, bl, bm, bn, bo, bp, hl536_2, hi536_2, hl536_3, hi536_3⟩ := at_T52 aH.out j cA cI; have b4 := bp; have b3 := bo; have b2 := bn; have b1 := bm; have b0 := bl; have bZ := bk; cases eY; replace bk := (hbc HB bk).trans bk; replace bl := (hbc HB bl).trans bl; replace bm := (hbc HB bm).trans bm; replace bn := (hbc HB bn).trans bn; replace bo := (hbc HB bo).trans bo; replace bp := (hbc HB bp).trans bp; have dG := am hi536_2; have ez := am hl536_2; clear hi536_2 hl536_2; have dH := am hi536_3; have eB := am hl536_3; clear hi536_3 hl536_3; replace cA := eq_true cA; replace cI := eq_true cI
     have cB : 0 ≤ (j : Int) := dga
     have cJ : j < (l1.length : Int) := dga
     obtain ⟨au, ex, eO, ey, eP, eZ, bq, br, bu, bv, bw, bz, hl537_2, hi537_2, hl537_3, hi537_3⟩ := at_T52 ch.out j cB cJ; have ca := bz; have b9 := bw; have b8 := bv; have b7 := bu; have b6 := br; have b5 := bq; cases eZ; replace bq := (hbc HB bq).trans bq; replace br := (hbc HB br).trans br; replace bu := (hbc HB bu).trans bu; replace bv := (hbc HB bv).trans bv; replace bw := (hbc HB bw).trans bw; replace bz := (hbc HB bz).trans bz; have dI := am hi537_2; have eC := am hl537_2; clear hi537_2 hl537_2; have dJ := am hi537_3; have eD := am hl537_3; clear hi537_3 hl537_3; replace cB := eq_true cB; replace cJ := eq_true cJ; refine st_ 10 (fun w' => w'.cell? (ar.add ((j).toNat * 6)) = some (.int .i64 ((rd_T52 l0 j).f0)) ∧ w'.cell? ⟨(ar.add ((j).toNat * 6)).block, (ar.add ((j).toNat * 6)).off + 1, none⟩ = some (.int .i64 ((rd_T52 l0 j).f1)) ∧ w'.cell? ⟨(ar.add ((j).toNat * 6)).block, (ar.add ((j).toNat * 6)).off + 2, none⟩ = some (.slice ev ((rd_T52 l0 j).f2).length eM) ∧ w'.cell? ⟨(ar.add ((j).toNat * 6)).block, (ar.add ((j).toNat * 6)).off + 3, none⟩ = some (.slice ew ((rd_T52 l0 j).f3).length eN) ∧ w'.cell? ⟨(ar.add ((j).toNat * 6)).block, (ar.add ((j).toNat * 6)).off + 4, none⟩ = some (.int .i64 ((rd_T52 l0 j).f4)) ∧ w'.cell? ⟨(ar.add ((j).toNat * 6)).block, (ar.add ((j).toNat * 6)).off + 5, none⟩ = some (.int .i64 ((rd_T52 l0 j).f5)) ∧ w'.cell? (au.add ((j).toNat * 6)) = some (.int .i64 ((rd_T52 l1 j).f0)) ∧ w'.cell? ⟨(au.add ((j).toNat * 6)).block, (au.add ((j).toNat * 6)).off + 1, none⟩ = some (.int .i64 ((rd_T52 l1 j).f1)) ∧ w'.cell? ⟨(au.add ((j).toNat * 6)).block, (au.add ((j).toNat * 6)).off + 2, none⟩ = some (.slice ex ((rd_T52 l1 j).f2).length eO) ∧ w'.cell? ⟨(au.add ((j).toNat * 6)).block, (au.add ((j).toNat * 6)).off + 3, none⟩ = some (.slice ey ((rd_T52 l1 j).f3).length eP) ∧ w'.cell? ⟨(au.add ((j).toNat * 6)).block, (au.add ((j).toNat * 6)).off + 4, none⟩ = some (.int .i64 ((rd_T52 l1 j).f4)) ∧ w'.cell? ⟨(au.add ((j).toNat * 6)).block, (au.add ((j).toNat * 6)).off + 5, none⟩ = some (.int .i64 ((rd_T52 l1 j).f5))) [] laws_eqBitsS.tab6 laws_eqBitsS.bits6 D9x0_ (fun aj ap dK => ?_); generalize wr.drew = hz at HB dG dH dI dJ bk bl bm bn bo bp bq br bu bv bw bz aj ⊢; refine pu_ 0 17 ap ?_; refine pu_ 1 18 ap ?_; refine pu_ 2 19 ap ?_; refine pu_ 4 21 ap ?_; refine pu_ 5 22 ap ?_; refine pu_ 6 23 ap ?_; refine ta_ 3 20 ap dK aj ?_; refine ta_ 7 24 ap dK aj ?_; refine on_ 8 (some 25) ap (fun K hK => ?_); refine gT Try.func24 (laws_eqBits.calls k1 ((rd_T52 l0 j).f0) ((rd_T52 l0 j).f1) _ _ ((rd_T52 l0 j).f2) _ _ ((rd_T52 l0 j).f3) ((rd_T52 l0 j).f4) ((rd_T52 l0 j).f5) ((rd_T52 l1 j).f0) ((rd_T52 l1 j).f1) _ _ ((rd_T52 l1 j).f2) _ _ ((rd_T52 l1 j).f3) ((rd_T52 l1 j).f4) ((rd_T52 l1 j).f5) false _ (tc (Kd.C_below dG.out HB.out)) ez.out (tc (Kd.C_below dH.out HB.out)) eB.out (tc (Kd.C_below dI.out HB.out)) eC.out (tc (Kd.C_below dJ.out HB.out)) eD.out A7.out) ?_; rintro fK hb; replace HB := hA HB hb; refine hK.out _ _ D9x0_ (fun aj => nm_ ?_); clear hK K; refine pu_ 9 26 ap ?_; refine done_ (done_of ap.out gk_) ?_
     try go_wp2
     go_ret; exact ⟨B17x16_, (Ae0 HB)⟩
   ·obtain rfl := Option.some.inj z; clear z q
    go_wp2
    go_ret; exact ⟨B17x16_, (Ae0 HB)⟩
 ·obtain ⟨av, aZ⟩ := nE c3
  have ci : (l0.length == l1.length) = false := by first | simpa using c3 | (simp at c3 ⊢; omega)
  obtain rfl := Option.some.inj l; clear l D; go_enter Try.func8, Try.ntmps8
  go_wp2
  go_ret; exact ⟨B17x16_, (Ae0 HB)⟩

def laws_eqSeg.f (aA : Int) (aB : Int) (bR : Int) (bS : ByteArray) (aC : Int) (aD : Int) (bT : Int) (bU : ByteArray) : Option (Bool) := if aA = aC then (if aB = aD then (if bR = bT then (if bS.toList = bU.toList then (some true) else (some false)) else (some false)) else (some false)) else (some false)
theorem laws_eqSeg.calls (aA : Int) (aB : Int) (bR : Int) (bS : ByteArray) (aC : Int) (aD : Int) (bT : Int) (bU : ByteArray) (r : Bool) (w : World) (h : laws_eqSeg.f aA aB bR bS aC aD bT bU = some r) :
  Calls Try.prog 9 #[.agg #[.int .i64 aA, .int .i64 aB, .int .i64 bR, .string bS], .agg #[.int .i64 aC, .int .i64 aD, .int .i64 bT, .string bU]] w fun e w' => e = .returned (.bool r) ∧ Below w.heap.size w w' := by
 have he := Try.underlying26
 have HB := am (Below.refl w.heap.size w)
 have D := h
 clear h
 unfold laws_eqSeg.f at D
 obtain ⟨c3, l⟩ | ⟨c3, l⟩ := sp D
 ·obtain ⟨av, aZ⟩ := yE c3; clear c3
  obtain ⟨c4, q⟩ | ⟨c4, q⟩ := sp l
  ·obtain ⟨aV, d6⟩ := yE c4; clear c4
   obtain ⟨c5, z⟩ | ⟨c5, z⟩ := sp q
   ·obtain ⟨cv, eQ⟩ := yE c5; clear c5
    obtain ⟨c6, J⟩ | ⟨c6, J⟩ := sp z
    ·obtain ⟨cS, eR⟩ := yE c6; clear c6; obtain rfl := Option.some.inj J; clear J D l q z; go_enter Try.func9, Try.ntmps9
     go_wp2_with (first | ((with_reducible refine gate_dst (N := 2) rfl ?_); refine bx (N := 2) (cs := #[.int .i64 aA, .int .i64 aB, .int .i64 bR, .string bS]) (t := 26) ?_; intro d8 hg w7 hbox hb; have af := am hbox; have aP := gA hg HB; replace HB := hA HB hb; clear hb hbox hg) | ((with_reducible refine gate_dst (N := 3) rfl ?_); refine bx (N := 3) (cs := #[.int .i64 aC, .int .i64 aD, .int .i64 bT, .string bU]) (t := 26) ?_; intro d9 hg w8 hbox hb; have bK := am hbox; have bL := gA hg HB; replace HB := De1 HB aP hb; have bP := nA hg af; have bQ := mA hg af; replace af := bA af hb; clear hb hbox hg; have i0 := bP.out; have ju := bQ.out; obtain ⟨ee, ef, eg, eh, em, en, eo, ep⟩ := cf4 af; obtain ⟨ei, ej, ek, el, eq, er, et, eu⟩ := cf4 bK))
     go_ret; exact ⟨B17x16_, (Ae2 HB aP bL)⟩
    ·obtain ⟨cS, eR⟩ := nE c6; obtain rfl := Option.some.inj J; clear J D l q z; go_enter Try.func9, Try.ntmps9
     go_wp2_with (first | ((with_reducible refine gate_dst (N := 2) rfl ?_); refine bx (N := 2) (cs := #[.int .i64 aA, .int .i64 aB, .int .i64 bR, .string bS]) (t := 26) ?_; intro d8 hg fK hbox hb; have af := am hbox; have aP := gA hg HB; replace HB := hA HB hb; clear hb hbox hg) | ((with_reducible refine gate_dst (N := 3) rfl ?_); refine bx (N := 3) (cs := #[.int .i64 aC, .int .i64 aD, .int .i64 bT, .string bU]) (t := 26) ?_; intro d9 hg jY hbox hb; have bK := am hbox; have bL := gA hg HB; replace HB := De1 HB aP hb; have bP := nA hg af; have bQ := mA hg af; replace af := bA af hb; clear hb hbox hg; have iz := bP.out; have i2 := bQ.out; obtain ⟨ee, ef, eg, eh, em, en, eo, ep⟩ := cf4 af; obtain ⟨ei, ej, ek, el, eq, er, et, eu⟩ := cf4 bK))
     go_ret; exact ⟨B17x16_, (Ae2 HB aP bL)⟩
   ·obtain ⟨cv, eQ⟩ := nE c5; obtain rfl := Option.some.inj z; clear z D l q; go_enter Try.func9, Try.ntmps9
    go_wp2_with (first | ((with_reducible refine gate_dst (N := 2) rfl ?_); refine bx (N := 2) (cs := #[.int .i64 aA, .int .i64 aB, .int .i64 bR, .string bS]) (t := 26) ?_; intro d8 hg fL hbox hb; have af := am hbox; have aP := gA hg HB; replace HB := hA HB hb; clear hb hbox hg) | ((with_reducible refine gate_dst (N := 3) rfl ?_); refine bx (N := 3) (cs := #[.int .i64 aC, .int .i64 aD, .int .i64 bT, .string bU]) (t := 26) ?_; intro d9 hg j4 hbox hb; have bK := am hbox; have bL := gA hg HB; replace HB := De1 HB aP hb; have bP := nA hg af; have bQ := mA hg af; replace af := bA af hb; clear hb hbox hg; have iA := bP.out; have i3 := bQ.out; obtain ⟨ee, ef, eg, eh, em, en, eo, ep⟩ := cf4 af; obtain ⟨ei, ej, ek, el, eq, er, et, eu⟩ := cf4 bK))
    go_ret; exact ⟨B17x16_, (Ae2 HB aP bL)⟩
  ·obtain ⟨aV, d6⟩ := nE c4; obtain rfl := Option.some.inj q; clear q D l; go_enter Try.func9, Try.ntmps9
   go_wp2_with (first | ((with_reducible refine gate_dst (N := 2) rfl ?_); refine bx (N := 2) (cs := #[.int .i64 aA, .int .i64 aB, .int .i64 bR, .string bS]) (t := 26) ?_; intro d8 hg hC hbox hb; have af := am hbox; have aP := gA hg HB; replace HB := hA HB hb; clear hb hbox hg) | ((with_reducible refine gate_dst (N := 3) rfl ?_); refine bx (N := 3) (cs := #[.int .i64 aC, .int .i64 aD, .int .i64 bT, .string bU]) (t := 26) ?_; intro d9 hg j9 hbox hb; have bK := am hbox; have bL := gA hg HB; replace HB := De1 HB aP hb; have bP := nA hg af; have bQ := mA hg af; replace af := bA af hb; clear hb hbox hg; have iD := bP.out; have i6 := bQ.out; obtain ⟨ee, ef, eg, eh, em, en, eo, ep⟩ := cf4 af; obtain ⟨ei, ej, ek, el, eq, er, et, eu⟩ := cf4 bK))
   go_ret; exact ⟨B17x16_, (Ae2 HB aP bL)⟩
 ·obtain ⟨av, aZ⟩ := nE c3; obtain rfl := Option.some.inj l; clear l D; go_enter Try.func9, Try.ntmps9
  go_wp2_with (first | ((with_reducible refine gate_dst (N := 2) rfl ?_); refine bx (N := 2) (cs := #[.int .i64 aA, .int .i64 aB, .int .i64 bR, .string bS]) (t := 26) ?_; intro d8 hg hE hbox hb; have af := am hbox; have aP := gA hg HB; replace HB := hA HB hb; clear hb hbox hg) | ((with_reducible refine gate_dst (N := 3) rfl ?_); refine bx (N := 3) (cs := #[.int .i64 aC, .int .i64 aD, .int .i64 bT, .string bU]) (t := 26) ?_; intro d9 hg kd hbox hb; have bK := am hbox; have bL := gA hg HB; replace HB := De1 HB aP hb; have bP := nA hg af; have bQ := mA hg af; replace af := bA af hb; clear hb hbox hg; have iH := bP.out; have jb := bQ.out; obtain ⟨ee, ef, eg, eh, em, en, eo, ep⟩ := cf4 af; obtain ⟨ei, ej, ek, el, eq, er, et, eu⟩ := cf4 bK))
  go_ret; exact ⟨B17x16_, (Ae2 HB aP bL)⟩

def laws_markText.l0 : Nat → Int → ByteArray → Option (ByteArray)
 | 0, _, _ => none
 | k + 1, Z, x3 => if Z > 0 then ((some (([(wrap64 (48 + (Int.tmod Z 10))) % 256] : List Int) : List Int)).bind fun dY => (if (strOfNums dY).size + x3.size ≤ 9223372036854775807 then (laws_markText.l0 k (wrap64 (Int.tdiv Z 10)) ((strOfNums dY) ++ x3)) else (none))) else (if 1 + x3.size ≤ 9223372036854775807 then (some ((⟨#[109]⟩ : ByteArray) ++ x3)) else (none))
def laws_markText.f (k : Nat) (a0 : Int) : Option (ByteArray) := if a0 ≤ 0 then (some (⟨#[109, 48]⟩ : ByteArray)) else (laws_markText.l0 k a0 (⟨#[]⟩ : ByteArray))
theorem laws_markText.calls (k : Nat) (a0 : Int) (r : ByteArray) (w : World) (h : laws_markText.f k a0 = some r) :
  Calls Try.prog 57 #[.int .i64 a0] w fun e w' => e = .returned (.string r) ∧ Below w.heap.size w w' := by
 have HB := am (Below.refl w.heap.size w)
 have D := h
 clear h
 unfold laws_markText.f at D
 obtain ⟨ft, l⟩ | ⟨ft, l⟩ := sd D
 ·obtain rfl := Option.some.inj l; clear l D; go_enter Try.func57, Try.ntmps57
  go_wp2
  go_ret; exact ⟨B17x16_, (Ae0 HB)⟩
 ·replace l := am l; clear D; go_enter Try.func57, Try.ntmps57
  go_wp2
  go_loopg [0, 3] k (fun kq v0 v3 w' => ∃ (ak : Int) (cZ : ByteArray), v0 = .int .i64 ak ∧ v3 = .string cZ ∧ Aside0 (laws_markText.l0 kq ak cZ = some r) ∧ Aside0 (kq ≤ k) ∧ Aside0 (Below w.heap.size w w'))
  case atStart => exact ⟨(a0), ((⟨#[]⟩ : ByteArray)), be_, be_, l, ⟨Nat.le_refl _⟩, Ce0 HB⟩
  case round =>
   clear l
   try clear c2
   try clear ft
   obtain ⟨ak, cZ, rfl, rfl, q, aK, HB⟩ := hrel
   cases gk with
   | zero => exact absurd q.out (by simp [laws_markText.l0])
   | succ k1 => ?_
   replace q := q.out; simp only [laws_markText.l0] at q
   obtain ⟨c3, z⟩ | ⟨c3, z⟩ := sp q
   ·have av : decide (0 < ak) = true := decide_eq_true c3
    clear c3; obtain ⟨dY, dT⟩ : ∃ y_ : List Int, y_ = (([(wrap64 (48 + (Int.tmod ak 10))) % 256] : List Int)) := ⟨_, rfl⟩
    (first | with_reducible replace z := hq dT z | rw [← dT] at z | simp only [← dT] at z)
    have fs := am dT; clear dT; obtain ⟨c4, J⟩ := yn z; have aV := eq_true c4; have d6 := decide_eq_true c4
    try have gP : (9223372036854775807 < (strOfNums dY).size + cZ.size) = False := eq_false (Nat.not_lt.2 c4)
    try (have gQ := gP; simp only [ByteArray.size_append] at gQ)
    replace J := am J; clear q z
    go_wp2_with (first | ((with_reducible refine gate_dst (N := 12) rfl ?_); refine lL (Kd.int .u8) 5 12 ([(wrap64 (48 + (Int.tmod ak 10))) % 256] : List Int) [.int .u8 ((wrap64 (48 + (Int.tmod ak 10))) % 256)] (Reps.one (show Kd.M (Kd.int .u8) _ _ _ ((wrap64 (48 + (Int.tmod ak 10))) % 256) [.int .u8 ((wrap64 (48 + (Int.tmod ak 10))) % 256)] from rfl) (Reps.none _ _)) ?_; intro jX w5 dS hb; (first | rw [← fs.out] at dS | (simp only [Int.reduceToNat] at dS; rw [← fs.out] at dS)); have gw := am (Kd.R_lower dS (below_size (Ae0 HB))); replace HB := hA HB hb; clear hb dS; have h6 := own_string (P := Try.prog) Try.underlying90 Try.underlying5 Try.underlying9 (Kd.own_of_R gw.out)))
    go_roundg k1
    case measure => have := aK.out; omega
    case rel => exact ⟨(wrap64 (Int.tdiv ak 10)), ((strOfNums dY) ++ cZ), be_, be_, J, ⟨B18x20_⟩, Ce0 HB⟩
   ·have av : decide (0 < ak) = false := decide_eq_false c3
    clear c3; obtain ⟨c8, ae⟩ := yn z; have h1 := eq_true c8; have h2 := decide_eq_true c8
    try have gR : (9223372036854775807 < 1 + cZ.size) = False := eq_false (Nat.not_lt.2 c8)
    try (have gU := gR; simp only [ByteArray.size_append] at gU)
    obtain rfl := Option.some.inj ae; clear ae q z
    go_wp2
    go_ret; exact ⟨B17x16_, (Ae0 HB)⟩

def laws_markStringS.l0 : Nat → List ByteArray → Int → Int → Option (Int × List ByteArray)
 | 0, _, _, _ => none
 | k + 1, Z, x1, M => if M < (Z.length : Int) then ((laws_markText.f k x1).bind fun cW => (if 0 ≤ M then (laws_markStringS.l0 k (Z.set (M : Int).toNat cW) (wrap64 (x1 + 1)) (wrap64 (M + 1))) else (none))) else (some (x1, Z))
def laws_markStringS.f (k : Nat) (l0 : List ByteArray) (a1 : Int) : Option (Int × List ByteArray) := laws_markStringS.l0 k l0 a1 0
theorem laws_markStringS.calls (k : Nat) (P0_ : Nat → Prop) (bC : Value) (l0 : List ByteArray) (a1 : Int) (r1 : Int) (r2 : List ByteArray) (w0 w : World) (hB : Below w0.heap.size w0 w) (bj : Kd.R Kd.string 9 w w0.heap.size P0_ bC l0) (h : laws_markStringS.f k l0 a1 = some (r1, r2)) :
  Calls Try.prog 25 #[bC, .int .i64 a1] w fun e w' => e = .returned (.int .i64 r1) ∧ Kd.R Kd.string 9 w' w0.heap.size (fun k_ => (P0_ k_ ∨ w.heap.size ≤ k_)) bC r2 ∧ Below w0.heap.size w0 w' ∧ Kept w w' (fun k_ => P0_ k_) := by
 have eE := am (show Kd.R Kd.string 9 w w0.heap.size (fun k_ => (P0_ k_ ∨ w.heap.size ≤ k_)) bC l0 from Kd.R_mono bj (fun k_ hk => (.inl hk)))
 have HK := am (Kept.refl w (fun k_ => P0_ k_))
 have gx := am hB.size
 have HB := am hB
 clear hB
 have D := h
 clear h
 unfold laws_markStringS.f at D
 replace D := am D
 go_enter Try.func25, Try.ntmps25
 go_wp2
 go_loopg [1, 5] k (fun kq v1 v5 w' => ∃ (ak : List ByteArray) (al : Int) (j : Int), v1 = .int .i64 al ∧ v5 = .int .i64 j ∧ Aside0 (laws_markStringS.l0 kq ak al j = some (r1, r2)) ∧ Aside0 (kq ≤ k) ∧ Aside0 (Kd.R Kd.string 9 w' w0.heap.size (fun k_ => (P0_ k_ ∨ w.heap.size ≤ k_)) bC ak) ∧ Aside0 (Kept w w' (fun k_ => P0_ k_)) ∧ Aside0 (Below w0.heap.size w0 w'))
 case atStart => exact ⟨(l0), a1, 0, be_, be_, D, ⟨Nat.le_refl _⟩, Cr eE, ⟨B18x13_⟩, Ce0 HB⟩
 case round =>
  clear D; obtain ⟨ak, al, j, rfl, rfl, l, aK, ao, HK, HB⟩ := hrel
  cases gk with
  | zero => exact absurd l.out (by simp [laws_markStringS.l0])
  | succ k1 => ?_
  replace l := l.out; simp only [laws_markStringS.l0] at l
  obtain ⟨av, q⟩ | ⟨av, q⟩ := sd l
  ·obtain ⟨cW, A4, z⟩ := bsi q; (try dsimp only at z); obtain ⟨cv, J⟩ := yd z; obtain ⟨fM, dU⟩ : ∃ y_ : List ByteArray, y_ = (ak.set (j : Int).toNat cW) := ⟨_, rfl⟩
   (first | with_reducible replace J := hq dU J | rw [← dU] at J | simp only [← dU] at J)
   have gD := am dU; clear dU; replace J := am J; clear l q z; obtain ⟨hV, gX, gZ⟩ := Kd.R_slice ao.out; subst gZ
   go_wp2_with (first | ((with_reducible refine gate_callee (f := 57) rfl ?_); refine gM (some 15) Try.func57 (laws_markText.calls k1 al cW _ A4.out) ?_; rintro w8 hb; replace ao := rA ao hb; replace HK := am (Kept.below (S := (fun k_ => P0_ k_)) B18x13_ hb); replace HB := hA HB hb; have p6 : 0 ≤ (j : Int) := dga; have q6 : (j : Int) < ((ak.length : Int) : Int) := dga; obtain ⟨dR, fu, d7, fx, g2, cl6, fo⟩ := Kd.R_form ao.out (by omega); (first | cases d7 | (injection d7 with ea_ en_ ec_; (first | subst ea_ | (injection ea_ with ea_; subst ea_)); subst ec_; clear en_)); have gr := am fx; have hY := am fo; clear fx g2 fo; have HMgo6 := am (show (P0_ dR ∨ w.heap.size ≤ dR) from (ao.out.1 _ rfl)); obtain ⟨jS, h8⟩ := Kd.R_celln (⟨#[]⟩ : ByteArray) ao.out (j : Int) p6 q6; replace p6 := eq_true p6; replace q6 := eq_true q6; obtain ⟨jT, hz9_⟩ := Kd.R_celln (⟨#[]⟩ : ByteArray) ao.out (j : Int) (dga) (dga); have eG := Kd.R_putg ao.out (j : Int) cW) | ((with_reducible refine gate_store (t := 9) (p := 16) rfl ?_); refine store_event (t := 9) (p := 16) (v := ?vo_w10) (w1 := (w8.setCell ⟨dR, (j : Int).toNat, none⟩ (.string cW))) ?hg ?ho ?hn ?hr ?_; (case ho => rfl); (case hg => rfl); (case hn => rfl); (case hr => exact gs_); intro dX hw; have hg : w8.grownBy dX (some dR) := (by rw [hw]; exact eG.2); have hp_ : Kd.R Kd.string 9 dX w0.heap.size (fun k_ => (P0_ k_ ∨ w.heap.size ≤ k_)) (.slice (some ⟨dR, 0, none⟩) ak.length gX) fM := (by rw [hw, gD.out]; exact eG.1); clear eG; replace HB := am (by rw [hw]; exact below_set (HB.out) gr.out : Below w0.heap.size w0 dX); replace HK := am (Kept.of_grown (S := (fun k_ => P0_ k_)) hg B18x13_ (fun k_ e_ => (ao.out.1 k_ e_))); replace ao := am hp_; clear hg hw hp_))
   go_roundg k1
   case measure => have := aK.out; omega
   case rel => exact ⟨(fM), (wrap64 (al + 1)), (wrap64 (j + 1)), be_, be_, J, ⟨B18x20_⟩, Cr ao, ⟨B18x13_⟩, Ce0 HB⟩
  obtain ⟨rfl, rfl⟩ := s2 q; clear q l; obtain ⟨hT, h3, gY⟩ := Kd.R_slice ao.out; subst gY
  go_wp2
  go_ret; exact ⟨B17x16_, (Ar ao), (Ae0 HB), B18x13_⟩
def laws_markIntS.l0 : Nat → List Int → Int → Int → Option (Int × List Int)
 | 0, _, _, _ => none
 | k + 1, Z, x1, M => if M < (Z.length : Int) then (if 0 ≤ M then (laws_markIntS.l0 k (Z.set (M : Int).toNat x1) (wrap64 (x1 + 1)) (wrap64 (M + 1))) else (none)) else (some (x1, Z))
def laws_markIntS.f (k : Nat) (l0 : List Int) (a1 : Int) : Option (Int × List Int) := laws_markIntS.l0 k l0 a1 0
theorem laws_markIntS.calls (k : Nat) (P0_ : Nat → Prop) (bC : Value) (l0 : List Int) (a1 : Int) (r1 : Int) (r2 : List Int) (w0 w : World) (hB : Below w0.heap.size w0 w) (bj : Kd.R (Kd.int .i64) 3 w w0.heap.size P0_ bC l0) (h : laws_markIntS.f k l0 a1 = some (r1, r2)) :
  Calls Try.prog 26 #[bC, .int .i64 a1] w fun e w' => e = .returned (.int .i64 r1) ∧ Kd.R (Kd.int .i64) 3 w' w0.heap.size (fun k_ => (P0_ k_ ∨ w.heap.size ≤ k_)) bC r2 ∧ Below w0.heap.size w0 w' ∧ Kept w w' (fun k_ => P0_ k_) := by
 have eE := am (show Kd.R (Kd.int .i64) 3 w w0.heap.size (fun k_ => (P0_ k_ ∨ w.heap.size ≤ k_)) bC l0 from Kd.R_mono bj (fun k_ hk => (.inl hk)))
 have HK := am (Kept.refl w (fun k_ => P0_ k_))
 have gx := am hB.size
 have HB := am hB
 clear hB
 have D := h
 clear h
 unfold laws_markIntS.f at D
 replace D := am D
 go_enter Try.func26, Try.ntmps26
 go_wp2
 go_loopg [1, 5] k (fun kq v1 v5 w' => ∃ (ak : List Int) (al : Int) (j : Int), v1 = .int .i64 al ∧ v5 = .int .i64 j ∧ Aside0 (laws_markIntS.l0 kq ak al j = some (r1, r2)) ∧ Aside0 (kq ≤ k) ∧ Aside0 (Kd.R (Kd.int .i64) 3 w' w0.heap.size (fun k_ => (P0_ k_ ∨ w.heap.size ≤ k_)) bC ak) ∧ Aside0 (Kept w w' (fun k_ => P0_ k_)) ∧ Aside0 (Below w0.heap.size w0 w'))
 case atStart => exact ⟨(l0), a1, 0, be_, be_, D, ⟨Nat.le_refl _⟩, Cr eE, ⟨B18x13_⟩, Ce0 HB⟩
 case round =>
  clear D; obtain ⟨ak, al, j, rfl, rfl, l, aK, ao, HK, HB⟩ := hrel
  cases gk with
  | zero => exact absurd l.out (by simp [laws_markIntS.l0])
  | succ k1 => ?_
  replace l := l.out; simp only [laws_markIntS.l0] at l
  obtain ⟨av, q⟩ | ⟨av, q⟩ := sd l
  ·obtain ⟨aV, z⟩ := yd q; obtain ⟨fN, dV⟩ : ∃ y_ : List Int, y_ = (ak.set (j : Int).toNat al) := ⟨_, rfl⟩
   (first | with_reducible replace z := hq dV z | rw [← dV] at z | simp only [← dV] at z)
   have gE := am dV; clear dV; replace z := am z; clear l q; obtain ⟨hU, fu, d7⟩ := Kd.R_slice ao.out; subst d7
   have p5 : 0 ≤ (j : Int) := dga
   have q5 : (j : Int) < ((ak.length : Int) : Int) := dga
   obtain ⟨dQ, h4, fv, fw, g1, cl5, fn⟩ := Kd.R_form ao.out (by omega)
   (first | cases fv | (injection fv with ea_ en_ ec_; (first | subst ea_ | (injection ea_ with ea_; subst ea_)); subst ec_; clear en_))
   have gq := am fw; have hX := am fn; clear fw g1 fn; have HMgo5 := am (show (P0_ dQ ∨ w.heap.size ≤ dQ) from (ao.out.1 _ rfl)); obtain ⟨jR, h7⟩ := Kd.R_celln 0 ao.out (j : Int) p5 q5; replace p5 := eq_true p5; replace q5 := eq_true q5; have eF := Kd.R_putg ao.out (j : Int) al
   go_wp2_with (first | ((with_reducible refine gate_store (t := 3) (p := 15) rfl ?_); refine store_event (t := 3) (p := 15) (v := ?vo_w8) (w1 := (wr.setCell ⟨dQ, (j : Int).toNat, none⟩ (.int .i64 al))) ?hg ?ho ?hn ?hr ?_; (case ho => rfl); (case hg => rfl); (case hn => rfl); (case hr => first | (go_simp; done) | (go_simp; rfl)); intro w8 hw; have hg : wr.grownBy w8 (some dQ) := (by rw [hw]; exact eF.2); have hp_ : Kd.R (Kd.int .i64) 3 w8 w0.heap.size (fun k_ => (P0_ k_ ∨ w.heap.size ≤ k_)) (.slice (some ⟨dQ, 0, none⟩) ak.length fu) fN := (by rw [hw, gE.out]; exact eF.1); clear eF; replace HB := am (by rw [hw]; exact below_set (HB.out) gq.out : Below w0.heap.size w0 w8); replace HK := am (Kept.of_grown (S := (fun k_ => P0_ k_)) hg B18x13_ (fun k_ e_ => (ao.out.1 k_ e_))); replace ao := am hp_; clear hg hw hp_))
   go_roundg k1
   case measure => have := aK.out; omega
   case rel => exact ⟨(fN), (wrap64 (al + 1)), (wrap64 (j + 1)), be_, be_, z, ⟨B18x20_⟩, Cr ao, ⟨B18x13_⟩, Ce0 HB⟩
  ·obtain ⟨rfl, rfl⟩ := s2 q; clear q l; obtain ⟨hW, h5, g0⟩ := Kd.R_slice ao.out; subst g0
   go_wp2
   go_ret; exact ⟨B17x16_, (Ar ao), (Ae0 HB), B18x13_⟩

-- BY HAND: laws_markBitsS

def laws_heldStringS.l0 : Nat → List ByteArray → Int → Int → Option (Int)
 | 0, _, _, _ => none
 | k + 1, Z, x1, M => if M < (Z.length : Int) then (if 0 ≤ M then ((laws_markText.f k x1).bind fun ea => (if (rdOf ByteArray.empty Z M).toList = ea.toList then (laws_heldStringS.l0 k Z (wrap64 (x1 + 1)) (wrap64 (M + 1))) else (some (-1)))) else (none)) else (some x1)
def laws_heldStringS.f (k : Nat) (l0 : List ByteArray) (a1 : Int) : Option (Int) := laws_heldStringS.l0 k l0 a1 0
theorem laws_heldStringS.calls (k : Nat) (A0 : Option Addr) (c0 : Nat) (l0 : List ByteArray) (a1 : Int) (r : Int) (w : World) (aO : Kd.C Kd.string w A0 l0.length l0) (aN : l0.length ≤ c0) (h : laws_heldStringS.f k l0 a1 = some r) :
  Calls Try.prog 27 #[.slice A0 l0.length c0, .int .i64 a1] w fun e w' => e = .returned (.int .i64 r) ∧ Below w.heap.size w w' := by
 have aH := am aO
 have bM := am aN
 clear aO aN
 have HB := am (Below.refl w.heap.size w)
 have D := h
 clear h
 unfold laws_heldStringS.f at D
 replace D := am D
 go_enter Try.func27, Try.ntmps27
 go_wp2
 go_loopg [1, 5] k (fun kq v1 v5 w' => ∃ (al : Int) (j : Int), v1 = .int .i64 al ∧ v5 = .int .i64 j ∧ Aside0 (laws_heldStringS.l0 kq l0 al j = some r) ∧ Aside0 (kq ≤ k) ∧ Aside0 (Below w.heap.size w w'))
 case atStart => exact ⟨(a1), 0, be_, be_, D, ⟨Nat.le_refl _⟩, Ce0 HB⟩
 case round =>
  clear D; obtain ⟨al, j, rfl, rfl, l, aK, HB⟩ := hrel
  cases gk with
  | zero => exact absurd l.out (by simp [laws_heldStringS.l0])
  | succ k1 => ?_
  replace l := l.out; simp only [laws_heldStringS.l0] at l
  obtain ⟨av, q⟩ | ⟨av, q⟩ := sd l
  ·obtain ⟨aV, z⟩ := yd q; obtain ⟨ea, A5, J⟩ := bsi z; (try dsimp only at J)
   obtain ⟨c6, ae⟩ | ⟨c6, ae⟩ := sp J
   ·obtain ⟨cS, eR⟩ := yE c6; clear c6; replace ae := am ae; clear l q z J
    try go_wp2
    replace HB := bdr HB
    have cC : 0 ≤ (j : Int) := dga
    have cK : j < (l0.length : Int) := dga
    obtain ⟨eL, e0, bB⟩ := Kd.at_string aH.out j cC cK; have cc := bB; cases e0; replace bB := (hbc HB bB).trans bB; replace cC := eq_true cC; replace cK := eq_true cK; refine start_ (n := 7) (S := fun w' => w'.cell? (eL.add (j).toNat) = some (.string (rdOf ByteArray.empty l0 j))) (ds := []) #[false, false, false, false, false, false, false] gk_ rfl rfl (((hbc HB cc).trans cc)) (fun aj => ?_); generalize wr.drew = w7 at HB bB aj ⊢; refine pure_ (i := 0) (N := some 12) (v := ?_) (a' := ?_) #[true, false, false, false, false, false, false] rfl rfl gk_ (fun _ _ _ h => h) (Or.inl ⟨(by rfl), ?_⟩) ?_ ?_; rotate_left
    ·intro w'; go_simp; with_reducible rfl
    rotate_left
    ·simp only [Act.put, List.setIfInBounds_toArray, List.set_cons_zero, List.set_cons_succ, i64_w, i32_w]; rfl
    refine pure_ (i := 1) (N := some 13) (v := ?_) (a' := ?_) #[true, true, false, false, false, false, false] rfl rfl gk_ (fun _ _ _ h => h) (Or.inl ⟨(by rfl), ?_⟩) ?_ ?_; rotate_left
    ·intro w'; go_simp; with_reducible rfl
    rotate_left
    ·simp only [Act.put, List.setIfInBounds_toArray, List.set_cons_zero, List.set_cons_succ, i64_w, i32_w]; rfl
    refine pure_ (i := 2) (N := some 14) (v := ?_) (a' := ?_) #[true, true, true, false, false, false, false] rfl rfl gk_ (fun _ _ _ h => h) (Or.inl ⟨(by rfl), ?_⟩) ?_ ?_; rotate_left
    ·intro w'; go_simp; with_reducible rfl
    rotate_left
    ·simp only [Act.put, List.setIfInBounds_toArray, List.set_cons_zero, List.set_cons_succ, i64_w, i32_w]; rfl
    refine pure_ (i := 4) (N := some 16) (v := ?_) (a' := ?_) #[true, true, true, false, true, false, false] rfl rfl gk_ (fun _ _ _ h => h) (Or.inl ⟨(by rfl), ?_⟩) ?_ ?_; rotate_left
    ·intro w'; go_simp; with_reducible rfl
    rotate_left
    ·simp only [Act.put, List.setIfInBounds_toArray, List.set_cons_zero, List.set_cons_succ, i64_w, i32_w]; rfl
    refine take_ (i := 3) (N := some 15) (v := ?_) (a' := ?_) #[true, true, true, true, true, false, false] rfl rfl gk_ (fun _ _ _ h => h) (Or.inl ⟨(by rfl), ?_⟩) aj ?_ ?_; rotate_left
    ·intro w' s0; go_simp; with_reducible rfl
    rotate_left
    ·simp only [Act.put, List.setIfInBounds_toArray, List.set_cons_zero, List.set_cons_succ, i64_w, i32_w]; rfl
    refine one_ (i := 5) (N := some 17) #[true, true, true, true, true, true, false] rfl rfl gk_ (by decide) (fun K hK => ?_); refine gT Try.func57 (laws_markText.calls k1 al ea _ A5.out) ?_; rintro w8 hb; replace HB := hA HB hb; refine hK.out _ _ (((hbc HB cc).trans cc)) (fun aj => nm_ ?_); clear hK K; refine pure_ (i := 6) (N := some 18) (v := ?_) (a' := ?_) #[true, true, true, true, true, true, true] rfl rfl gk_ (fun _ _ _ h => h) (Or.inl ⟨(by rfl), ?_⟩) ?_ ?_; rotate_left
    ·intro w'; go_simp; with_reducible rfl
    rotate_left
    ·simp only [Act.put, List.setIfInBounds_toArray, List.set_cons_zero, List.set_cons_succ, i64_w, i32_w]; rfl
    refine done_ gk_ ?_
    try go_wp2
    go_roundg k1
    case measure => have := aK.out; omega
    case rel => exact ⟨(wrap64 (al + 1)), (wrap64 (j + 1)), be_, be_, ae, ⟨B18x20_⟩, Ce0 HB⟩
   ·obtain ⟨cS, eR⟩ := nE c6; obtain rfl := Option.some.inj ae; clear ae l q z J
    try go_wp2
    replace HB := bdr HB
    have cC : 0 ≤ (j : Int) := dga
    have cK : j < (l0.length : Int) := dga
    obtain ⟨eL, e0, bB⟩ := Kd.at_string aH.out j cC cK; have cc := bB; cases e0; replace bB := (hbc HB bB).trans bB; replace cC := eq_true cC; replace cK := eq_true cK; refine start_ (n := 7) (S := fun w' => w'.cell? (eL.add (j).toNat) = some (.string (rdOf ByteArray.empty l0 j))) (ds := []) #[false, false, false, false, false, false, false] gk_ rfl rfl (((hbc HB cc).trans cc)) (fun aj => ?_); generalize wr.drew = w9 at HB bB aj ⊢; refine pure_ (i := 0) (N := some 12) (v := ?_) (a' := ?_) #[true, false, false, false, false, false, false] rfl rfl gk_ (fun _ _ _ h => h) (Or.inl ⟨(by rfl), ?_⟩) ?_ ?_; rotate_left
    ·intro w'; go_simp; with_reducible rfl
    rotate_left
    ·simp only [Act.put, List.setIfInBounds_toArray, List.set_cons_zero, List.set_cons_succ, i64_w, i32_w]; rfl
    refine pure_ (i := 1) (N := some 13) (v := ?_) (a' := ?_) #[true, true, false, false, false, false, false] rfl rfl gk_ (fun _ _ _ h => h) (Or.inl ⟨(by rfl), ?_⟩) ?_ ?_; rotate_left
    ·intro w'; go_simp; with_reducible rfl
    rotate_left
    ·simp only [Act.put, List.setIfInBounds_toArray, List.set_cons_zero, List.set_cons_succ, i64_w, i32_w]; rfl
    refine pure_ (i := 2) (N := some 14) (v := ?_) (a' := ?_) #[true, true, true, false, false, false, false] rfl rfl gk_ (fun _ _ _ h => h) (Or.inl ⟨(by rfl), ?_⟩) ?_ ?_; rotate_left
    ·intro w'; go_simp; with_reducible rfl
    rotate_left
    ·simp only [Act.put, List.setIfInBounds_toArray, List.set_cons_zero, List.set_cons_succ, i64_w, i32_w]; rfl
    refine pure_ (i := 4) (N := some 16) (v := ?_) (a' := ?_) #[true, true, true, false, true, false, false] rfl rfl gk_ (fun _ _ _ h => h) (Or.inl ⟨(by rfl), ?_⟩) ?_ ?_; rotate_left
    ·intro w'; go_simp; with_reducible rfl
    rotate_left
    ·simp only [Act.put, List.setIfInBounds_toArray, List.set_cons_zero, List.set_cons_succ, i64_w, i32_w]; rfl
    refine take_ (i := 3) (N := some 15) (v := ?_) (a' := ?_) #[true, true, true, true, true, false, false] rfl rfl gk_ (fun _ _ _ h => h) (Or.inl ⟨(by rfl), ?_⟩) aj ?_ ?_; rotate_left
    ·intro w' s0; go_simp; with_reducible rfl
    rotate_left
    ·simp only [Act.put, List.setIfInBounds_toArray, List.set_cons_zero, List.set_cons_succ, i64_w, i32_w]; rfl
    refine one_ (i := 5) (N := some 17) #[true, true, true, true, true, true, false] rfl rfl gk_ (by decide) (fun K hK => ?_); refine gT Try.func57 (laws_markText.calls k1 al ea _ A5.out) ?_; rintro dX hb; replace HB := hA HB hb; refine hK.out _ _ (((hbc HB cc).trans cc)) (fun aj => nm_ ?_); clear hK K; refine pure_ (i := 6) (N := some 18) (v := ?_) (a' := ?_) #[true, true, true, true, true, true, true] rfl rfl gk_ (fun _ _ _ h => h) (Or.inl ⟨(by rfl), ?_⟩) ?_ ?_; rotate_left
    ·intro w'; go_simp; with_reducible rfl
    rotate_left
    ·simp only [Act.put, List.setIfInBounds_toArray, List.set_cons_zero, List.set_cons_succ, i64_w, i32_w]; rfl
    refine done_ gk_ ?_
    try go_wp2
    go_ret; exact ⟨B17x16_, (Ae0 HB)⟩
  ·obtain rfl := Option.some.inj q; clear q l
   go_wp2
   go_ret; exact ⟨B17x16_, (Ae0 HB)⟩

def laws_heldIntS.l0 : Nat → List Int → Int → Int → Option (Int)
 | 0, _, _, _ => none
 | k + 1, Z, x1, M => if M < (Z.length : Int) then (if 0 ≤ M then (if (rd Z M) = x1 then (laws_heldIntS.l0 k Z (wrap64 (x1 + 1)) (wrap64 (M + 1))) else (some (-1))) else (none)) else (some x1)
def laws_heldIntS.f (k : Nat) (l0 : List Int) (a1 : Int) : Option (Int) := laws_heldIntS.l0 k l0 a1 0
theorem laws_heldIntS.calls (k : Nat) (A0 : Option Addr) (c0 : Nat) (l0 : List Int) (a1 : Int) (r : Int) (w : World) (aO : Kd.C (Kd.int .i64) w A0 l0.length l0) (aN : l0.length ≤ c0) (h : laws_heldIntS.f k l0 a1 = some r) :
  Calls Try.prog 28 #[.slice A0 l0.length c0, .int .i64 a1] w fun e w' => e = .returned (.int .i64 r) ∧ Drawn0 w w' := by
 have aH := am aO
 have bM := am aN
 clear aO aN
 have D := h
 clear h
 unfold laws_heldIntS.f at D
 replace D := am D
 go_enter Try.func28, Try.ntmps28
 go_wp2
 go_loopg [1, 5] k (fun kq v1 v5 w' => ∃ (al : Int) (j : Int), v1 = .int .i64 al ∧ v5 = .int .i64 j ∧ Aside0 (laws_heldIntS.l0 kq l0 al j = some r) ∧ Aside0 (kq ≤ k) ∧ Drawn0 w w')
 case atStart => exact ⟨(a1), 0, be_, be_, D, ⟨Nat.le_refl _⟩, gd_⟩
 case round =>
  clear D; obtain ⟨al, j, rfl, rfl, l, aK, ⟨m1, rfl⟩⟩ := hrel
  cases gk with
  | zero => exact absurd l.out (by simp [laws_heldIntS.l0])
  | succ k1 => ?_
  replace l := l.out; simp only [laws_heldIntS.l0] at l
  obtain ⟨av, q⟩ | ⟨av, q⟩ := sd l
  ·obtain ⟨aV, z⟩ := yd q
   obtain ⟨c5, J⟩ | ⟨c5, J⟩ := sp z
   ·obtain ⟨cv, eQ⟩ := yE c5; clear c5; replace J := am J; clear l q z
    have cD : 0 ≤ (j : Int) := dga
    have cL : j < (l0.length : Int) := dga
    obtain ⟨gJ, e1, hp⟩ := Kd.at_int aH.out j cD cL; cases e1; replace cD := eq_true cD; replace cL := eq_true cL
    go_wp2
    go_roundg k1
    case measure => have := aK.out; omega
    case rel => exact ⟨(wrap64 (al + 1)), (wrap64 (j + 1)), be_, be_, J, ⟨B18x20_⟩, gd_⟩
   obtain ⟨cv, eQ⟩ := nE c5; obtain rfl := Option.some.inj J; clear J l q z
   have cD : 0 ≤ (j : Int) := dga
   have cL : j < (l0.length : Int) := dga
   obtain ⟨gJ, e1, hp⟩ := Kd.at_int aH.out j cD cL; cases e1; replace cD := eq_true cD; replace cL := eq_true cL
   go_wp2
   go_ret; exact ⟨gr_, gd_⟩
  obtain rfl := Option.some.inj q; clear q l
  go_wp2
  go_ret; exact ⟨gr_, gd_⟩
end
end Go.Proofs.Ytjaamflffmhicaa.QFnExactUnwrap
