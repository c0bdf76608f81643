/- Functions that a law reaches, as functions of Lean, and the walks that show that the calls come to their answers. No condition. -/
import Derived.Test.YtgffdijodnpolaaQFnKeepTextsx0
import Derived.Test.YtgffdijodnpolaaVFnKeepTextshort3
import Derived.Test.YtgffdijodnpolaaVFnKeepTextsShort2
import Derived.Test.YtgffdijodnpolaaVFnKeepTextsShort
import Derived.Test.YtgffdijodnpolaaVFnKeepTextshort8
namespace Go.Proofs.Ytgffdijodnpolaa.QFnKeepTexts
open Go.RowKit Go.Proofs.YtgffdijodnpolaaW.PrintWords Go.Proofs.YtgffdijodnpolaaW.PrintLast Go.Proofs.YtgffdijodnpolaaW.PrintMore Go.Proofs.Ytgffdijodnpolaa.Short
set_option linter.unusedVariables false
set_option linter.unusedSimpArgs false
set_option maxHeartbeats 8000000
set_option maxRecDepth 100000
variable {p : Prop}
theorem D1x0_ (h : p := by exact ⟨Cb Y, ⟨B14x3_⟩, Ck1 HK ad, Ce2 HB (IsS47.gf l) ap⟩) : p := h
theorem D1x1_ (h : p := by exact ⟨Cr ae, Cb J, Cb M, Cb U, Ce3 HB ai aj au⟩) : p := h
section
attribute [local go_sem] gtrS max2_int min2_int max_two min_two max_three min_three max_four min_four
theorem B13x9_ (h : p := by (with_reducible repeat (first | apply Kd.R_alloc | apply Kd.R_drewN | apply Kd.R_drew)); exact Kd.R_mono ar.out (fun _ hk => hk.2)) : p := h
theorem B13x11_ (h : p := by (with_reducible repeat (first | apply Kd.R_alloc | apply Kd.R_drewN | apply Kd.R_drew)); exact Kd.R_mono ar.out (fun _ hk => ⟨trivial, hk⟩)) : p := h
theorem B13x18_ (h : p := by exact (fun k_ hk => Kd.fresh' (Kd.R_lt (Ar ar)) k_ hk)) : p := h
theorem B13x20_ (h : p := by exact (below_size (Ae3 HB ai aj au))) : p := h
theorem B13x21_ (h : p := by have := ay.out; have := a6.out; first | omega | exact Nat.le_refl _) : p := h
mutual
def spec_l15Open.l0 : Nat → Int → List (S83) → Int → List (S83) → List (S81) → List (S83) → List (S81) → Option ((List (S83)) × (List (S81)) × ByteArray)
 | 0, _, _, _, _, _, _, _ => none
 | k + 1, x1, x7, x8, aM, b7, bl, be => if x8 < (aM.length : Int) then (if 0 ≤ x8 then (if ((rd_T83 aM x8).f0) < x1 then (if x7.length < 4398046511104 then (spec_l15Open.l0 k x1 (x7 ++ [(⟨(rd_T83 aM x8).f0, (rd_T83 aM x8).f1, (rd_T83 aM x8).f2⟩ : S83)]) (wrap64 (x8 + 1)) aM b7 bl be) else (none)) else (spec_l15Open.l0 k x1 x7 (wrap64 (x8 + 1)) aM b7 bl be)) else (none)) else (if x7.length < 4398046511104 then (spec_l15Open.l1 k x1 (x7 ++ [(⟨x1, 0, (⟨#[]⟩ : ByteArray)⟩ : S83)]) 0 aM b7 bl be) else (none))
def spec_l15Open.l1 : Nat → Int → List (S83) → Int → List (S83) → List (S81) → List (S83) → List (S81) → Option ((List (S83)) × (List (S81)) × ByteArray)
 | 0, _, _, _, _, _, _, _ => none
 | k + 1, x1, x7, x9, aM, b7, bl, be => if x9 < (aM.length : Int) then (if 0 ≤ x9 then (if ((rd_T83 aM x9).f0) > x1 then (if x7.length < 4398046511104 then (spec_l15Open.l1 k x1 (x7 ++ [(⟨(rd_T83 aM x9).f0, (rd_T83 aM x9).f1, (rd_T83 aM x9).f2⟩ : S83)]) (wrap64 (x9 + 1)) aM b7 bl be) else (none)) else (spec_l15Open.l1 k x1 x7 (wrap64 (x9 + 1)) aM b7 bl be)) else (none)) else (if (x7.length : Int) > 3 then ((some (([] : List (S83)) : List (S83))).bind fun cz => (if 1 ≤ (x7.length : Int) then ((some (x7.drop 1 : List (S83))).bind fun a3 => (if cz.length + a3.length < 4398046511104 then (spec_l15Open.j2 k x1 (cz ++ a3) bl be) else (none))) else (none))) else (spec_l15Open.j2 k x1 x7 bl be))
def spec_l15Open.j2 : Nat → Int → List (S83) → List (S83) → List (S81) → Option ((List (S83)) × (List (S81)) × ByteArray)
 | 0, _, _, _, _ => none
 | k + 1, x1, x7, bl, be => (spec_Decimal.f k x1).bind fun cy => (if 5 + cy.size ≤ 9223372036854775807 then (some (x7, be, (⟨#[111, 112, 101, 110, 32]⟩ : ByteArray) ++ cy)) else (none))
end
def spec_l15Open.f (k : Nat) (D : List (S83)) (aC : List (S81)) (a1 : Int) : Option ((List (S83)) × (List (S81)) × ByteArray) := (spec_l15Copy.f D aC).bind fun dQ => (spec_l15Open.l0 k a1 (([] : List (S83))) 0 D aC dQ.1 dQ.2)
theorem spec_l15Open.calls (k : Nat) (aD : Option Addr) (aE : Nat) (D : List (S83)) (aQ : Option Addr) (aU : Nat) (aC : List (S81)) (a1 : Int) (r1 : List (S83)) (r2 : List (S81)) (r3 : ByteArray) (w : World) (cK : Kd.C k83 w aD D.length D) (ci : D.length ≤ aE) (ck : Kd.C k81 w aQ aC.length aC) (cj : aC.length ≤ aU) (h : spec_l15Open.f k D aC a1 = some (r1, r2, r3)) :
  Calls Try.prog 106 #[.agg #[.slice aD D.length aE, .slice aQ aC.length aU], .int .i64 a1] w fun e w' => ∃ dU dV : Value, e = .returned (.tuple #[.agg #[dU, dV], .string r3]) ∧ Kd.R k83 83 w' w.heap.size (fun _ => True) dU r1 ∧ Kd.R k81 81 w' w.heap.size (fun _ => True) dV r2 ∧ Below w.heap.size w w' := by
 have gs := Try.underlying47
 have gv := Try.underlying83
 have bz := am cK
 have dG := am ci
 clear cK ci
 have bn := am ck
 have dH := am cj
 clear ck cj
 have HB := am (Below.refl w.heap.size w)
 have aY := h
 clear h
 unfold spec_l15Open.f at aY
 obtain ⟨⟨ag, ax⟩, A3, az⟩ := bsi aY
 (try dsimp only at az)
 obtain ⟨e4, cm⟩ : ∃ y_ : List (S83), y_ = (([] : List (S83))) := ⟨_, rfl⟩
 (first | with_reducible replace az := hq cm az | rw [← cm] at az | simp only [← cm] at az)
 have dK := am cm
 clear cm
 replace az := am az
 clear aY
 go_enter Try.func106, Try.ntmps106
 go_wp2_with (first | ((with_reducible refine gate_dst (N := 2) rfl ?_); refine bx (N := 2) (cs := #[.slice aD D.length aE, .slice aQ aC.length aU]) (t := 47) ?_; intro ch hg w4 hbox hb; have J := am hbox; have ai := gA hg HB; replace HB := hA HB hb; clear hb hbox hg) | ((with_reducible refine gate_dst (N := 4) rfl ?_); refine bx (N := 4) (cs := #[.slice none 0 0, .slice none 0 0]) (t := 47) ?_; intro a0 hg w5 hbox hb; have M := am hbox; have aj := gA hg HB; replace HB := De1 HB ai hb; have bj := nA hg J; have bk := mA hg J; replace J := bA J hb; clear hb hbox hg; have fS := bj.out; have gi := bk.out; obtain ⟨b8, b9, ca, cc⟩ := cf2 J) | ((with_reducible refine gate_callee (f := 58) rfl ?_); refine gL (some 11) Try.func58 #[.agg #[.slice aD D.length aE, .slice aQ aC.length aU]] ?_; (with_reducible refine (spec_l15Copy.calls _ _ D _ _ aC ag ax _ ?z1 ?z2 ?z3 ?z4 A3.out).mono ?_); (case z1 => repeat (first | exact (Kd.C_below bz.out HB.out) | (with_reducible refine Kd.C_alloc ?_ _) | (with_reducible refine Kd.C_drewN ?_ _) | (with_reducible refine Kd.C_drew ?_))); (case z2 => exact dG.out); (case z3 => repeat (first | exact (Kd.C_below bn.out HB.out) | (with_reducible refine Kd.C_alloc ?_ _) | (with_reducible refine Kd.C_drewN ?_ _) | (with_reducible refine Kd.C_drew ?_))); (case z4 => exact dH.out); rintro e w8 ⟨gE, gF, rfl, eT, eU, hb⟩; refine ⟨_, rfl, ?_⟩; have bw := am (Kd.R_lower eT (below_size (Ae2 HB ai aj))); have bW := am (Kd.R_lower eU (below_size (Ae2 HB ai aj))); replace J := bA J hb; replace M := bA M hb; replace HB := De2 HB ai aj hb) | ((with_reducible refine gate_dst (N := 6) rfl ?_); refine bx (N := 6) (cs := #[.slice none 0 0, .slice none 0 0]) (t := 47) ?_; intro br hg w9 hbox hb; replace bw := rA bw hb; replace bW := rA bW hb; have U := am hbox; have au := gA hg HB; replace HB := De2 HB ai aj hb; have bd := nA hg J; have bo := mA hg J; replace J := bA J hb; have b0 := nA hg M; have bp := mA hg M; replace M := bA M hb; clear hb hbox hg; obtain ⟨av, aw, eE⟩ := Kd.R_slice bw.out; subst eE; have eR := bo.out; have eS := bd.out; have fA := bp.out; have fU := b0.out; obtain ⟨fd, fe, ff, fg⟩ := cf2 U; obtain ⟨a4, a5, eF⟩ := Kd.R_slice bW.out; subst eF) | ((with_reducible refine gate_dst (N := 12) rfl ?_); refine lL k83 83 12 ([] : List (S83)) [] (Reps.none _ _) ?_; intro gG gO b5 hb; (first | rw [← dK.out] at b5 | (simp only [Int.reduceToNat] at b5; rw [← dK.out] at b5)); replace bW := am (Kd.R_below (tfg bW.out U.out (by decide)) hb); have d6 := am (Kd.R_lower (Kd.R_new' b5 (Kd.R_lt (tfg bw.out U.out (by decide)))) (below_size (Ae3 HB ai aj au))); replace bw := am (Kd.R_elder' (tfg bw.out U.out (by decide)) (Kd.R_base b5) hb); replace J := am (blk_below (g := ch) (o := .cells #[.slice aD D.length aE, .slice aQ aC.length aU] 47 (0, 0)) (Ap1 J bd) hb); replace M := am (blk_below (g := a0) (o := .cells #[.slice none 0 0, .slice none 0 0] 47 (0, 0)) (Ap1 M b0) hb); replace U := am (blk_below (g := br) (o := .cells #[.slice av ag.length aw, .slice a4 ax.length a5] 47 (0, 0)) (Ap0 U) hb); replace HB := De3 HB ai aj au hb; clear hb b5))
 go_loopg [7, 8] k (fun kq v7 v8 w' => ∃ (bv : List (S83)) (ah : Int), v8 = .int .i64 ah ∧ Aside0 (spec_l15Open.l0 kq a1 bv ah D aC ag ax = some (r1, r2, r3)) ∧ Aside0 (kq ≤ k) ∧ Aside0 (Kd.R k83 83 w' w.heap.size (fun k_ => some k_ ≠ ((.slice av ag.length aw) : Value).ownBlock) v7 bv) ∧ Aside0 (Kd.R k83 83 w' w.heap.size (fun k_ => some k_ ≠ (v7 : Value).ownBlock) (.slice av ag.length aw) ag) ∧ Aside0 (Kd.R k81 81 w' w.heap.size (fun _ => True) (.slice a4 ax.length a5) ax) ∧ Aside0 (w'.heap[ch]? = some (.cells #[(.slice aD D.length aE), (.slice aQ aC.length aU)] 47 (0, 0))) ∧ Aside0 (w'.heap[a0]? = some (.cells #[(.slice none 0 0), (.slice none 0 0)] 47 (0, 0))) ∧ Aside0 (w'.heap[br]? = some (.cells #[(.slice av ag.length aw), (.slice a4 ax.length a5)] 47 (0, 0))) ∧ Aside0 (Below w.heap.size w w'))
 case atStart => exact ⟨(e4), 0, be_, az, ⟨Nat.le_refl _⟩, ⟨(by (with_reducible repeat (first | apply Kd.R_alloc | apply Kd.R_drewN | apply Kd.R_drew)); exact Kd.R_mono d6.out (fun _ hk => hk.2))⟩, ⟨(by (with_reducible repeat (first | apply Kd.R_alloc | apply Kd.R_drewN | apply Kd.R_drew)); exact Kd.R_mono bw.out (fun _ hk => hk.2))⟩, Cr bW, Cb J, Cb M, Cb U, Ce3 HB ai aj au⟩
 case round =>
  clear az; obtain ⟨bv, ah, rfl, aT, ay, Z, ar, ae, J, M, U, HB⟩ := hrel
  cases gk with
  | zero => exact absurd aT.out (by simp [spec_l15Open.l0])
  | succ k1 => ?_
  replace aT := aT.out; simp only [spec_l15Open.l0] at aT
  obtain ⟨df, a9⟩ | ⟨df, a9⟩ := sd aT
  ·obtain ⟨fk, ba⟩ := yd a9
   obtain ⟨en, aW⟩ | ⟨en, aW⟩ := sd ba
   ·obtain ⟨eb, aJ⟩ := ya aW; obtain ⟨e5, cn⟩ : ∃ y_ : List (S83), y_ = (bv ++ [(⟨(rd_T83 D ah).f0, (rd_T83 D ah).f1, (rd_T83 D ah).f2⟩ : S83)]) := ⟨_, rfl⟩
    (first | with_reducible replace aJ := hq cn aJ | rw [← cn] at aJ | simp only [← cn] at aJ)
    have ef := am cn; clear cn; replace aJ := am aJ; clear aT a9 ba aW; obtain ⟨fD, fX, fE, fY⟩ := o4_ bj bk bd bo; obtain ⟨b8, b9, ca, cc⟩ := cf2 J
    have bK : 0 ≤ (ah : Int) := dga
    have bO : ah < (D.length : Int) := dga
    obtain ⟨dM, di, bE, bF, bG⟩ := at_T83 bz.out ah bK bO; cases di; replace bE := (hbc HB bE).trans bE; replace bF := (hbc HB bF).trans bF; replace bG := (hbc HB bG).trans bG; replace bK := eq_true bK; replace bO := eq_true bO
    have dv : 0 ≤ (ah : Int) := dga
    have dz : ah < (D.length : Int) := dga
    obtain ⟨ej, ez, dn, dp, dq⟩ := at_T83 bz.out ah dv dz; obtain rfl : dM = ej := (by injection ez); replace dn := (hbc HB dn).trans dn; replace dp := (hbc HB dp).trans dp; replace dq := (hbc HB dq).trans dq; replace dv := eq_true dv; replace dz := eq_true dz
    go_wp2_with (first | ((with_reducible refine gate_builtin (b := .append) (xs := #[.tmp 28, .tmp 34]) rfl ?_); at_builtin; refine Kd.R_append k83 (w0 := w) w.heap.size rfl (.tmp 28) (.tmp 34) 44 83 (.agg #[(.int .i64 0), (.int .i64 0), (.string ⟨#[]⟩)]) 32 rfl Try.underlying44 info83 rfl (by decide) (by omega) u7 bv (⟨(rd_T83 D ah).f0, (rd_T83 D ah).f1, (rd_T83 D ah).f2⟩ : S83) [.int .i64 ((rd_T83 D ah).f0), .int .i64 ((rd_T83 D ah).f1), .string ((rd_T83 D ah).f2)] (fun k_ => some k_ ≠ (.slice av ag.length aw : Value).ownBlock) (fun _ => False) rfl rfl ?aP (fun _ hk => hk.elim) ?aF ?aO ?aB ?aS ?aL ?_; (case aP => exact k83_mkM _ _ _ (⟨(rd_T83 D ah).f0, (rd_T83 D ah).f1, (rd_T83 D ah).f2⟩ : S83)); (case aB => exact (Ae3 HB ai aj au)); (case aF => exact B13x18_); (case aO => exact (Ar Z)); (case aS => exact B13x20_); (case aL => have := eb.out; omega); intro gH gP ho hb hg hat; rw [← ef.out] at ho; replace ar := am (Kd.R_after (ok := (fun _ => True)) B13x11_ hg hat); replace ae := am (Kd.R_over' (Ar ae) (Kd.R_typed (Ar Z)) (by decide) hg); replace J := bg J hg (Kd.R_ne Z.out J.out (by decide)); replace M := bg M hg (Kd.R_ne Z.out M.out (by decide)); replace U := bg U hg (Kd.R_ne Z.out U.out (by decide)); replace HB := am hb; have d7 := am ho; clear Z; clear ho hb hg hat))
    go_roundg k1
    case measure => have := ay.out; omega
    case rel => exact ⟨(e5), (wrap64 (ah + 1)), be_, aJ, ⟨(by have := ay.out; omega)⟩, Cr d7, ⟨B13x9_⟩, D1x1_⟩
   replace aW := am aW; clear aT a9 ba; obtain ⟨fF, fZ, fG, f2⟩ := o4_ bj bk bd bo; obtain ⟨b8, b9, ca, cc⟩ := cf2 J
   have bK : 0 ≤ (ah : Int) := dga
   have bO : ah < (D.length : Int) := dga
   obtain ⟨dM, di, bE, bF, bG⟩ := at_T83 bz.out ah bK bO; cases di; replace bE := (hbc HB bE).trans bE; replace bF := (hbc HB bF).trans bF; replace bG := (hbc HB bG).trans bG; replace bK := eq_true bK; replace bO := eq_true bO
   go_wp2
   go_roundg k1
   case measure => have := ay.out; omega
   case rel => exact ⟨(bv), (wrap64 (ah + 1)), be_, aW, ⟨(by have := ay.out; omega)⟩, Cr Z, Cr ar, D1x1_⟩
  obtain ⟨ec, aA⟩ := ya a9; obtain ⟨e6, co⟩ : ∃ y_ : List (S83), y_ = (bv ++ [(⟨a1, 0, (⟨#[]⟩ : ByteArray)⟩ : S83)]) := ⟨_, rfl⟩
  (first | with_reducible replace aA := hq co aA | rw [← co] at aA | simp only [← co] at aA)
  have eg := am co; clear co; replace aA := am aA; clear aT a9; obtain ⟨fI, f4, fJ, f5⟩ := o4_ bj bk bd bo; obtain ⟨b8, b9, ca, cc⟩ := cf2 J
  go_wp2_with (first | ((with_reducible refine gate_builtin (b := .append) (xs := #[.tmp 36, .tmp 39]) rfl ?_); at_builtin; refine Kd.R_append k83 (w0 := w) w.heap.size rfl (.tmp 36) (.tmp 39) 44 83 (.agg #[(.int .i64 0), (.int .i64 0), (.string ⟨#[]⟩)]) 32 rfl Try.underlying44 info83 rfl (by decide) (by omega) u7 bv (⟨a1, 0, (⟨#[]⟩ : ByteArray)⟩ : S83) [.int .i64 a1, .int .i64 0, .string (⟨#[]⟩ : ByteArray)] (fun k_ => some k_ ≠ (.slice av ag.length aw : Value).ownBlock) (fun _ => False) rfl rfl ?aP (fun _ hk => hk.elim) ?aF ?aO ?aB ?aS ?aL ?_; (case aP => exact k83_mkM _ _ _ (⟨a1, 0, (⟨#[]⟩ : ByteArray)⟩ : S83)); (case aB => exact (Ae3 HB ai aj au)); (case aF => exact B13x18_); (case aO => exact (Ar Z)); (case aS => exact B13x20_); (case aL => have := ec.out; omega); intro gI gQ ho hb hg hat; rw [← eg.out] at ho; replace ar := am (Kd.R_after (ok := (fun _ => True)) B13x11_ hg hat); replace ae := am (Kd.R_over' (Ar ae) (Kd.R_typed (Ar Z)) (by decide) hg); replace J := bg J hg (Kd.R_ne Z.out J.out (by decide)); replace M := bg M hg (Kd.R_ne Z.out M.out (by decide)); replace U := bg U hg (Kd.R_ne Z.out U.out (by decide)); replace HB := am hb; have d8 := am ho; clear Z; clear ho hb hg hat))
  go_loopg [7, 9] k1 (fun kq v7 v9 w' => ∃ (z : List (S83)) (ac : Int), v9 = .int .i64 ac ∧ Aside0 (spec_l15Open.l1 kq a1 z ac D aC ag ax = some (r1, r2, r3)) ∧ Aside0 (kq ≤ k1) ∧ Aside0 (Kd.R k83 83 w' w.heap.size (fun k_ => some k_ ≠ ((.slice av ag.length aw) : Value).ownBlock) v7 z) ∧ Aside0 (Kd.R k83 83 w' w.heap.size (fun k_ => some k_ ≠ (v7 : Value).ownBlock) (.slice av ag.length aw) ag) ∧ Aside0 (Kd.R k81 81 w' w.heap.size (fun _ => True) (.slice a4 ax.length a5) ax) ∧ Aside0 (w'.heap[ch]? = some (.cells #[(.slice aD D.length aE), (.slice aQ aC.length aU)] 47 (0, 0))) ∧ Aside0 (w'.heap[a0]? = some (.cells #[(.slice none 0 0), (.slice none 0 0)] 47 (0, 0))) ∧ Aside0 (w'.heap[br]? = some (.cells #[(.slice av ag.length aw), (.slice a4 ax.length a5)] 47 (0, 0))) ∧ Aside0 (Below w.heap.size w w'))
  case atStart => exact ⟨(e6), 0, be_, aA, ⟨Nat.le_refl _⟩, Cr d8, ⟨B13x9_⟩, D1x1_⟩
  case round =>
   clear aA
   try clear dR
   try clear df
   try clear eq
   obtain ⟨z, ac, rfl, aK, a6, Z, ar, ae, J, M, U, HB⟩ := hrel
   cases gk with
   | zero => exact absurd aK.out (by simp [spec_l15Open.l1])
   | succ k2 => ?_
   replace aK := aK.out; simp only [spec_l15Open.l1] at aK
   obtain ⟨cI, aI⟩ | ⟨cI, aI⟩ := sd aK
   ·obtain ⟨fm, a7⟩ := yd aI
    obtain ⟨ce, aV⟩ | ⟨ce, aV⟩ := sp a7
    ·have et : decide (a1 < ((rd_T83 D ac).f0)) = true := decide_eq_true ce
     clear ce; obtain ⟨ed, aZ⟩ := ya aV; obtain ⟨e7, cp⟩ : ∃ y_ : List (S83), y_ = (z ++ [(⟨(rd_T83 D ac).f0, (rd_T83 D ac).f1, (rd_T83 D ac).f2⟩ : S83)]) := ⟨_, rfl⟩
     (first | with_reducible replace aZ := hq cp aZ | rw [← cp] at aZ | simp only [← cp] at aZ)
     have eh := am cp; clear cp; replace aZ := am aZ; clear aK aI a7 aV; obtain ⟨fL, f7, fM, f8⟩ := o4_ bj bk bd bo; obtain ⟨b8, b9, ca, cc⟩ := cf2 J
     have bL : 0 ≤ (ac : Int) := dga
     have bP : ac < (D.length : Int) := dga
     obtain ⟨dN, dj, bH, bI, bJ⟩ := at_T83 bz.out ac bL bP; cases dj; replace bH := (hbc HB bH).trans bH; replace bI := (hbc HB bI).trans bI; replace bJ := (hbc HB bJ).trans bJ; replace bL := eq_true bL; replace bP := eq_true bP
     have dw : 0 ≤ (ac : Int) := dga
     have dB : ac < (D.length : Int) := dga
     obtain ⟨ek, eB, dr, dt, du⟩ := at_T83 bz.out ac dw dB; obtain rfl : dN = ek := (by injection eB); replace dr := (hbc HB dr).trans dr; replace dt := (hbc HB dt).trans dt; replace du := (hbc HB du).trans du; replace dw := eq_true dw; replace dB := eq_true dB
     go_wp2_with (first | ((with_reducible refine gate_builtin (b := .append) (xs := #[.tmp 56, .tmp 62]) rfl ?_); at_builtin; refine Kd.R_append k83 (w0 := w) w.heap.size rfl (.tmp 56) (.tmp 62) 44 83 (.agg #[(.int .i64 0), (.int .i64 0), (.string ⟨#[]⟩)]) 32 rfl Try.underlying44 info83 rfl (by decide) (by omega) u7 z (⟨(rd_T83 D ac).f0, (rd_T83 D ac).f1, (rd_T83 D ac).f2⟩ : S83) [.int .i64 ((rd_T83 D ac).f0), .int .i64 ((rd_T83 D ac).f1), .string ((rd_T83 D ac).f2)] (fun k_ => some k_ ≠ (.slice av ag.length aw : Value).ownBlock) (fun _ => False) rfl rfl ?aP (fun _ hk => hk.elim) ?aF ?aO ?aB ?aS ?aL ?_; (case aP => exact k83_mkM _ _ _ (⟨(rd_T83 D ac).f0, (rd_T83 D ac).f1, (rd_T83 D ac).f2⟩ : S83)); (case aB => exact (Ae3 HB ai aj au)); (case aF => exact B13x18_); (case aO => exact (Ar Z)); (case aS => exact B13x20_); (case aL => have := ed.out; omega); intro gJ gR ho hb hg hat; rw [← eh.out] at ho; replace ar := am (Kd.R_after (ok := (fun _ => True)) B13x11_ hg hat); replace ae := am (Kd.R_over' (Ar ae) (Kd.R_typed (Ar Z)) (by decide) hg); replace J := bg J hg (Kd.R_ne Z.out J.out (by decide)); replace M := bg M hg (Kd.R_ne Z.out M.out (by decide)); replace U := bg U hg (Kd.R_ne Z.out U.out (by decide)); replace HB := am hb; have d9 := am ho; clear Z; clear ho hb hg hat))
     go_roundg k2
     case measure => have := ay.out; have := a6.out; omega
     case rel => exact ⟨(e7), (wrap64 (ac + 1)), be_, aZ, ⟨(by have := ay.out; have := a6.out; omega)⟩, Cr d9, ⟨B13x9_⟩, D1x1_⟩
    have et : decide (a1 < ((rd_T83 D ac).f0)) = false := decide_eq_false ce
    clear ce; replace aV := am aV; clear aK aI a7; obtain ⟨fN, f9, fO, ga⟩ := o4_ bj bk bd bo; obtain ⟨b8, b9, ca, cc⟩ := cf2 J
    have bL : 0 ≤ (ac : Int) := dga
    have bP : ac < (D.length : Int) := dga
    obtain ⟨dN, dj, bH, bI, bJ⟩ := at_T83 bz.out ac bL bP; cases dj; replace bH := (hbc HB bH).trans bH; replace bI := (hbc HB bI).trans bI; replace bJ := (hbc HB bJ).trans bJ; replace bL := eq_true bL; replace bP := eq_true bP
    go_wp2
    go_roundg k2
    case measure => have := ay.out; have := a6.out; omega
    case rel => exact ⟨(z), (wrap64 (ac + 1)), be_, aV, ⟨(by have := ay.out; have := a6.out; omega)⟩, Cr Z, Cr ar, D1x1_⟩
   replace aI := am aI; clear aK; obtain ⟨fP, gb, fQ, gg⟩ := o4_ bj bk bd bo; obtain ⟨b8, b9, ca, cc⟩ := cf2 J; obtain ⟨bU, bq, eI⟩ := Kd.R_slice Z.out; subst eI
   go_upto_if 66 with (fail)
   go_cut [7] (fun v7 wc => ∃ (kq : Nat) (bh : List (S83)), Aside0 (spec_l15Open.j2 kq a1 bh ag ax = some (r1, r2, r3)) ∧ Aside0 (kq ≤ k2) ∧ Aside0 (Kd.R k83 83 wc w.heap.size (fun k_ => some k_ ≠ ((.slice av ag.length aw) : Value).ownBlock) v7 bh) ∧ Aside0 (Kd.R k83 83 wc w.heap.size (fun k_ => some k_ ≠ (v7 : Value).ownBlock) (.slice av ag.length aw) ag) ∧ Aside0 (Kd.R k81 81 wc w.heap.size (fun _ => True) (.slice a4 ax.length a5) ax) ∧ Hc wc ch #[(.slice aD D.length aE), (.slice aQ aC.length aU)] 47 ∧ Hc wc a0 #[(.slice none 0 0), (.slice none 0 0)] 47 ∧ Hc wc br #[(.slice av ag.length aw), (.slice a4 ax.length a5)] 47 ∧ Hb w wc)
   case first =>
    replace aI := aI.out
    obtain ⟨cf, a8⟩ | ⟨cf, a8⟩ := sp aI
    ·have cg : decide (3 < (z.length : Int)) = true := decide_eq_true cf
     have eu : decide (3 < z.length) = true := decide_eq_true (by omega)
     clear cf
     (first | rw [cg] | (simp only [i64_w, i32_w]; rw [cg]) | skip)
     obtain ⟨cz, cq⟩ : ∃ y_ : List (S83), y_ = (([] : List (S83))) := ⟨_, rfl⟩
     (first | with_reducible replace a8 := hq cq a8 | rw [← cq] at a8 | simp only [← cq] at a8)
     have dL := am cq; clear cq; obtain ⟨fn, fo, bY⟩ := ye a8; obtain ⟨a3, cr⟩ : ∃ y_ : List (S83), y_ = (z.drop 1) := ⟨_, rfl⟩
     (first | with_reducible replace bY := hq cr bY | rw [← cr] at bY | simp only [← cr] at bY)
     have db := am cr; clear cr; obtain ⟨ee, bB⟩ := ya bY; obtain ⟨e8, ct⟩ : ∃ y_ : List (S83), y_ = (cz ++ a3) := ⟨_, rfl⟩
     (first | with_reducible replace bB := hq ct bB | rw [← ct] at bB | simp only [← ct] at bB)
     have ei := am ct; clear ct; replace bB := am bB; clear aI a8 bY
     go_wp2_with (first | ((with_reducible refine gate_dst (N := 67) rfl ?_); refine lL k83 83 67 ([] : List (S83)) [] (Reps.none _ _) ?_; intro e2 gU bD hb; (first | rw [← dL.out] at bD | (simp only [Int.reduceToNat] at bD; rw [← dL.out] at bD)); replace ae := rA ae hb; have bX := am (Kd.R_lower (Kd.R_new' (Kd.R_new' bD (Kd.R_lt (Ar Z))) (Kd.R_lt (Ar ar))) (below_size (Ae3 HB ai aj au))); replace Z := am (Kd.R_elder' (Ar Z) (Kd.R_base bD) hb); replace ar := am (Kd.R_elder' (Ar ar) (Kd.R_base bD) hb); replace J := bA J hb; replace M := bA M hb; replace U := bA U hb; replace HB := De3 HB ai aj au hb; clear hb bD; have dE : (1 : Int) ≤ ((z.length : Int) : Int) := dga; obtain ⟨i054, hi054, _, hsz54, _⟩ := info_parts info83; have hroom54 : z.length ≤ bq := (Kd.R_reads' Z.out).2.1; have hC54 : Kd.C k83 _ bU z.length z := (Kd.R_reads' Z.out).2.2; have hcut54 := cut_from (P := Try.prog) 44 83 .i64 Try.underlying44 hi054 3 hsz54 bU z.length bq 1 (by omega) dE; have cl := Kd.C_drop (m := (1 : Int).toNat) (c := bq) hC54 (by omega) hroom54; obtain ⟨dF, hA54⟩ : ∃ A1, A1 = (if bq = (1 : Int).toNat then bU else (bU : Option Addr).map (·.add ((1 : Int).toNat * 3))) := ⟨_, rfl⟩; obtain ⟨ev, dm⟩ : ∃ c1, c1 = bq - (1 : Int).toNat := ⟨_, rfl⟩; have cL : a3.length = z.length - (1 : Int).toNat := (by rw [db.out, List.length_drop] <;> omega); rw [show (z).drop (1 : Int).toNat = a3 from db.out.symm] at cl; replace cl : Kd.C k83 _ dF a3.length a3 := (by rw [hA54]; exact cl); rw [← cL, ← hA54, ← dm] at hcut54; have dI := am cl; have fi := am (show a3.length ≤ ev from (by rw [cL, dm]; exact Nat.sub_le_sub_right hroom54 _)); clear cl hC54 hroom54 hi054 hsz54 dm; have KY54 := am cL; have KA54 := am hA54; clear cL hA54; have KL54 := am (show 1 ≤ z.length from (by omega)); replace dE := eq_true dE) | ((with_reducible refine gate_builtin (b := .append) (xs := #[.tmp 67, .tmp 69]) rfl ?_); at_builtin; refine Kd.R_append_rows k83 (w0 := w) w.heap.size rfl (.tmp 67) (.tmp 69) 44 83 (.agg #[(.int .i64 0), (.int .i64 0), (.string ⟨#[]⟩)]) 32 rfl Try.underlying44 info83 rfl (by decide) (by omega) e2 cz a3 _ _ _ (fun k_ => some k_ ≠ (.slice bU z.length bq : Value).ownBlock ∧ some k_ ≠ (.slice av ag.length aw : Value).ownBlock) (fun _ => False) rfl rfl ?aO ?aR (fun _ _ h => h) (fun _ h => h.elim) ?aF ?aB ?aS ?aL ?_; (case aR => repeat (first | exact (Ad dI) | (with_reducible refine Kd.C_alloc ?_ _) | (with_reducible refine Kd.C_drewN ?_ _) | (with_reducible refine Kd.C_drew ?_))); (case aB => exact (Ae3 HB ai aj au)); (case aF => exact (fun k_ hk => ⟨Kd.fresh' (Kd.R_lt (Ar Z)) k_ hk, Kd.fresh' (Kd.R_lt (Ar ar)) k_ hk⟩)); (case aO => (with_reducible repeat (first | apply Kd.R_alloc | apply Kd.R_drewN | apply Kd.R_drew)); exact Kd.R_mono bX.out (fun _ hk => ⟨hk.1.2, hk.2⟩)); (case aS => exact B13x20_); (case aL => have := ee.out; omega); intro gN e3 ho hb hg hat; rw [← ei.out] at ho; replace ar := am (Kd.R_after (ok := (fun k_ => some k_ ≠ (.slice bU z.length bq : Value).ownBlock)) (Ar ar) hg hat); replace ae := am (Kd.R_over' (Ar ae) (Kd.R_typed (Ar bX)) (by decide) hg); replace J := bg J hg (Kd.R_ne bX.out J.out (by decide)); replace M := bg M hg (Kd.R_ne bX.out M.out (by decide)); replace U := bg U hg (Kd.R_ne bX.out U.out (by decide)); replace HB := am hb; replace dI := am ((show Kd.C k83 e3 dF a3.length a3 from (by rw [db.out, KA54.out]; exact Kd.C_drop (m := 1) (c := bq) ((Kd.R_reads' (Kd.R_after (ok := (fun k_ => some k_ ≠ (.slice av ag.length aw : Value).ownBlock)) (Ar Z) hg hat)).2.2) KL54.out ((Kd.R_reads' (Kd.R_after (ok := (fun k_ => some k_ ≠ (.slice av ag.length aw : Value).ownBlock)) (Ar Z) hg hat)).2.1)))); replace Z := am (Kd.R_after (ok := (fun k_ => some k_ ≠ (.slice av ag.length aw : Value).ownBlock)) (Ar Z) hg hat); have ea := am ho; clear bX; clear ho hb hg hat))
     go_meet
     case rel => exact ⟨_, e8, bB, ⟨B13x21_⟩, ⟨(by (with_reducible repeat (first | apply Kd.R_alloc | apply Kd.R_drewN | apply Kd.R_drew)); exact Kd.R_mono ea.out (fun _ hk => hk.2))⟩, ⟨B13x9_⟩, D1x1_⟩
    have cg : decide (3 < (z.length : Int)) = false := decide_eq_false cf
    have eu : decide (3 < z.length) = false := decide_eq_false (by omega)
    clear cf
    (first | rw [cg] | (simp only [i64_w, i32_w]; rw [cg]) | skip)
    replace a8 := am a8; clear aI
    go_wp2
    go_meet
    case rel => exact ⟨_, z, a8, ⟨B13x21_⟩, Cr Z, Cr ar, D1x1_⟩
   clear aI
   try clear dR
   try clear df
   try clear eq
   try clear b2
   try clear cI
   obtain ⟨kq, bh, bZ, fj, Z, ar, ae, J, M, U, HB⟩ := hcut
   cases kq with
   | zero => exact absurd bZ.out (by simp [spec_l15Open.j2])
   | succ e1 => ?_
   replace bZ := bZ.out; simp only [spec_l15Open.j2] at bZ; obtain ⟨cy, d5, cX⟩ := bsi bZ; (try dsimp only at cX); obtain ⟨dh, dJ⟩ := yn cX; have fp := eq_true dh; have fq := decide_eq_true dh
   try have ew : (9223372036854775807 < 5 + cy.size) = False := eq_false (Nat.not_lt.2 dh)
   try (have ex := ew; simp only [ByteArray.size_append] at ex)
   obtain ⟨rfl, rfl, rfl⟩ := s3 dJ; clear dJ bZ cX; obtain ⟨bV, b3, eJ⟩ := Kd.R_slice Z.out; subst eJ; obtain ⟨fR, gh, fT, gj⟩ := o4_ bo bd bp b0; obtain ⟨fd, fe, ff, fg⟩ := cf2 U
   try go_wp2
   generalize hw : (wc.setCell ⟨br, 0, none⟩ (.slice bV bh.length b3)) = bu; replace hw := hw.symm
   replace Z : Aside0 (Kd.R k83 83 bu w.heap.size (fun k_ => some k_ ≠ (.slice av ag.length aw : Value).ownBlock) (.slice bV bh.length b3) bh) := ⟨wtfg Z.out U.out (by decide)⟩
   replace ar : Aside0 (Kd.R k83 83 bu w.heap.size (fun k_ => some k_ ≠ (.slice bV bh.length b3 : Value).ownBlock) (.slice av ag.length aw) ag) := ⟨wtfg ar.out U.out (by decide)⟩
   replace ae : Aside0 (Kd.R k81 81 bu w.heap.size (fun _ => True) (.slice a4 ax.length a5) ax) := ⟨wtfg ae.out U.out (by decide)⟩
   replace J : Hc bu ch #[.slice aD D.length aE, .slice aQ aC.length aU] 47 := ⟨wAp1 J bd⟩
   replace M : Hc bu a0 #[.slice none 0 0, .slice none 0 0] 47 := ⟨wAp1 M b0⟩
   replace U : Hc bu br #[.slice bV bh.length b3, .slice a4 ax.length a5] 47 := ⟨wAp0 U⟩
   replace HB : Hb w bu := ⟨wAe3 HB ai aj au⟩
   clear hw; replace Z := eA Z; replace ar := eA ar; replace ae := eA ae; replace J := dA J; replace M := dA M; replace U := dA U; replace HB := bdr HB; refine start_ (n := 6) (S := fun w' => w'.cell? ⟨br, 0, none⟩ = some (.slice bV bh.length b3) ∧ w'.cell? ⟨br, 1, none⟩ = some (.slice a4 ax.length a5)) (ds := []) #[false, false, false, false, false, false] gk_ rfl rfl ⟨bc U 0, bc U 1⟩ (fun b4 => ?_); generalize bu.drew = gV at Z ar ae J M U HB b4 ⊢; refine pure_ (i := 1) (N := some 74) (v := ?_) (a' := ?_) #[false, true, false, false, false, false] rfl rfl gk_ (fun _ _ _ h => h) (Or.inl ⟨(by rfl), ?_⟩) ?_ ?_; rotate_left
   ·intro w'; go_simp; with_reducible rfl
   rotate_left
   ·simp only [Act.put, List.setIfInBounds_toArray, List.set_cons_zero, List.set_cons_succ, i64_w, i32_w]; rfl
   refine take_ (i := 0) (N := some 73) (v := ?_) (a' := ?_) #[true, true, false, false, false, false] rfl rfl gk_ (fun _ _ _ h => h) (Or.inl ⟨(by rfl), ?_⟩) b4 ?_ ?_; rotate_left
   ·rintro w' ⟨s0, s1⟩; go_simp; with_reducible rfl
   rotate_left
   ·simp only [Act.put, List.setIfInBounds_toArray, List.set_cons_zero, List.set_cons_succ, i64_w, i32_w]; rfl
   refine one_ (i := 2) (N := some 75) #[true, true, true, false, false, false] rfl rfl gk_ (by decide) (fun K hK => ?_); refine gT Try.func89 (spec_Decimal.calls e1 a1 cy _ d5.out) ?_; rintro d4 hb; replace Z := rA Z hb; replace ae := rA ae hb; replace M := bA M hb; replace U := bA U hb; replace HB := De3 HB ai aj au hb; refine hK.out _ _ ⟨bc U 0, bc U 1⟩ (fun b4 => nm_ ?_); clear hK K; refine pure_ (i := 3) (N := some 76) (v := ?_) (a' := ?_) #[true, true, true, true, false, false] rfl rfl gk_ (fun _ _ _ h => h) (Or.inl ⟨(by rfl), ?_⟩) ?_ ?_; rotate_left
   ·intro w'; go_simp; with_reducible rfl
   rotate_left
   ·simp only [Act.put, List.setIfInBounds_toArray, List.set_cons_zero, List.set_cons_succ, i64_w, i32_w]; rfl
   refine one_ (i := 4) (N := none) #[true, true, true, true, true, false] rfl rfl gk_ (by decide) (fun K hK => ?_)
   have gq : d4.cell? ⟨a0, 0, none⟩ = some (.slice none 0 0) := bc M 0
   have fu := blk_frozen M.out 0; obtain ⟨gl, gm, fw, fx⟩ := o4_ bj bp bk b0
   have gr : d4.cell? ⟨a0, 1, none⟩ = some (.slice none 0 0) := bc M 1
   have fv := blk_frozen M.out 1; obtain ⟨gn, gp, fy, fz⟩ := o4_ bj bp bk b0; refine skip_ (w1 := ?_) (by rfl) rfl ?_ ?_; rotate_left
   ·go_simp; rfl
   refine hK.out _ _ ⟨((cell_far (p := ⟨a0, _, none⟩) bp.out _).trans (((cell_far (p := ⟨a0, _, none⟩) bp.out _).trans (b4.1)))), ((cell_far (p := ⟨a0, _, none⟩) bp.out _).trans (((cell_far (p := ⟨a0, _, none⟩) bp.out _).trans (b4.2))))⟩ (fun b4 => ?_); clear hK K; refine pure_ (i := 5) (N := some 5) (v := ?_) (a' := ?_) #[true, true, true, true, true, true] rfl rfl gk_ (fun _ _ _ h => h) (Or.inl ⟨(by rfl), ?_⟩) ?_ ?_; rotate_left
   ·intro w'; go_simp; with_reducible rfl
   rotate_left
   ·simp only [Act.put, List.setIfInBounds_toArray, List.set_cons_zero, List.set_cons_succ, i64_w, i32_w]; rfl
   refine done_ gk_ ?_
   try go_wp2
   refine bodyPost_ret (results_ct rfl _ _ a0 47 #[.slice bV bh.length b3, .slice a4 ax.length a5] (0, 0) _ rfl (Ap0 M) Try.underlying47 rfl gk_) rfl ?_
   exact ⟨_, _, (by first | rfl | (simp [errW_none, errW_some] <;> rfl) | (simp [*, errW_none, errW_some] <;> rfl)), (tfg Z.out M.out (by decide)), (tfg ae.out M.out (by decide)), (Ae3 HB ai aj au)⟩
/-- A state of type 47 at block g of W; what its slices lead to came in by w0. -/
theorem B14x3_ (h : p := by repeat (first | (with_reducible first | exact l.out | apply IsS47.alloc | apply IsS47.drewN | apply IsS47.drew | apply IsS47.set_1 | refine IsS47.far ?_ bi.out _) | exact l.out)) : p := h
theorem B14x4_ (h : p := by repeat (first | (with_reducible first | exact l.out | apply IsS47.alloc | apply IsS47.drewN | apply IsS47.drew | apply IsS47.set_1 | apply IsS47.far (p := ⟨ao, _, none⟩) (hne := bi.out)) | exact l.out)) : p := h
theorem B14x6_ (h : p := by exact (fun k_ hk => Kd.freshB (g := ao) (o := .cells #[.string af, .string ak, .int .i64 al] 81 (0, 0)) (Ab Y) k_ hk)) : p := h
theorem B14x8_ (h : p := by exact (keep_size (w := w) (g := g) (row := none) (Ak1 HK ad))) : p := h
theorem B14x10_ (h : p := by repeat (first | (with_reducible first | exact l.out | apply IsS47.alloc | apply IsS47.drewN | apply IsS47.drew | apply IsS47.set_1) | exact l.out)) : p := h
theorem B14x14_ (h : p := by exact k81_mkM _ _ _ (⟨(rd_T81 j aa).f0, (rd_T81 j aa).f1, (rd_T81 j aa).f2⟩ : S81)) : p := h
theorem B14x15_ (h : p := by exact k81_mkM _ _ _ (⟨(rd_T81 j z).f0, (rd_T81 j z).f1, (rd_T81 j z).f2⟩ : S81)) : p := h
theorem B14x16_ (h : p := by exact k81_mkM _ _ _ (⟨af, ak, al⟩ : S81)) : p := h
theorem B14x17_ (h : p := by first | rfl | (simp [errW_none, errW_some] <;> rfl) | (simp [*, errW_none, errW_some] <;> rfl)) : p := h
def IsS47 (w0 W : World) (g : Nat) (f0 : Value) (f1 : Value) : Prop := W.heap[g]? = some (.cells #[f0, f1] 47 (0, 0)) ∧ w0.heap.size ≤ g
theorem IsS47.grown {w0 W : World} {g : Nat} {f0 : Value} {f1 : Value} {W1 : World} {row : Option Nat} (h : IsS47 w0 W g f0 f1) (hw : W.grownBy W1 row) (hne : some g ≠ row) : IsS47 w0 W1 g f0 f1 := by
 obtain ⟨hb, hg⟩ := h
 exact ⟨blk_grown hb hw hne, hg⟩
theorem IsS47.own_neN {w0 W : World} {g : Nat} {f0 : Value} {f1 : Value} {α : Type} {d : Kd α} {e : Nat} {base : Nat} {ok : Nat → Prop} {v : Value} {xs : List α} (h : IsS47 w0 W g f0 f1) (ho : Kd.N d e W base ok v xs) (ht : e ≠ 47) : some g ≠ v.ownBlock := by
 obtain ⟨hb, hg⟩ := h
 exact Kd.N_ne ho hb ht
theorem IsS47.fresh {w0 W : World} {g : Nat} {f0 : Value} {f1 : Value} (h : IsS47 w0 W g f0 f1) : ∀ k, W.heap.size ≤ k → k ≠ g := by
 obtain ⟨hb, hg⟩ := h
 exact Kd.freshB hb
theorem IsS47.kept {w0 W : World} {g : Nat} {f0 : Value} {f1 : Value} {W1 : World} {S : Nat → Prop} (h : IsS47 w0 W g f0 f1) (hk : Kept W W1 S) (hne : ¬ S g) : IsS47 w0 W1 g f0 f1 := by
 obtain ⟨hb, hg⟩ := h
 exact ⟨blk_kept hb hk hne, hg⟩
theorem IsS47.below {w0 W : World} {g : Nat} {f0 : Value} {f1 : Value} {W1 : World} (h : IsS47 w0 W g f0 f1) (hw : Below W.heap.size W W1) : IsS47 w0 W1 g f0 f1 := h.grown (grown_of_below hw none) (by simp)
theorem IsS47.alloc {w0 W : World} {g : Nat} {f0 : Value} {f1 : Value} (h : IsS47 w0 W g f0 f1) (o : Obj) : IsS47 w0 (W.alloc o) g f0 f1 := h.below (below_alloc (Below.refl _ _) o)
theorem IsS47.drewN {w0 W : World} {g : Nat} {f0 : Value} {f1 : Value} (h : IsS47 w0 W g f0 f1) (m : Nat) : IsS47 w0 (W.drewN m) g f0 f1 := h
theorem IsS47.drew {w0 W : World} {g : Nat} {f0 : Value} {f1 : Value} (h : IsS47 w0 W g f0 f1) : IsS47 w0 W.drew g f0 f1 := h
theorem IsS47.at_ {w0 W : World} {g : Nat} {f0 : Value} {f1 : Value} {w' : World} {m : Nat} (hq : W.drewN m = w') (h : IsS47 w0 W g f0 f1) : IsS47 w0 w' g f0 f1 := by subst hq; exact IsS47.drewN h m
theorem IsS47.apart {w0 W : World} {g : Nat} {f0 : Value} {f1 : Value} {α : Type} {d : Kd α} {e : Nat} {base : Nat} {ok : Nat → Prop} {v : Value} {xs : List α} (h : IsS47 w0 W g f0 f1) (ho : d.R e W base ok v xs) (ht : ∀ q, q ∈ e :: d.E → q ≠ 47) : d.R e W base (fun k => ok k ∧ k ≠ g) v xs := by
 obtain ⟨hb, hg⟩ := h
 exact Kd.R_types ho hb ht
theorem IsS47.own_ne {w0 W : World} {g : Nat} {f0 : Value} {f1 : Value} {α : Type} {d : Kd α} {e : Nat} {base : Nat} {ok : Nat → Prop} {v : Value} {xs : List α} (h : IsS47 w0 W g f0 f1) (ho : d.R e W base ok v xs) (ht : e ≠ 47) : some g ≠ v.ownBlock := by
 obtain ⟨hb, hg⟩ := h
 exact Kd.R_ne ho hb ht
theorem IsS47.apartQ {w0 W : World} {g : Nat} {f0 : Value} {f1 : Value} {α : Type} {d : Kd α} {e : Nat} {base : Nat} {ok : Nat → Prop} {v : Value} {xs : List α} (h : IsS47 w0 W g f0 f1) (ho : d.Q e W base ok v xs) (ht : ∀ q, q ∈ e :: d.E → q ≠ 47) : d.Q e W base (fun k => ok k ∧ k ≠ g) v xs := by
 obtain ⟨hb, hg⟩ := h
 exact Kd.Q_types ho hb ht
theorem IsS47.own_neQ {w0 W : World} {g : Nat} {f0 : Value} {f1 : Value} {α : Type} {d : Kd α} {e : Nat} {base : Nat} {ok : Nat → Prop} {v : Value} {xs : List α} (h : IsS47 w0 W g f0 f1) (ho : d.Q e W base ok v xs) (ht : e ≠ 47) : some g ≠ v.ownBlock := by
 obtain ⟨hb, hg⟩ := h
 exact Kd.Q_ne ho hb ht
theorem IsS47.apartS {w0 W : World} {g : Nat} {f0 : Value} {f1 : Value} {α : Type} {d : Kd α} {e : Nat} {base : Nat} {ok : Nat → Prop} {v : Value} {xs : List α} (h : IsS47 w0 W g f0 f1) (ho : d.S e W base ok v xs) (ht : ∀ q, q ∈ e :: d.E → q ≠ 47) : d.S e W base (fun k => ok k ∧ k ≠ g) v xs := by
 obtain ⟨hb, hg⟩ := h
 exact Kd.S_types ho hb ht
theorem IsS47.own_neS {w0 W : World} {g : Nat} {f0 : Value} {f1 : Value} {α : Type} {d : Kd α} {e : Nat} {base : Nat} {ok : Nat → Prop} {v : Value} {xs : List α} (h : IsS47 w0 W g f0 f1) (ho : d.S e W base ok v xs) (ht : e ≠ 47) : some g ≠ v.ownBlock := by
 obtain ⟨hb, hg⟩ := h
 exact Kd.S_ne ho hb ht
theorem IsS47.lt {w0 W : World} {g : Nat} {f0 : Value} {f1 : Value} (h : IsS47 w0 W g f0 f1) : g < W.heap.size := by
 obtain ⟨hb, hg⟩ := h
 exact blk_lt hb
theorem IsS47.ge {w0 W : World} {g : Nat} {f0 : Value} {f1 : Value} (h : IsS47 w0 W g f0 f1) : w0.heap.size ≤ g := by
 obtain ⟨hb, hg⟩ := h
 exact hg
theorem IsS47.gf {w0 W : World} {g : Nat} {f0 : Value} {f1 : Value} (h : Aside0 (IsS47 w0 W g f0 f1)) : Aside0 (w0.heap.size ≤ g) := ⟨h.out.ge⟩
theorem IsS47.ne_blk {w0 W : World} {g : Nat} {f0 : Value} {f1 : Value} {a : Nat} {cs : Array Value} {t : TypeId} {fr : Nat × Nat} (h : IsS47 w0 W g f0 f1) (hb2 : W.heap[a]? = some (.cells cs t fr)) (ht : t ≠ 47) : g ≠ a := by
 obtain ⟨hb, hg⟩ := h
 rintro rfl
 rw [hb] at hb2
 injection hb2 with hb2
 injection hb2 with _ ht2
 exact ht ht2.symm
theorem IsS47.far {w0 W : World} {g : Nat} {f0 : Value} {f1 : Value} {p : Addr} (h : IsS47 w0 W g f0 f1) (hne : g ≠ p.block) (u : Value) : IsS47 w0 (W.setCell p u) g f0 f1 := by
 obtain ⟨hb, hg⟩ := h
 exact ⟨blk_far hb hne u, hg⟩
theorem IsS47.set_0 {w0 W : World} {g : Nat} {f0 : Value} {f1 : Value} (h : IsS47 w0 W g f0 f1) (x : Value) : IsS47 w0 (W.setCell ⟨g, 0, none⟩ x) g x f1 := by
 obtain ⟨hb, hg⟩ := h
 exact ⟨(by simpa using blk_set hb 0 x), hg⟩
theorem cellS47_0 {W : World} {g : Nat} {f0 : Value} {f1 : Value} (h : W.heap[g]? = some (.cells #[f0, f1] 47 (0, 0))) : W.cell? ⟨g, 0, none⟩ = some (f0) := (blk_cell h 0).trans rfl
theorem IsS47.set_1 {w0 W : World} {g : Nat} {f0 : Value} {f1 : Value} (h : IsS47 w0 W g f0 f1) (x : Value) : IsS47 w0 (W.setCell ⟨g, 1, none⟩ x) g f0 x := by
 obtain ⟨hb, hg⟩ := h
 exact ⟨(by simpa using blk_set hb 1 x), hg⟩
theorem cellS47_1 {W : World} {g : Nat} {f0 : Value} {f1 : Value} (h : W.heap[g]? = some (.cells #[f0, f1] 47 (0, 0))) : W.cell? ⟨g, 1, none⟩ = some (f1) := (blk_cell h 1).trans rfl
theorem IsS47.new (w0 W : World) (f0 : Value) (f1 : Value) (hB : Below w0.heap.size w0 W) : IsS47 w0 (W.alloc (.cells #[f0, f1] 47)) W.heap.size f0 f1 := ⟨(by simpa using heap_alloc_new W _), hB.size⟩

mutual
def spec_l15Put.l0 : Nat → List (S81) → Int → List (S83) → List (S81) → ByteArray → ByteArray → Int → Option (Bool × (List (S81)))
 | 0, _, _, _, _, _, _, _ => none
 | k + 1, x5, x6, b6, aH, bm, bS, bT => if x6 < (aH.length : Int) then (if 0 ≤ x6 then (if (Op.bytesLess (((rd_T81 aH x6).f0).toList) bm.toList) = true then (if x5.length < 3518437208883 then (spec_l15Put.l0 k (x5 ++ [(⟨(rd_T81 aH x6).f0, (rd_T81 aH x6).f1, (rd_T81 aH x6).f2⟩ : S81)]) (wrap64 (x6 + 1)) b6 aH bm bS bT) else (none)) else (spec_l15Put.l0 k x5 (wrap64 (x6 + 1)) b6 aH bm bS bT)) else (none)) else (if x5.length < 3518437208883 then (spec_l15Put.l1 k (x5 ++ [(⟨bm, bS, bT⟩ : S81)]) 0 b6 aH bm bS bT) else (none))
def spec_l15Put.l1 : Nat → List (S81) → Int → List (S83) → List (S81) → ByteArray → ByteArray → Int → Option (Bool × (List (S81)))
 | 0, _, _, _, _, _, _, _ => none
 | k + 1, x5, x7, b6, aH, bm, bS, bT => if x7 < (aH.length : Int) then (if 0 ≤ x7 then (if (Op.bytesLess bm.toList (((rd_T81 aH x7).f0).toList)) = true then (if x5.length < 3518437208883 then (spec_l15Put.l1 k (x5 ++ [(⟨(rd_T81 aH x7).f0, (rd_T81 aH x7).f1, (rd_T81 aH x7).f2⟩ : S81)]) (wrap64 (x7 + 1)) b6 aH bm bS bT) else (none)) else (spec_l15Put.l1 k x5 (wrap64 (x7 + 1)) b6 aH bm bS bT)) else (none)) else (if (x5.length : Int) > 8 then (some (false, aH)) else (some (true, x5)))
end
def spec_l15Put.f (k : Nat) (aX : List (S83)) (j : List (S81)) (af : ByteArray) (ak : ByteArray) (al : Int) : Option (Bool × (List (S81))) := spec_l15Put.l0 k (([] : List (S81))) 0 aX j af ak al
theorem spec_l15Put.calls (k : Nat) (g : Nat) (aD : Option Addr) (aE : Nat) (aX : List (S83)) (aQ : Option Addr) (aU : Nat) (j : List (S81)) (af : ByteArray) (ak : ByteArray) (al : Int) (r1 : Bool) (r2 : List (S81)) (w0 w : World) (hI : IsS47 w0 w g (.slice aD aX.length aE) (.slice aQ j.length aU)) (hB : Below w0.heap.size w0 w) (cK : ∀ W_, KeepBut w W_ g none → Kd.C k83 W_ aD aX.length aX) (ci : aX.length ≤ aE) (ck : ∀ W_, KeepBut w W_ g none → Kd.C k81 W_ aQ j.length j) (cj : j.length ≤ aU) (dT : Kd.R k81 81 w w0.heap.size (fun k_ => k_ ≠ g) (.slice aQ j.length aU) j) (h : spec_l15Put.f k aX j af ak al = some (r1, r2)) :
  Calls Try.prog 111 #[.pointer (some ⟨g, 0, none⟩), .agg #[.string af, .string ak, .int .i64 al]] w fun e w' => ∃ d0 : Value, e = .returned (.bool r1) ∧ IsS47 w0 w' g (.slice aD aX.length aE) d0 ∧ Kd.R k81 81 w' w0.heap.size (fun k_ => k_ ≠ g) d0 r2 ∧ Below w0.heap.size w0 w' ∧ KeepBut w w' g none := by
 have gu := Try.underlying81
 have dG := am ci
 clear cK ci
 have bn := am ck
 have dH := am cj
 clear ck cj
 have HOW := am dT
 clear dT
 have l := am hI
 have HK := am (KeepBut.refl w g none)
 have HL := am hB.size
 clear hI
 have cW := am hB.size
 have HB := am hB
 clear hB
 have aY := h
 clear h
 unfold spec_l15Put.f at aY
 obtain ⟨e9, cu⟩ : ∃ y_ : List (S81), y_ = (([] : List (S81))) := ⟨_, rfl⟩
 (first | with_reducible replace aY := hq cu aY | rw [← cu] at aY | simp only [← cu] at aY)
 have b1 := am cu
 clear cu
 replace aY := am aY
 go_enter Try.func111, Try.ntmps111
 go_wp2_with (first | ((with_reducible refine gate_dst (N := 3) rfl ?_); refine bx (N := 3) (cs := #[.string af, .string ak, .int .i64 al]) (t := 81) ?_; intro ao hg w3 hbox hb; replace HB := De1 HB (IsS47.gf l) hb; have Y := am hbox; have ad := gK hg HK; have ap := am (Nat.le_trans cW.out (bs hg (keep_size HK.out)) : w0.heap.size ≤ ao); replace HK := Ek0 HK hb; have bi := am (nl hg (IsS47.lt l.out)); have bC := am (ng hg (IsS47.lt l.out)); replace l := am (IsS47.below B14x10_ hb); clear hb hbox hg) | ((with_reducible refine gate_dst (N := 8) rfl ?_); refine lL k81 81 8 ([] : List (S81)) [] (Reps.none _ _) ?_; intro dW w4 aG hb; (first | rw [← b1.out] at aG | (simp only [Int.reduceToNat] at aG; rw [← b1.out] at aG)); have cS := am (Kd.R_lower (Kd.R_newB aG (g := ao) (o := .cells #[.string af, .string ak, .int .i64 al] 81 (0, 0)) (Ab Y)) (keep_size (w := w) (g := g) (row := none) (Ak1 HK ad))); replace Y := bA Y hb; replace HK := Ek1 HK ad hb; replace HB := De2 HB (IsS47.gf l) ap hb; replace l := am (IsS47.below B14x3_ hb); clear hb aG))
 repeat (go_quiet (first | ((with_reducible refine gate_dst (N := 3) rfl ?_); refine bx (N := 3) (cs := #[.string af, .string ak, .int .i64 al]) (t := 81) ?_; intro ao hg w3 hbox hb; replace HB := De1 HB (IsS47.gf l) hb; have Y := am hbox; have ad := gK hg HK; have ap := am (Nat.le_trans cW.out (bs hg (keep_size HK.out)) : w0.heap.size ≤ ao); replace HK := Ek0 HK hb; have bi := am (nl hg (IsS47.lt l.out)); have bC := am (ng hg (IsS47.lt l.out)); replace l := am (IsS47.below B14x10_ hb); clear hb hbox hg) | ((with_reducible refine gate_dst (N := 8) rfl ?_); refine lL k81 81 8 ([] : List (S81)) [] (Reps.none _ _) ?_; intro dW w4 aG hb; (first | rw [← b1.out] at aG | (simp only [Int.reduceToNat] at aG; rw [← b1.out] at aG)); have cS := am (Kd.R_lower (Kd.R_newB aG (g := ao) (o := .cells #[.string af, .string ak, .int .i64 al] 81 (0, 0)) (Ab Y)) (keep_size (w := w) (g := g) (row := none) (Ak1 HK ad))); replace Y := bA Y hb; replace HK := Ek1 HK ad hb; replace HB := De2 HB (IsS47.gf l) ap hb; replace l := am (IsS47.below B14x3_ hb); clear hb aG)); try go_wp2_with (first | ((with_reducible refine gate_dst (N := 3) rfl ?_); refine bx (N := 3) (cs := #[.string af, .string ak, .int .i64 al]) (t := 81) ?_; intro ao hg w3 hbox hb; replace HB := De1 HB (IsS47.gf l) hb; have Y := am hbox; have ad := gK hg HK; have ap := am (Nat.le_trans cW.out (bs hg (keep_size HK.out)) : w0.heap.size ≤ ao); replace HK := Ek0 HK hb; have bi := am (nl hg (IsS47.lt l.out)); have bC := am (ng hg (IsS47.lt l.out)); replace l := am (IsS47.below B14x10_ hb); clear hb hbox hg) | ((with_reducible refine gate_dst (N := 8) rfl ?_); refine lL k81 81 8 ([] : List (S81)) [] (Reps.none _ _) ?_; intro dW w4 aG hb; (first | rw [← b1.out] at aG | (simp only [Int.reduceToNat] at aG; rw [← b1.out] at aG)); have cS := am (Kd.R_lower (Kd.R_newB aG (g := ao) (o := .cells #[.string af, .string ak, .int .i64 al] 81 (0, 0)) (Ab Y)) (keep_size (w := w) (g := g) (row := none) (Ak1 HK ad))); replace Y := bA Y hb; replace HK := Ek1 HK ad hb; replace HB := De2 HB (IsS47.gf l) ap hb; replace l := am (IsS47.below B14x3_ hb); clear hb aG)))
 go_loopg [5, 6] k (fun kq v5 v6 w' => ∃ (a2 : List (S81)) (aa : Int), v6 = .int .i64 aa ∧ Aside0 (spec_l15Put.l0 kq a2 aa aX j af ak al = some (r1, r2)) ∧ Aside0 (kq ≤ k) ∧ Aside0 (Kd.R k81 81 w' w.heap.size (fun k_ => k_ ≠ ao) v5 a2) ∧ Aside0 (w'.heap[ao]? = some (.cells #[.string af, .string ak, .int .i64 al] 81 (0, 0))) ∧ Aside0 (IsS47 w0 w' g (.slice aD aX.length aE) (.slice aQ j.length aU)) ∧ Aside0 (KeepBut w w' g none) ∧ Aside0 (Below w0.heap.size w0 w'))
 case atStart => exact ⟨(e9), 0, be_, aY, ⟨Nat.le_refl _⟩, ⟨(by (with_reducible repeat (first | apply Kd.R_alloc | apply Kd.R_drewN | apply Kd.R_drew)); exact Kd.R_mono cS.out (fun _ hk => hk.2))⟩, D1x0_⟩
 case round =>
  clear aY; obtain ⟨a2, aa, rfl, az, ay, B, Y, l, HK, HB⟩ := hrel
  cases gk with
  | zero => exact absurd az.out (by simp [spec_l15Put.l0])
  | succ k1 => ?_
  replace az := az.out; simp only [spec_l15Put.l0] at az
  obtain ⟨dS, aT⟩ | ⟨dS, aT⟩ := sd az
  ·obtain ⟨fs, a9⟩ := yd aT
   obtain ⟨c8, ba⟩ | ⟨c8, ba⟩ := sp a9
   ·have ey : (Op.bytesLess (((rd_T81 j aa).f0).toList) af.toList) = true := c8
    clear c8; obtain ⟨da, aW⟩ := ya ba; obtain ⟨fa, cv⟩ : ∃ y_ : List (S81), y_ = (a2 ++ [(⟨(rd_T81 j aa).f0, (rd_T81 j aa).f1, (rd_T81 j aa).f2⟩ : S81)]) := ⟨_, rfl⟩
    (first | with_reducible replace aW := hq cv aW | rw [← cv] at aW | simp only [← cv] at aW)
    have dc := am cv; clear cv; replace aW := am aW; clear az aT a9 ba; obtain ⟨cB, eK⟩ := l.out; have gW := cellS47_0 cB; have gX := cellS47_1 cB; have ha := blk_frozen cB 1; clear cB eK
    have bM : 0 ≤ (aa : Int) := dga
    have bQ : aa < (j.length : Int) := dga
    obtain ⟨dO, dk, eV, eW, eX⟩ := at_T81 (Kd.C_foot_now bn.out HK.out) aa bM bQ; cases dk; replace bM := eq_true bM; replace bQ := eq_true bQ; obtain ⟨eR, eS⟩ := o2_ bC bi; obtain ⟨cM, cN, cO, cP, cQ, cR⟩ := cf3 Y
    have dx : 0 ≤ (aa : Int) := dga
    have dC : aa < (j.length : Int) := dga
    obtain ⟨el, eC, gw, gx, gy⟩ := at_T81 (Kd.C_foot_now bn.out HK.out) aa dx dC; obtain rfl : dO = el := (by injection eC); replace dx := eq_true dx; replace dC := eq_true dC
    go_wp2_with (first | ((with_reducible refine gate_builtin (b := .append) (xs := #[.tmp 29, .tmp 37]) rfl ?_); at_builtin; refine Kd.R_append k81 w.heap.size rfl (.tmp 29) (.tmp 37) 45 81 (.agg #[(.string ⟨#[]⟩), (.string ⟨#[]⟩), (.int .i64 0)]) 40 rfl Try.underlying45 info81 rfl (by decide) (by omega) u5 a2 (⟨(rd_T81 j aa).f0, (rd_T81 j aa).f1, (rd_T81 j aa).f2⟩ : S81) [.string ((rd_T81 j aa).f0), .string ((rd_T81 j aa).f1), .int .i64 ((rd_T81 j aa).f2)] (fun k_ => k_ ≠ ao) (fun _ => False) rfl rfl ?aP (fun _ hk => hk.elim) ?aF ?aO (Below.refl _ _) ?aS ?aL ?_; (case aP => exact B14x14_); (case aF => exact B14x6_); (case aO => exact (Ar B)); (case aS => exact B14x8_); (case aL => have := da.out; omega); intro dX d1 ho hb hg hat; rw [← dc.out] at ho; replace Y := bg Y hg (Kd.R_away B.out (fun _ hk => hk)); replace HB := am (below_weaken (Ae2 HB (IsS47.gf l) ap) HL.out hb); replace l := am (IsS47.grown B14x4_ hg (IsS47.own_ne l.out B.out (by decide))); replace HK := am (KeepBut.trans (Ak1 HK ad) (KeepBut.of_grown hg g) (Kd.R_base2 B.out)); have cT := am ho; clear B; clear ho hb hg hat))
    repeat (go_quiet (first | ((with_reducible refine gate_builtin (b := .append) (xs := #[.tmp 29, .tmp 37]) rfl ?_); at_builtin; refine Kd.R_append k81 w.heap.size rfl (.tmp 29) (.tmp 37) 45 81 (.agg #[(.string ⟨#[]⟩), (.string ⟨#[]⟩), (.int .i64 0)]) 40 rfl Try.underlying45 info81 rfl (by decide) (by omega) u5 a2 (⟨(rd_T81 j aa).f0, (rd_T81 j aa).f1, (rd_T81 j aa).f2⟩ : S81) [.string ((rd_T81 j aa).f0), .string ((rd_T81 j aa).f1), .int .i64 ((rd_T81 j aa).f2)] (fun k_ => k_ ≠ ao) (fun _ => False) rfl rfl ?aP (fun _ hk => hk.elim) ?aF ?aO (Below.refl _ _) ?aS ?aL ?_; (case aP => exact B14x14_); (case aF => exact B14x6_); (case aO => exact (Ar B)); (case aS => exact B14x8_); (case aL => have := da.out; omega); intro dX d1 ho hb hg hat; rw [← dc.out] at ho; replace Y := bg Y hg (Kd.R_away B.out (fun _ hk => hk)); replace HB := am (below_weaken (Ae2 HB (IsS47.gf l) ap) HL.out hb); replace l := am (IsS47.grown B14x4_ hg (IsS47.own_ne l.out B.out (by decide))); replace HK := am (KeepBut.trans (Ak1 HK ad) (KeepBut.of_grown hg g) (Kd.R_base2 B.out)); have cT := am ho; clear B; clear ho hb hg hat)); try go_wp2_with (first | ((with_reducible refine gate_builtin (b := .append) (xs := #[.tmp 29, .tmp 37]) rfl ?_); at_builtin; refine Kd.R_append k81 w.heap.size rfl (.tmp 29) (.tmp 37) 45 81 (.agg #[(.string ⟨#[]⟩), (.string ⟨#[]⟩), (.int .i64 0)]) 40 rfl Try.underlying45 info81 rfl (by decide) (by omega) u5 a2 (⟨(rd_T81 j aa).f0, (rd_T81 j aa).f1, (rd_T81 j aa).f2⟩ : S81) [.string ((rd_T81 j aa).f0), .string ((rd_T81 j aa).f1), .int .i64 ((rd_T81 j aa).f2)] (fun k_ => k_ ≠ ao) (fun _ => False) rfl rfl ?aP (fun _ hk => hk.elim) ?aF ?aO (Below.refl _ _) ?aS ?aL ?_; (case aP => exact B14x14_); (case aF => exact B14x6_); (case aO => exact (Ar B)); (case aS => exact B14x8_); (case aL => have := da.out; omega); intro dX d1 ho hb hg hat; rw [← dc.out] at ho; replace Y := bg Y hg (Kd.R_away B.out (fun _ hk => hk)); replace HB := am (below_weaken (Ae2 HB (IsS47.gf l) ap) HL.out hb); replace l := am (IsS47.grown B14x4_ hg (IsS47.own_ne l.out B.out (by decide))); replace HK := am (KeepBut.trans (Ak1 HK ad) (KeepBut.of_grown hg g) (Kd.R_base2 B.out)); have cT := am ho; clear B; clear ho hb hg hat)))
    go_roundg k1
    case measure => have := ay.out; omega
    case rel => exact ⟨(fa), (wrap64 (aa + 1)), be_, aW, ⟨(by have := ay.out; omega)⟩, Cr cT, D1x0_⟩
   have ey : (Op.bytesLess (((rd_T81 j aa).f0).toList) af.toList) = false := by simpa using c8
   clear c8; replace ba := am ba; clear az aT a9; obtain ⟨cC, eL⟩ := l.out; have gY := cellS47_0 cC; have gZ := cellS47_1 cC; have he := blk_frozen cC 1; clear cC eL
   have bM : 0 ≤ (aa : Int) := dga
   have bQ : aa < (j.length : Int) := dga
   obtain ⟨dO, dk, eV, eW, eX⟩ := at_T81 (Kd.C_foot_now bn.out HK.out) aa bM bQ; cases dk; replace bM := eq_true bM; replace bQ := eq_true bQ; obtain ⟨fB, fV⟩ := o2_ bC bi; obtain ⟨cM, cN, cO, cP, cQ, cR⟩ := cf3 Y
   go_wp2
   repeat (go_quiet (fail); try go_wp2)
   go_roundg k1
   case measure => have := ay.out; omega
   case rel => exact ⟨(a2), (wrap64 (aa + 1)), be_, ba, ⟨(by have := ay.out; omega)⟩, Cr B, D1x0_⟩
  obtain ⟨cY, aJ⟩ := ya aT; obtain ⟨fb, cw⟩ : ∃ y_ : List (S81), y_ = (a2 ++ [(⟨af, ak, al⟩ : S81)]) := ⟨_, rfl⟩
  (first | with_reducible replace aJ := hq cw aJ | rw [← cw] at aJ | simp only [← cw] at aJ)
  have dd := am cw; clear cw; replace aJ := am aJ; clear az aT; obtain ⟨cD, eM⟩ := l.out; have g0 := cellS47_0 cD; have g1 := cellS47_1 cD; have hf := blk_frozen cD 1; clear cD eM; obtain ⟨fC, fW⟩ := o2_ bC bi; obtain ⟨cM, cN, cO, cP, cQ, cR⟩ := cf3 Y
  go_wp2_with (first | ((with_reducible refine gate_builtin (b := .append) (xs := #[.tmp 39, .tmp 41]) rfl ?_); at_builtin; refine Kd.R_append k81 w.heap.size rfl (.tmp 39) (.tmp 41) 45 81 (.agg #[(.string ⟨#[]⟩), (.string ⟨#[]⟩), (.int .i64 0)]) 40 rfl Try.underlying45 info81 rfl (by decide) (by omega) u5 a2 (⟨af, ak, al⟩ : S81) [.string af, .string ak, .int .i64 al] (fun k_ => k_ ≠ ao) (fun _ => False) rfl rfl ?aP (fun _ hk => hk.elim) ?aF ?aO (Below.refl _ _) ?aS ?aL ?_; (case aP => exact B14x16_); (case aF => exact B14x6_); (case aO => exact (Ar B)); (case aS => exact B14x8_); (case aL => have := cY.out; omega); intro dY d2 ho hb hg hat; rw [← dd.out] at ho; replace Y := bg Y hg (Kd.R_away B.out (fun _ hk => hk)); replace HB := am (below_weaken (Ae2 HB (IsS47.gf l) ap) HL.out hb); replace l := am (IsS47.grown B14x4_ hg (IsS47.own_ne l.out B.out (by decide))); replace HK := am (KeepBut.trans (Ak1 HK ad) (KeepBut.of_grown hg g) (Kd.R_base2 B.out)); have cU := am ho; clear B; clear ho hb hg hat))
  repeat (go_quiet (first | ((with_reducible refine gate_builtin (b := .append) (xs := #[.tmp 39, .tmp 41]) rfl ?_); at_builtin; refine Kd.R_append k81 w.heap.size rfl (.tmp 39) (.tmp 41) 45 81 (.agg #[(.string ⟨#[]⟩), (.string ⟨#[]⟩), (.int .i64 0)]) 40 rfl Try.underlying45 info81 rfl (by decide) (by omega) u5 a2 (⟨af, ak, al⟩ : S81) [.string af, .string ak, .int .i64 al] (fun k_ => k_ ≠ ao) (fun _ => False) rfl rfl ?aP (fun _ hk => hk.elim) ?aF ?aO (Below.refl _ _) ?aS ?aL ?_; (case aP => exact B14x16_); (case aF => exact B14x6_); (case aO => exact (Ar B)); (case aS => exact B14x8_); (case aL => have := cY.out; omega); intro dY d2 ho hb hg hat; rw [← dd.out] at ho; replace Y := bg Y hg (Kd.R_away B.out (fun _ hk => hk)); replace HB := am (below_weaken (Ae2 HB (IsS47.gf l) ap) HL.out hb); replace l := am (IsS47.grown B14x4_ hg (IsS47.own_ne l.out B.out (by decide))); replace HK := am (KeepBut.trans (Ak1 HK ad) (KeepBut.of_grown hg g) (Kd.R_base2 B.out)); have cU := am ho; clear B; clear ho hb hg hat)); try go_wp2_with (first | ((with_reducible refine gate_builtin (b := .append) (xs := #[.tmp 39, .tmp 41]) rfl ?_); at_builtin; refine Kd.R_append k81 w.heap.size rfl (.tmp 39) (.tmp 41) 45 81 (.agg #[(.string ⟨#[]⟩), (.string ⟨#[]⟩), (.int .i64 0)]) 40 rfl Try.underlying45 info81 rfl (by decide) (by omega) u5 a2 (⟨af, ak, al⟩ : S81) [.string af, .string ak, .int .i64 al] (fun k_ => k_ ≠ ao) (fun _ => False) rfl rfl ?aP (fun _ hk => hk.elim) ?aF ?aO (Below.refl _ _) ?aS ?aL ?_; (case aP => exact B14x16_); (case aF => exact B14x6_); (case aO => exact (Ar B)); (case aS => exact B14x8_); (case aL => have := cY.out; omega); intro dY d2 ho hb hg hat; rw [← dd.out] at ho; replace Y := bg Y hg (Kd.R_away B.out (fun _ hk => hk)); replace HB := am (below_weaken (Ae2 HB (IsS47.gf l) ap) HL.out hb); replace l := am (IsS47.grown B14x4_ hg (IsS47.own_ne l.out B.out (by decide))); replace HK := am (KeepBut.trans (Ak1 HK ad) (KeepBut.of_grown hg g) (Kd.R_base2 B.out)); have cU := am ho; clear B; clear ho hb hg hat)))
  go_loopg [5, 7] k1 (fun kq v5 v7 w' => ∃ (aN : List (S81)) (z : Int), v7 = .int .i64 z ∧ Aside0 (spec_l15Put.l1 kq aN z aX j af ak al = some (r1, r2)) ∧ Aside0 (kq ≤ k1) ∧ Aside0 (Kd.R k81 81 w' w.heap.size (fun k_ => k_ ≠ ao) v5 aN) ∧ Aside0 (w'.heap[ao]? = some (.cells #[.string af, .string ak, .int .i64 al] 81 (0, 0))) ∧ Aside0 (IsS47 w0 w' g (.slice aD aX.length aE) (.slice aQ j.length aU)) ∧ Aside0 (KeepBut w w' g none) ∧ Aside0 (Below w0.heap.size w0 w'))
  case atStart => exact ⟨(fb), 0, be_, aJ, ⟨Nat.le_refl _⟩, Cr cU, D1x0_⟩
  case round =>
   clear aJ
   try clear c6
   try clear dS
   try clear dR
   obtain ⟨aN, z, rfl, aA, a6, B, Y, l, HK, HB⟩ := hrel
   cases gk with
   | zero => exact absurd aA.out (by simp [spec_l15Put.l1])
   | succ k2 => ?_
   replace aA := aA.out; simp only [spec_l15Put.l1] at aA
   obtain ⟨eo, aK⟩ | ⟨eo, aK⟩ := sd aA
   ·obtain ⟨fl, aI⟩ := yd aK
    obtain ⟨cd, a7⟩ | ⟨cd, a7⟩ := sp aI
    ·have ep : (Op.bytesLess af.toList (((rd_T81 j z).f0).toList)) = true := cd
     clear cd; obtain ⟨cZ, aV⟩ := ya a7; obtain ⟨fc, cx⟩ : ∃ y_ : List (S81), y_ = (aN ++ [(⟨(rd_T81 j z).f0, (rd_T81 j z).f1, (rd_T81 j z).f2⟩ : S81)]) := ⟨_, rfl⟩
     (first | with_reducible replace aV := hq cx aV | rw [← cx] at aV | simp only [← cx] at aV)
     have de := am cx; clear cx; replace aV := am aV; clear aA aK aI a7; obtain ⟨cE, eN⟩ := l.out; have g2 := cellS47_0 cE; have g3 := cellS47_1 cE; have hh := blk_frozen cE 1; clear cE eN
     have bN : 0 ≤ (z : Int) := dga
     have bR : z < (j.length : Int) := dga
     obtain ⟨dP, dl, eY, eZ, e0⟩ := at_T81 (Kd.C_foot_now bn.out HK.out) z bN bR; cases dl; replace bN := eq_true bN; replace bR := eq_true bR; obtain ⟨fH, f3⟩ := o2_ bC bi; obtain ⟨cM, cN, cO, cP, cQ, cR⟩ := cf3 Y
     have dy : 0 ≤ (z : Int) := dga
     have dD : z < (j.length : Int) := dga
     obtain ⟨em, eD, gB, gC, gD⟩ := at_T81 (Kd.C_foot_now bn.out HK.out) z dy dD; obtain rfl : dP = em := (by injection eD); replace dy := eq_true dy; replace dD := eq_true dD
     go_wp2_with (first | ((with_reducible refine gate_builtin (b := .append) (xs := #[.tmp 63, .tmp 71]) rfl ?_); at_builtin; refine Kd.R_append k81 w.heap.size rfl (.tmp 63) (.tmp 71) 45 81 (.agg #[(.string ⟨#[]⟩), (.string ⟨#[]⟩), (.int .i64 0)]) 40 rfl Try.underlying45 info81 rfl (by decide) (by omega) u5 aN (⟨(rd_T81 j z).f0, (rd_T81 j z).f1, (rd_T81 j z).f2⟩ : S81) [.string ((rd_T81 j z).f0), .string ((rd_T81 j z).f1), .int .i64 ((rd_T81 j z).f2)] (fun k_ => k_ ≠ ao) (fun _ => False) rfl rfl ?aP (fun _ hk => hk.elim) ?aF ?aO (Below.refl _ _) ?aS ?aL ?_; (case aP => exact B14x15_); (case aF => exact B14x6_); (case aO => exact (Ar B)); (case aS => exact B14x8_); (case aL => have := cZ.out; omega); intro dZ d3 ho hb hg hat; rw [← de.out] at ho; replace Y := bg Y hg (Kd.R_away B.out (fun _ hk => hk)); replace HB := am (below_weaken (Ae2 HB (IsS47.gf l) ap) HL.out hb); replace l := am (IsS47.grown B14x4_ hg (IsS47.own_ne l.out B.out (by decide))); replace HK := am (KeepBut.trans (Ak1 HK ad) (KeepBut.of_grown hg g) (Kd.R_base2 B.out)); have cV := am ho; clear B; clear ho hb hg hat))
     repeat (go_quiet (first | ((with_reducible refine gate_builtin (b := .append) (xs := #[.tmp 63, .tmp 71]) rfl ?_); at_builtin; refine Kd.R_append k81 w.heap.size rfl (.tmp 63) (.tmp 71) 45 81 (.agg #[(.string ⟨#[]⟩), (.string ⟨#[]⟩), (.int .i64 0)]) 40 rfl Try.underlying45 info81 rfl (by decide) (by omega) u5 aN (⟨(rd_T81 j z).f0, (rd_T81 j z).f1, (rd_T81 j z).f2⟩ : S81) [.string ((rd_T81 j z).f0), .string ((rd_T81 j z).f1), .int .i64 ((rd_T81 j z).f2)] (fun k_ => k_ ≠ ao) (fun _ => False) rfl rfl ?aP (fun _ hk => hk.elim) ?aF ?aO (Below.refl _ _) ?aS ?aL ?_; (case aP => exact B14x15_); (case aF => exact B14x6_); (case aO => exact (Ar B)); (case aS => exact B14x8_); (case aL => have := cZ.out; omega); intro dZ d3 ho hb hg hat; rw [← de.out] at ho; replace Y := bg Y hg (Kd.R_away B.out (fun _ hk => hk)); replace HB := am (below_weaken (Ae2 HB (IsS47.gf l) ap) HL.out hb); replace l := am (IsS47.grown B14x4_ hg (IsS47.own_ne l.out B.out (by decide))); replace HK := am (KeepBut.trans (Ak1 HK ad) (KeepBut.of_grown hg g) (Kd.R_base2 B.out)); have cV := am ho; clear B; clear ho hb hg hat)); try go_wp2_with (first | ((with_reducible refine gate_builtin (b := .append) (xs := #[.tmp 63, .tmp 71]) rfl ?_); at_builtin; refine Kd.R_append k81 w.heap.size rfl (.tmp 63) (.tmp 71) 45 81 (.agg #[(.string ⟨#[]⟩), (.string ⟨#[]⟩), (.int .i64 0)]) 40 rfl Try.underlying45 info81 rfl (by decide) (by omega) u5 aN (⟨(rd_T81 j z).f0, (rd_T81 j z).f1, (rd_T81 j z).f2⟩ : S81) [.string ((rd_T81 j z).f0), .string ((rd_T81 j z).f1), .int .i64 ((rd_T81 j z).f2)] (fun k_ => k_ ≠ ao) (fun _ => False) rfl rfl ?aP (fun _ hk => hk.elim) ?aF ?aO (Below.refl _ _) ?aS ?aL ?_; (case aP => exact B14x15_); (case aF => exact B14x6_); (case aO => exact (Ar B)); (case aS => exact B14x8_); (case aL => have := cZ.out; omega); intro dZ d3 ho hb hg hat; rw [← de.out] at ho; replace Y := bg Y hg (Kd.R_away B.out (fun _ hk => hk)); replace HB := am (below_weaken (Ae2 HB (IsS47.gf l) ap) HL.out hb); replace l := am (IsS47.grown B14x4_ hg (IsS47.own_ne l.out B.out (by decide))); replace HK := am (KeepBut.trans (Ak1 HK ad) (KeepBut.of_grown hg g) (Kd.R_base2 B.out)); have cV := am ho; clear B; clear ho hb hg hat)))
     go_roundg k2
     case measure => have := ay.out; have := a6.out; omega
     case rel => exact ⟨(fc), (wrap64 (z + 1)), be_, aV, ⟨(by have := ay.out; have := a6.out; omega)⟩, Cr cV, D1x0_⟩
    have ep : (Op.bytesLess af.toList (((rd_T81 j z).f0).toList)) = false := by simpa using cd
    clear cd; replace a7 := am a7; clear aA aK aI; obtain ⟨cF, eO⟩ := l.out; have g4 := cellS47_0 cF; have g5 := cellS47_1 cF; have hj := blk_frozen cF 1; clear cF eO
    have bN : 0 ≤ (z : Int) := dga
    have bR : z < (j.length : Int) := dga
    obtain ⟨dP, dl, eY, eZ, e0⟩ := at_T81 (Kd.C_foot_now bn.out HK.out) z bN bR; cases dl; replace bN := eq_true bN; replace bR := eq_true bR; obtain ⟨fK, f6⟩ := o2_ bC bi; obtain ⟨cM, cN, cO, cP, cQ, cR⟩ := cf3 Y
    go_wp2
    repeat (go_quiet (fail); try go_wp2)
    go_roundg k2
    case measure => have := ay.out; have := a6.out; omega
    case rel => exact ⟨(aN), (wrap64 (z + 1)), be_, a7, ⟨(by have := ay.out; have := a6.out; omega)⟩, Cr B, D1x0_⟩
   obtain ⟨b2, aZ⟩ | ⟨b2, aZ⟩ := sp aK
   ·have cI : decide (8 < (aN.length : Int)) = true := decide_eq_true b2
    have er : decide (8 < aN.length) = true := decide_eq_true (by omega)
    clear b2; obtain ⟨rfl, rfl⟩ := s2 aZ; clear aZ aA aK; obtain ⟨cG, eP⟩ := l.out; have g6 := cellS47_0 cG; have g7 := cellS47_1 cG; have hl := blk_frozen cG 1; clear cG eP; obtain ⟨fh, ft, eG⟩ := Kd.R_slice B.out; subst eG
    go_wp2
    repeat (go_quiet (fail); try go_wp2)
    go_ret; exact ⟨_, B14x17_, B14x3_, Kd.R_keep HOW.out (Ak1 HK ad) (fun _ h_ => h_), (Ae2 HB (IsS47.gf l) ap), (Ak1 HK ad)⟩
   have cI : decide (8 < (aN.length : Int)) = false := decide_eq_false b2
   have er : decide (8 < aN.length) = false := decide_eq_false (by omega)
   clear b2; obtain ⟨rfl, rfl⟩ := s2 aZ; clear aZ aA aK; obtain ⟨cH, eQ⟩ := l.out; have g8 := cellS47_0 cH; have g9 := cellS47_1 cH; have hm := blk_frozen cH 1; clear cH eQ; obtain ⟨cA, cJ, eH⟩ := Kd.R_slice B.out; subst eH
   go_wp2
   repeat (go_quiet (fail); try go_wp2)
   go_ret
   exact ⟨_, B14x17_, B14x3_, (by first | exact Kd.R_lower (Kd.R_mono (IsS47.apart (show IsS47 w0 _ g (.slice aD aX.length aE) (.slice cA aN.length cJ) from B14x3_) (tr (Kd.R_mono (Kd.R_far (p := ⟨g, 1, none⟩) (IsS47.apart l.out B.out (by decide)) (fun _ hk => hk.2) (.slice cA aN.length cJ)) (fun _ h_ => h_.1))) (by decide)) (fun _ h_ => h_.2)) HL.out | exact Kd.R_mono (IsS47.apart (show IsS47 w0 _ g (.slice aD aX.length aE) (.slice cA aN.length cJ) from B14x3_) (tr (Kd.R_mono (Kd.R_far (p := ⟨g, 1, none⟩) (IsS47.apart l.out B.out (by decide)) (fun _ hk => hk.2) (.slice cA aN.length cJ)) (fun _ h_ => h_.1))) (by decide)) (fun _ h_ => h_.2)), (Ae2 HB (IsS47.gf l) ap), (Ak1 HK ad)⟩
end
end Go.Proofs.Ytgffdijodnpolaa.QFnKeepTexts
