/- Functions that a law reaches, as functions of Lean, and the walks that show that the calls come to their answers. No condition. -/
import Derived.Test.YtgffdijodnpolaaQFnKeepTextsx0
import Derived.Test.YtgffdijodnpolaaVFnKeepTextsShort
import Derived.Test.YtgffdijodnpolaaVFnKeepTextshort3
import Derived.Test.YtgffdijodnpolaaVFnKeepTextsShort2
import Derived.Test.YtgffdijodnpolaaVFnKeepTextshort8
namespace Go.Proofs.Ytgffdijodnpolaa.QFnKeepTexts
open Go.RowKit Go.Proofs.YtgffdijodnpolaaW.PrintWords Go.Proofs.YtgffdijodnpolaaW.PrintLast Go.Proofs.YtgffdijodnpolaaW.PrintMore Go.Proofs.Ytgffdijodnpolaa.Short
set_option linter.unusedVariables false
set_option linter.unusedSimpArgs false
set_option maxHeartbeats 8000000
set_option maxRecDepth 100000
variable {p : Prop}
theorem D2x0_ (h : p := by exact ⟨⟨B7x0_⟩, Ck4 HK ag ao aO ah, Ce5 HB (IsS107.gf j) ap av aN a3⟩) : p := h
theorem D2x1_ (h : p := by exact ⟨B6x26_, B6x0_, (Ae5 HB (IsS107.gf j) af al aB aL), (Ak4 HK ad ae aw aH)⟩) : p := h
theorem D2x2_ (h : p := by exact ⟨⟨B6x0_⟩, Ck4 HK ad ae aw aH, Ce5 HB (IsS107.gf j) af al aB aL⟩) : p := h
section
attribute [local go_sem] max2_int min2_int max_two min_two max_three min_three max_four min_four
theorem B1x0_ (h : p := by go_simp; rfl) : p := h
theorem eqA59 (d : Nat) (w : World) (x0 y0 : Int) (x1 y1 : Int) (x2 y2 : Int) (x3 y3 : ByteArray) (x4 y4 : ByteArray) (x5 y5 : Int) :
  (Op.equalIn (d + 2) 59 (.agg #[.int .i64 x0, .int .i64 x1, .int .i64 x2, .string x3, .string x4, .int .i64 x5]) (.agg #[.int .i64 y0, .int .i64 y1, .int .i64 y2, .string y3, .string y4, .int .i64 y5])).run Try.prog w = .ok (x0 == y0 && (x1 == y1 && (x2 == y2 && (x3.toList == y3.toList && (x4.toList == y4.toList && (x5 == y5)))))) w := by
 refine eqA_of Try.underlying59 (by kernel_rfl) ?_
 refine eqf_cons (by rfl) B1x0_ B1x0_ (by go_simp) ?_
 refine eqf_cons (by rfl) B1x0_ B1x0_ (by go_simp) ?_
 refine eqf_cons (by rfl) B1x0_ B1x0_ (by go_simp) ?_
 refine eqf_cons (by rfl) B1x0_ B1x0_ (by go_simp) ?_
 refine eqf_cons (by rfl) B1x0_ B1x0_ (by go_simp) ?_
 exact eqf_last (by rfl) B1x0_ B1x0_ (by go_simp)
theorem B6x0_ (h : p := by repeat (first | (with_reducible first | exact j.out | apply IsS107.alloc | apply IsS107.drewN | apply IsS107.drew | apply IsS107.set_1 | apply IsS107.set_2 | refine IsS107.far ?_ cQ.out _ | refine IsS107.far ?_ ca.out _ | refine IsS107.far ?_ bM.out _ | refine IsS107.far ?_ eg.out _) | exact j.out)) : p := h
theorem B6x3_ (h : p := by repeat (first | (with_reducible first | exact j.out | apply IsS107.alloc | apply IsS107.drewN | apply IsS107.drew | apply IsS107.set_1 | apply IsS107.set_2 | refine IsS107.far ?_ cQ.out _ | refine IsS107.far ?_ ca.out _) | exact j.out)) : p := h
theorem B6x13_ (h : p := by repeat (first | (with_reducible first | exact j.out | apply IsS107.alloc | apply IsS107.drewN | apply IsS107.drew | apply IsS107.set_1 | apply IsS107.set_2 | refine IsS107.far ?_ cQ.out _ | refine IsS107.far ?_ ca.out _ | refine IsS107.far ?_ bM.out _) | exact j.out)) : p := h
theorem B6x26_ (h : p := by first | rfl | (simp [errW_none, errW_some] <;> rfl) | (simp [*, errW_none, errW_some] <;> rfl)) : p := h
theorem B6x30_ (h : p := by rw [hw]; exact B6x0_) : p := h
theorem B6x31_ (h : p := by rw [hw]; exact (Ae5 HB (IsS107.gf j) af al aB aL)) : p := h
theorem B6x32_ (h : p := by rw [hw]; exact (Ak4 HK ad ae aw aH)) : p := h
theorem B6x33_ (h : p := by have := fL.out; first | omega | exact Nat.le_refl _) : p := h
mutual
def spec_l15Of.j0 : Nat → Bool → Bool → List Int → Int → Int → Int → Int → Int → ByteArray → ByteArray → Int → ByteArray → ByteArray → Int → Option (Int × Int × Int × ByteArray × ByteArray × Int × Int × Int)
 | 0, _, _, _, _, _, _, _, _, _, _, _, _, _, _ => none
 | k + 1, x7, g8, ax, bC, bD, b8, co, cp, cq, cJ, d7, eC, eD, d8 => if g8 = true then ((spec_l01Pick.f ax bC bD (([(⟨#[]⟩ : ByteArray), (⟨#[49]⟩ : ByteArray), (⟨#[116, 119, 111]⟩ : ByteArray), (⟨#[116, 104, 114, 101, 101]⟩ : ByteArray)] : List ByteArray))).bind fun eh => (spec_l15Of.j1 k x7 ax eh.2.1 eh.2.2 b8 co cp cq eh.1 d7 eC eD d8)) else (spec_l15Of.j1 k x7 ax bC bD b8 co cp cq cJ d7 eC eD d8)
def spec_l15Of.j1 : Nat → Bool → List Int → Int → Int → Int → Int → Int → ByteArray → ByteArray → Int → ByteArray → ByteArray → Int → Option (Int × Int × Int × ByteArray × ByteArray × Int × Int × Int)
 | 0, _, _, _, _, _, _, _, _, _, _, _, _, _ => none
 | k + 1, x7, ax, bC, bD, b8, co, cp, cq, cJ, d7, eC, eD, d8 => if b8 = 5 then ((spec_l01Below.f ax bC bD 20).bind fun cB => (if x7 = true then ((spec_l01Once.f ax cB.2.1 cB.2.2 3).bind fun cV => (if cV.1 = true then (some (b8, co, cp, cq, cJ, wrap64 (1 + cB.1), cV.2.1, cV.2.2)) else (some (b8, co, cp, cq, cJ, d8, cV.2.1, cV.2.2)))) else (some (b8, co, cp, cq, cJ, wrap64 (1 + cB.1), cB.2.1, cB.2.2)))) else (some (b8, co, cp, cq, cJ, d7, bC, bD))
end
def spec_l15Of.f (k : Nat) (B : List Int) (aZ : Int) (a0 : Int) (z : List (S83)) (aa : List (S81)) : Option (Int × Int × Int × ByteArray × ByteArray × Int × Int × Int) := (spec_l01PickInt.f B aZ a0 (([2, 2, 2, 3, 3, 4, 5, 5] : List Int))).bind fun cA => ((spec_l01Pick.f B cA.2.1 cA.2.2 (([(⟨#[97]⟩ : ByteArray), (⟨#[98]⟩ : ByteArray), (⟨#[99]⟩ : ByteArray), (⟨#[114, 111, 111, 116]⟩ : ByteArray), (⟨#[120, 49]⟩ : ByteArray)] : List ByteArray))).bind fun ch => ((spec_ItemOf.f k z aa ch.1).bind fun b6 => (if cA.1 = 2 then (spec_l15Of.j0 k b6.2.2.2 true B ch.2.1 ch.2.2 cA.1 0 0 ch.1 (⟨#[]⟩ : ByteArray) 0 b6.1 b6.2.1 b6.2.2.1) else (spec_l15Of.j0 k b6.2.2.2 (cA.1 == 5) B ch.2.1 ch.2.2 cA.1 0 0 ch.1 (⟨#[]⟩ : ByteArray) 0 b6.1 b6.2.1 b6.2.2.1))))
theorem spec_l15Of.calls (k : Nat) (g : Nat) (B : List Int) (aZ : Int) (a0 : Int) (aQ : Option Addr) (aD : Nat) (z : List (S83)) (aA : Option Addr) (aE : Nat) (aa : List (S81)) (r1 : Int) (r2 : Int) (r3 : Int) (r4 : ByteArray) (r5 : ByteArray) (r6 : Int) (r7 : Int) (r8 : Int) (l w : World) (hI : IsS107 l w g B aZ a0) (hB : Below l.heap.size l w) (dh : ∀ W_, KeepBut w W_ g none → Kd.C k83 W_ aQ z.length z) (da : z.length ≤ aD) (di : ∀ W_, KeepBut w W_ g none → Kd.C k81 W_ aA aa.length aa) (db : aa.length ≤ aE) (h : spec_l15Of.f k B aZ a0 z aa = some (r1, r2, r3, r4, r5, r6, r7, r8)) :
  Calls Try.prog 105 #[.pointer (some ⟨g, 0, none⟩), .agg #[.slice aQ z.length aD, .slice aA aa.length aE]] w fun e w' => e = .returned (.agg #[.int .i64 r1, .int .i64 r2, .int .i64 r3, .string r4, .string r5, .int .i64 r6]) ∧ IsS107 l w' g B r7 r8 ∧ Below l.heap.size l w' ∧ KeepBut w w' g none := by
 have gP := Try.underlying47
 have gQ := Try.underlying59
 have kk := Try.underlying81
 have bo := am dh
 have ec := am da
 clear dh da
 have ee := am di
 have ed := am db
 clear di db
 have j := am hI
 have HK := am (KeepBut.refl w g none)
 have HL := am hB.size
 clear hI
 have bR := am hB.size
 have HB := am hB
 clear hB
 have aI := h
 clear h
 unfold spec_l15Of.f at aI
 obtain ⟨d9, dj⟩ : ∃ y_ : List Int, y_ = (([2, 2, 2, 3, 3, 4, 5, 5] : List Int)) := ⟨_, rfl⟩
 (first | with_reducible replace aI := hq dj aI | rw [← dj] at aI | simp only [← dj] at aI)
 have e3 := am dj
 clear dj
 obtain ⟨⟨ai, dX, dY⟩, A3, aT⟩ := bsi aI
 (try dsimp only at aT)
 obtain ⟨ea, dk⟩ : ∃ y_ : List ByteArray, y_ = (([(⟨#[97]⟩ : ByteArray), (⟨#[98]⟩ : ByteArray), (⟨#[99]⟩ : ByteArray), (⟨#[114, 111, 111, 116]⟩ : ByteArray), (⟨#[120, 49]⟩ : ByteArray)] : List ByteArray)) := ⟨_, rfl⟩
 (first | with_reducible replace aT := hq dk aT | rw [← dk] at aT | simp only [← dk] at aT)
 have e4 := am dk
 clear dk
 obtain ⟨⟨aj, ck, cl⟩, A4, b2⟩ := bsi aT
 (try dsimp only at b2)
 obtain ⟨⟨bW, bX, a1, eu⟩, A5, aJ⟩ := bsi b2
 (try dsimp only at aJ)
 replace aJ := am aJ
 clear aI aT b2
 go_enter Try.func105, Try.ntmps105
 go_upto_region 3 with (first | ((with_reducible refine gate_dst (N := 3) rfl ?_); refine bx (N := 3) (cs := #[.slice aQ z.length aD, .slice aA aa.length aE]) (t := 47) ?_; intro dT hg w7 hbox hb; replace HB := De1 HB (IsS107.gf j) hb; have Y := am hbox; have ad := gK hg HK; have af := am (Nat.le_trans bR.out (bs hg (keep_size HK.out)) : l.heap.size ≤ dT); replace HK := Ek0 HK hb; have cQ := am (nl hg (IsS107.lt j.out)); have dM := am (ng hg (IsS107.lt j.out)); replace j := am (IsS107.below (by repeat (first | (with_reducible first | exact j.out | apply IsS107.alloc | apply IsS107.drewN | apply IsS107.drew | apply IsS107.set_1 | apply IsS107.set_2) | exact j.out)) hb); clear hb hbox hg) | ((with_reducible refine gate_dst (N := 4) rfl ?_); refine bx (N := 4) (cs := #[.int .i64 0, .int .i64 0, .int .i64 0, .string (⟨#[]⟩ : ByteArray), .string (⟨#[]⟩ : ByteArray), .int .i64 0]) (t := 59) ?_; intro U hg w8 hbox hb; replace HB := De2 HB (IsS107.gf j) af hb; have q := am hbox; have ae := gK hg HK; have al := am (Nat.le_trans bR.out (bs hg (keep_size HK.out)) : l.heap.size ≤ U); replace HK := Ek1 HK ad hb; have cS := nA hg Y; have cT := mA hg Y; replace Y := bA Y hb; have ca := am (nl hg (IsS107.lt j.out)); have bq := am (ng hg (IsS107.lt j.out)); replace j := am (IsS107.below (by repeat (first | (with_reducible first | exact j.out | apply IsS107.alloc | apply IsS107.drewN | apply IsS107.drew | apply IsS107.set_1 | apply IsS107.set_2 | refine IsS107.far ?_ cQ.out _) | exact j.out)) hb); clear hb hbox hg) | ((with_reducible refine gate_dst (N := 9) rfl ?_); refine lL (Kd.int .i64) 3 9 ([2, 2, 2, 3, 3, 4, 5, 5] : List Int) [.int .i64 2, .int .i64 2, .int .i64 2, .int .i64 3, .int .i64 3, .int .i64 4, .int .i64 5, .int .i64 5] (Reps.one (show Kd.M (Kd.int .i64) _ _ _ 2 [.int .i64 2] from rfl) (Reps.one (show Kd.M (Kd.int .i64) _ _ _ 2 [.int .i64 2] from rfl) (Reps.one (show Kd.M (Kd.int .i64) _ _ _ 2 [.int .i64 2] from rfl) (Reps.one (show Kd.M (Kd.int .i64) _ _ _ 3 [.int .i64 3] from rfl) (Reps.one (show Kd.M (Kd.int .i64) _ _ _ 3 [.int .i64 3] from rfl) (Reps.one (show Kd.M (Kd.int .i64) _ _ _ 4 [.int .i64 4] from rfl) (Reps.one (show Kd.M (Kd.int .i64) _ _ _ 5 [.int .i64 5] from rfl) (Reps.one (show Kd.M (Kd.int .i64) _ _ _ 5 [.int .i64 5] from rfl) (Reps.none _ _))))))))) ?_; intro kt w9 dd hb; (first | rw [← e3.out] at dd | (simp only [Int.reduceToNat] at dd; rw [← e3.out] at dd)); have aF := am (Kd.R_lower dd (keep_size (w := w) (g := g) (row := none) (Ak2 HK ad ae))); replace Y := bA Y hb; replace q := bA q hb; replace HK := Ek2 HK ad ae hb; replace HB := De3 HB (IsS107.gf j) af al hb; replace j := am (IsS107.below B6x3_ hb); clear hb dd; obtain ⟨eZ, e9, f2⟩ := Kd.R_slice aF.out; subst f2) | ((with_reducible refine gate_callee (f := 80) rfl ?_); refine gL (some 10) Try.func80 #[.pointer (some ⟨g, 0, none⟩), .slice eZ d9.length e9] ?_; (with_reducible refine (spec_l01PickInt.calls g B aZ a0 _ _ d9 ai dX dY l _ ?z1 ?z2 ?z3 ?z4 ?z5 A3.out).mono ?_); (case z1 => exact B6x3_); (case z2 => exact (Ae3 HB (IsS107.gf j) af al)); (case z3 => repeat (first | exact (Kd.R_reads' aF.out).2.2 | (with_reducible refine Kd.C_alloc ?_ _) | (with_reducible refine Kd.C_drewN ?_ _) | (with_reducible refine Kd.C_drew ?_))); (case z4 => exact (Kd.R_reads' aF.out).2.1); (case z5 => exact far_slice (IsS107.own_ne j.out aF.out (by decide))); rintro e kw ⟨rfl, hi, hb, hk⟩; refine ⟨_, rfl, ?_⟩; replace Y := kA hk Y dM; replace q := kA hk q bq; replace aF := am (Kd.R_mono (Kd.R_keep (IsS107.apart (show IsS107 l _ g B aZ a0 from B6x3_) (Ar aF) (by decide)) hk (fun _ h => h.2)) (fun _ h => h.1)); replace HK := Dk2 HK ad ae hk; replace HB := am hb; replace j := am hi) | ((with_reducible refine gate_dst (N := 12) rfl ?_); refine lL Kd.string 9 12 ([(⟨#[97]⟩ : ByteArray), (⟨#[98]⟩ : ByteArray), (⟨#[99]⟩ : ByteArray), (⟨#[114, 111, 111, 116]⟩ : ByteArray), (⟨#[120, 49]⟩ : ByteArray)] : List ByteArray) [.string (⟨#[97]⟩ : ByteArray), .string (⟨#[98]⟩ : ByteArray), .string (⟨#[99]⟩ : ByteArray), .string (⟨#[114, 111, 111, 116]⟩ : ByteArray), .string (⟨#[120, 49]⟩ : ByteArray)] (Reps.one (show Kd.M Kd.string _ _ _ (⟨#[97]⟩ : ByteArray) [.string (⟨#[97]⟩ : ByteArray)] from rfl) (Reps.one (show Kd.M Kd.string _ _ _ (⟨#[98]⟩ : ByteArray) [.string (⟨#[98]⟩ : ByteArray)] from rfl) (Reps.one (show Kd.M Kd.string _ _ _ (⟨#[99]⟩ : ByteArray) [.string (⟨#[99]⟩ : ByteArray)] from rfl) (Reps.one (show Kd.M Kd.string _ _ _ (⟨#[114, 111, 111, 116]⟩ : ByteArray) [.string (⟨#[114, 111, 111, 116]⟩ : ByteArray)] from rfl) (Reps.one (show Kd.M Kd.string _ _ _ (⟨#[120, 49]⟩ : ByteArray) [.string (⟨#[120, 49]⟩ : ByteArray)] from rfl) (Reps.none _ _)))))) ?_; intro ku kx de hb; (first | rw [← e4.out] at de | (simp only [Int.reduceToNat] at de; rw [← e4.out] at de)); replace aF := rA aF hb; have aR := am (Kd.R_lower de (keep_size (w := w) (g := g) (row := none) (Ak2 HK ad ae))); replace Y := bA Y hb; replace q := bA q hb; replace HK := Ek2 HK ad ae hb; replace HB := De3 HB (IsS107.gf j) af al hb; replace j := am (IsS107.below B6x3_ hb); clear hb de; obtain ⟨e0, fa, f3⟩ := Kd.R_slice aR.out; subst f3) | ((with_reducible refine gate_callee (f := 88) rfl ?_); refine gL (some 13) Try.func88 #[.pointer (some ⟨g, 0, none⟩), .slice e0 ea.length fa] ?_; (with_reducible refine (spec_l01Pick.calls g B dX dY _ _ ea aj ck cl l _ ?z1 ?z2 ?z3 ?z4 ?z5 A4.out).mono ?_); (case z1 => exact B6x3_); (case z2 => exact (Ae3 HB (IsS107.gf j) af al)); (case z3 => repeat (first | exact (Kd.R_reads' aR.out).2.2 | (with_reducible refine Kd.C_alloc ?_ _) | (with_reducible refine Kd.C_drewN ?_ _) | (with_reducible refine Kd.C_drew ?_))); (case z4 => exact (Kd.R_reads' aR.out).2.1); (case z5 => exact far_slice (IsS107.own_ne j.out aR.out (by decide))); rintro e kz ⟨rfl, hi, hb, hk⟩; refine ⟨_, rfl, ?_⟩; replace Y := kA hk Y dM; replace q := kA hk q bq; replace aF := am (Kd.R_mono (Kd.R_keep (IsS107.apart (show IsS107 l _ g B dX dY from B6x3_) (Ar aF) (by decide)) hk (fun _ h => h.2)) (fun _ h => h.1)); replace aR := am (Kd.R_mono (Kd.R_keep (IsS107.apart (show IsS107 l _ g B dX dY from B6x3_) (Ar aR) (by decide)) hk (fun _ h => h.2)) (fun _ h => h.1)); replace HK := Dk2 HK ad ae hk; replace HB := am hb; replace j := am hi) | ((with_reducible refine gate_dst (N := 5) rfl ?_); refine bx (N := 5) (cs := #[.int .i64 0, .int .i64 0, .int .i64 0, .string (⟨#[]⟩ : ByteArray), .string (⟨#[]⟩ : ByteArray), .int .i64 0]) (t := 59) ?_; intro aK hg gZ hbox hb; replace aF := rA aF hb; replace aR := rA aR hb; replace HB := De3 HB (IsS107.gf j) af al hb; have J := am hbox; have aw := gK hg HK; have aB := am (Nat.le_trans bR.out (bs hg (keep_size HK.out)) : l.heap.size ≤ aK); replace HK := Ek2 HK ad ae hb; have bN := nA hg Y; have b4 := mA hg Y; replace Y := bA Y hb; have aU := nA hg q; have bG := mA hg q; replace q := bA q hb; have bM := am (nl hg (IsS107.lt j.out)); have aV := am (ng hg (IsS107.lt j.out)); replace j := am (IsS107.below B6x3_ hb); clear hb hbox hg; have ic := b4.out; have jh := bN.out; have ie := bG.out; have ji := aU.out; have ig := aV.out; have jj := bM.out; obtain ⟨a8, a9, ba, bd, be, bh, bi, bj, bk, bl, bm, bn⟩ := cf6 J) | ((with_reducible refine gate_store (t := 59) (p := 5) rfl ?_); refine store_event (t := 59) (p := 5) (v := ?vo_w22) (w1 := ((((((gZ.setCell ⟨aK, 0, none⟩ (.int .i64 ai)).setCell ⟨aK, 1, none⟩ (.int .i64 0)).setCell ⟨aK, 2, none⟩ (.int .i64 0)).setCell ⟨aK, 3, none⟩ (.string aj)).setCell ⟨aK, 4, none⟩ (.string (⟨#[]⟩ : ByteArray))).setCell ⟨aK, 5, none⟩ (.int .i64 0))) ?hg ?ho ?hn ?hr ?_; (case ho => rfl); (case hg => rfl); (case hn => rfl); (case hr => exact gs_); intro b7 hw; replace aF : Aside0 (Kd.R (Kd.int .i64) 3 b7 w.heap.size (fun _ => True) (.slice eZ d9.length e9) d9) := ⟨wtfg aF.out J.out (by decide)⟩; replace aR : Aside0 (Kd.R Kd.string 9 b7 w.heap.size (fun _ => True) (.slice e0 ea.length fa) ea) := ⟨wtfg aR.out J.out (by decide)⟩; replace Y : Hc b7 dT #[.slice aQ z.length aD, .slice aA aa.length aE] 47 := ⟨wAp1 Y bN⟩; replace q : Hc b7 U #[.int .i64 0, .int .i64 0, .int .i64 0, .string (⟨#[]⟩ : ByteArray), .string (⟨#[]⟩ : ByteArray), .int .i64 0] 59 := ⟨wAp1 q aU⟩; replace J : Hc b7 aK #[.int .i64 ai, .int .i64 0, .int .i64 0, .string aj, .string (⟨#[]⟩ : ByteArray), .int .i64 0] 59 := ⟨wAp0 J⟩; replace HK : Hk w b7 g := ⟨wAk3 HK ad ae aw⟩; replace HB : Hb l b7 := ⟨wAe4 HB (IsS107.gf j) af al aB⟩; replace j : Aside0 (IsS107 l b7 g B ck cl) := ⟨(by rw [hw]; exact B6x13_)⟩; clear hw; have ih := cS.out; have jk := cT.out; have ii := dM.out; have jl := cQ.out; obtain ⟨kM, kN, kO, kP⟩ := cf2 Y; obtain ⟨a8, a9, ba, bd, be, bh, bi, bj, bk, bl, bm, bn⟩ := cf6 J) | ((with_reducible refine gate_callee (f := 110) rfl ?_); refine gM (some 19) Try.func110 (spec_ItemOf.calls k _ _ z _ _ aa aj bW bX a1 eu _ (Kd.C_foot_now bo.out (Ak3 HK ad ae aw)) ec.out (Kd.C_foot_now ee.out (Ak3 HK ad ae aw)) ed.out A5.out) ?_; rintro kB hb; replace aF := rA aF hb; replace aR := rA aR hb; replace Y := bA Y hb; replace q := bA q hb; replace J := bA J hb; replace HK := Ek3 HK ad ae aw hb; replace HB := De4 HB (IsS107.gf j) af al aB hb; replace j := am (IsS107.below B6x13_ hb)) | ((with_reducible refine gate_dst (N := 6) rfl ?_); refine bx (N := 6) (cs := #[.string (⟨#[]⟩ : ByteArray), .string (⟨#[]⟩ : ByteArray), .int .i64 0]) (t := 81) ?_; intro cj hg kC hbox hb; replace aF := rA aF hb; replace aR := rA aR hb; replace HB := De4 HB (IsS107.gf j) af al aB hb; have ak := am hbox; have aH := gK hg HK; have aL := am (Nat.le_trans bR.out (bs hg (keep_size HK.out)) : l.heap.size ≤ cj); replace HK := Ek3 HK ad ae aw hb; have dN := nA hg Y; have e2 := mA hg Y; replace Y := bA Y hb; have cd := nA hg q; have cf := mA hg q; replace q := bA q hb; have bO := nA hg J; have br := mA hg J; replace J := bA J hb; have eg := am (nl hg (IsS107.lt j.out)); have ce := am (ng hg (IsS107.lt j.out)); replace j := am (IsS107.below B6x13_ hb); clear hb hbox hg; have il := e2.out; have jo := dN.out; have im := cf.out; have jp := cd.out; have f5 := br.out; have gs := bO.out; have f6 := ce.out; have gu := eg.out; obtain ⟨g9, ha, he, hs, ht, hu⟩ := cf3 ak))
 (try simp only [Act.put, List.setIfInBounds_toArray, List.set_cons_zero, List.set_cons_succ])
 go_cut [29] (fun gY wc => ∃ (kq : Nat) (eG : Bool), gY = .bool eG ∧ Aside0 (spec_l15Of.j0 kq eu eG B ck cl ai 0 0 aj (⟨#[]⟩ : ByteArray) 0 bW bX a1 = some (r1, r2, r3, r4, r5, r6, r7, r8)) ∧ Aside0 (kq ≤ k) ∧ Hc wc dT #[(.slice aQ z.length aD), (.slice aA aa.length aE)] 47 ∧ Hc wc U #[.int .i64 0, .int .i64 0, .int .i64 0, .string (⟨#[]⟩ : ByteArray), .string (⟨#[]⟩ : ByteArray), .int .i64 0] 59 ∧ Hc wc aK #[.int .i64 ai, .int .i64 0, .int .i64 0, .string aj, .string (⟨#[]⟩ : ByteArray), .int .i64 0] 59 ∧ Hc wc cj #[.string bW, .string bX, .int .i64 a1] 81 ∧ Aside0 (IsS107 l wc g B ck cl) ∧ Hk w wc g ∧ Hb l wc)
 case first =>
  replace aJ := aJ.out
  obtain ⟨dO, a4⟩ | ⟨dO, a4⟩ := sp aJ
  ·obtain ⟨cX, fQ⟩ := yE dO; clear dO
   (first | rw [cX] | (simp only [i64_w, i32_w]; rw [cX]) | skip)
   replace a4 := am a4; clear aJ; obtain ⟨ip, jr, iq, js, ir, jt, f7, gv⟩ := o8_ b4 bN bG aU bO br aV bM; obtain ⟨a8, a9, ba, bd, be, bh, bi, bj, bk, bl, bm, bn⟩ := cf6 J
   go_wp2
   go_meet
   case rel => exact ⟨_, true, be_, a4, ⟨gl_⟩, Cp1 Y dN, Cp1 q cd, Cp1 J bO, Cp0 ak, D2x2_⟩
  obtain ⟨cX, fQ⟩ := nE dO
  (first | rw [cX] | (simp only [i64_w, i32_w]; rw [cX]) | skip)
  replace a4 := am a4; clear aJ; obtain ⟨f8, gw, f9, gx, iv, jv, iw, jw⟩ := o8_ b4 bN bG aU bO br aV bM; obtain ⟨a8, a9, ba, bd, be, bh, bi, bj, bk, bl, bm, bn⟩ := cf6 J
  go_wp2
  go_meet
  case rel => exact ⟨_, ((ai == 5)), be_, a4, ⟨gl_⟩, Cp1 Y dN, Cp1 q cd, Cp1 J bO, Cp0 ak, D2x2_⟩
 clear aJ
 obtain ⟨kq, eG, rfl, aG, fL, Y, q, J, ak, j, HK, HB⟩ := hcut
 cases kq with
 | zero => exact absurd aG.out (by simp [spec_l15Of.j0])
 | succ gU => ?_
 replace aG := aG.out
 simp only [spec_l15Of.j0] at aG
 replace aG := am aG
 go_upto_if 29 with (fail)
 go_cut [] (fun wc => ∃ (kq : Nat) (cm : Int) (cn : Int) (az : ByteArray), Aside0 (spec_l15Of.j1 kq eu B cm cn ai 0 0 aj az 0 bW bX a1 = some (r1, r2, r3, r4, r5, r6, r7, r8)) ∧ Aside0 (kq ≤ gU) ∧ Hc wc dT #[(.slice aQ z.length aD), (.slice aA aa.length aE)] 47 ∧ Hc wc U #[.int .i64 0, .int .i64 0, .int .i64 0, .string (⟨#[]⟩ : ByteArray), .string (⟨#[]⟩ : ByteArray), .int .i64 0] 59 ∧ Hc wc aK #[.int .i64 ai, .int .i64 0, .int .i64 0, .string aj, .string az, .int .i64 0] 59 ∧ Hc wc cj #[.string bW, .string bX, .int .i64 a1] 81 ∧ Aside0 (IsS107 l wc g B cm cn) ∧ Hk w wc g ∧ Hb l wc)
 case first =>
  replace aG := aG.out
  obtain ⟨rfl, a5⟩ | ⟨rfl, a5⟩ := sb aG
  ·obtain ⟨fv, dl⟩ : ∃ y_ : List ByteArray, y_ = (([(⟨#[]⟩ : ByteArray), (⟨#[49]⟩ : ByteArray), (⟨#[116, 119, 111]⟩ : ByteArray), (⟨#[116, 104, 114, 101, 101]⟩ : ByteArray)] : List ByteArray)) := ⟨_, rfl⟩
   (first | with_reducible replace a5 := hq dl a5 | rw [← dl] at a5 | simp only [← dl] at a5)
   have e5 := am dl; clear dl; obtain ⟨⟨ff, fg, fh⟩, fF, b9⟩ := bsi a5; (try dsimp only at b9); replace b9 := am b9; clear aG a5
   go_wp2_with (first | ((with_reducible refine gate_dst (N := 31) rfl ?_); refine lL Kd.string 9 31 ([(⟨#[]⟩ : ByteArray), (⟨#[49]⟩ : ByteArray), (⟨#[116, 119, 111]⟩ : ByteArray), (⟨#[116, 104, 114, 101, 101]⟩ : ByteArray)] : List ByteArray) [.string (⟨#[]⟩ : ByteArray), .string (⟨#[49]⟩ : ByteArray), .string (⟨#[116, 119, 111]⟩ : ByteArray), .string (⟨#[116, 104, 114, 101, 101]⟩ : ByteArray)] (Reps.one (show Kd.M Kd.string _ _ _ (⟨#[]⟩ : ByteArray) [.string (⟨#[]⟩ : ByteArray)] from rfl) (Reps.one (show Kd.M Kd.string _ _ _ (⟨#[49]⟩ : ByteArray) [.string (⟨#[49]⟩ : ByteArray)] from rfl) (Reps.one (show Kd.M Kd.string _ _ _ (⟨#[116, 119, 111]⟩ : ByteArray) [.string (⟨#[116, 119, 111]⟩ : ByteArray)] from rfl) (Reps.one (show Kd.M Kd.string _ _ _ (⟨#[116, 104, 114, 101, 101]⟩ : ByteArray) [.string (⟨#[116, 104, 114, 101, 101]⟩ : ByteArray)] from rfl) (Reps.none _ _))))) ?_; intro kv g2 df hb; (first | rw [← e5.out] at df | (simp only [Int.reduceToNat] at df; rw [← e5.out] at df)); have cr := am (Kd.R_lower df (keep_size (w := w) (g := g) (row := none) (Ak4 HK ad ae aw aH))); replace Y := bA Y hb; replace q := bA q hb; replace J := bA J hb; replace ak := bA ak hb; replace HK := Ek4 HK ad ae aw aH hb; replace HB := De5 HB (IsS107.gf j) af al aB aL hb; replace j := am (IsS107.below B6x0_ hb); clear hb df; obtain ⟨fJ, fZ, f4⟩ := Kd.R_slice cr.out; subst f4) | ((with_reducible refine gate_callee (f := 88) rfl ?_); refine gL (some 32) Try.func88 #[.pointer (some ⟨g, 0, none⟩), .slice fJ fv.length fZ] ?_; (with_reducible refine (spec_l01Pick.calls g B ck cl _ _ fv ff fg fh l _ ?z1 ?z2 ?z3 ?z4 ?z5 fF.out).mono ?_); (case z1 => exact B6x0_); (case z2 => exact (Ae5 HB (IsS107.gf j) af al aB aL)); (case z3 => repeat (first | exact (Kd.R_reads' cr.out).2.2 | (with_reducible refine Kd.C_alloc ?_ _) | (with_reducible refine Kd.C_drewN ?_ _) | (with_reducible refine Kd.C_drew ?_))); (case z4 => exact (Kd.R_reads' cr.out).2.1); (case z5 => exact far_slice (IsS107.own_ne j.out cr.out (by decide))); rintro e kF ⟨rfl, hi, hb, hk⟩; refine ⟨_, rfl, ?_⟩; replace Y := kA hk Y dM; replace q := kA hk q bq; replace J := kA hk J aV; replace ak := kA hk ak ce; replace cr := am (Kd.R_mono (Kd.R_keep (IsS107.apart (show IsS107 l _ g B ck cl from B6x0_) (Ar cr) (by decide)) hk (fun _ h => h.2)) (fun _ h => h.1)); replace HK := Dk4 HK ad ae aw aH hk; replace HB := am hb; replace j := am hi; have ix := b4.out; have jx := bN.out; have iy := bG.out; have jy := aU.out; have iz := bO.out; have jz := br.out; have ga := aV.out; have gy := bM.out; obtain ⟨a8, a9, ba, bd, be, bh, bi, bj, bk, bl, bm, bn⟩ := cf6 J))
   go_meet
   case rel => exact ⟨_, fg, fh, ff, b9, ⟨B6x33_⟩, Cp1 Y bN, Cp1 q aU, Cp0 J, Cp1 ak br, D2x2_⟩
  replace a5 := am a5; clear aG
  go_wp2
  go_meet
  case rel => exact ⟨_, ck, cl, ((⟨#[]⟩ : ByteArray)), a5, ⟨B6x33_⟩, Cb Y, Cb q, Cb J, Cb ak, D2x2_⟩
 clear aG
 obtain ⟨kq, cm, cn, az, aC, hF, Y, q, J, ak, j, HK, HB⟩ := hcut
 cases kq with
 | zero => exact absurd aC.out (by simp [spec_l15Of.j1])
 | succ kp => ?_
 replace aC := aC.out
 simp only [spec_l15Of.j1] at aC
 obtain ⟨dP, aS⟩ | ⟨dP, aS⟩ := sp aC
 ·obtain ⟨fR, fS⟩ := yE dP; clear dP; obtain ⟨⟨a2, cC, cD⟩, eb, bS⟩ := bsi aS; (try dsimp only at bS)
  obtain ⟨rfl, bT⟩ | ⟨rfl, bT⟩ := sb bS
  ·obtain ⟨⟨ks, dZ, d0⟩, eY, b0⟩ := bsi bT; (try dsimp only at b0)
   obtain ⟨rfl, bp⟩ | ⟨rfl, bp⟩ := sb b0
   ·obtain ⟨rfl, rfl, rfl, rfl, rfl, rfl, rfl, rfl⟩ := s8 bp; clear bp aC aS bS bT b0; obtain ⟨gb, gB, iF, jF, iG, jG, iH, jH⟩ := o8_ b4 bN bG aU bO br aV bM; obtain ⟨a8, a9, ba, bd, be, bh, bi, bj, bk, bl, bm, bn⟩ := cf6 J
    go_wp2_with (first | ((with_reducible refine gate_callee (f := 41) rfl ?_); refine gM (some 38) Try.func41 (spec_l01Below.calls g B cm cn 20 a2 cC cD l _ B6x0_ (Ae5 HB (IsS107.gf j) af al aB aL) eb.out) ?_; rintro kH ⟨hi, hb, hk⟩; replace q := kA hk q bq; replace J := kA hk J aV; replace ak := kA hk ak ce; replace HK := Dk4 HK ad ae aw aH hk; replace HB := am hb; replace j := am hi; obtain ⟨a8, a9, ba, bd, be, bh, bi, bj, bk, bl, bm, bn⟩ := cf6 J) | (go_at_call 42; refine (spec_l01Once.calls g B cC cD 3 true dZ d0 l _ B6x0_ (Ae5 HB (IsS107.gf j) af al aB aL) eY.out).mono ?_; rintro e g3 ⟨rfl, hi, hb, hk⟩; replace q := am (KeepBut.blk hk (g' := U) (o := .cells #[.int .i64 0, .int .i64 0, .int .i64 0, .string (⟨#[]⟩ : ByteArray), .string (⟨#[]⟩ : ByteArray), .int .i64 0] 59 (0, 0)) (Ap1 q aU) bq.out (by simp)); replace J := am (KeepBut.blk hk (g' := aK) (o := .cells #[.int .i64 ai, .int .i64 0, .int .i64 0, .string aj, .string az, .int .i64 (wrap64 (1 + a2))] 59 (0, 0)) (Ap0 J) aV.out (by simp)); replace ak := am (KeepBut.blk hk (g' := cj) (o := .cells #[.string bW, .string bX, .int .i64 a1] 81 (0, 0)) (Ap1 ak br) ce.out (by simp)); replace HK := Dk4 HK ad ae aw aH hk; replace HB := am hb; replace j := am hi; obtain ⟨a8, a9, ba, bd, be, bh, bi, bj, bk, bl, bm, bn⟩ := cf6 J; have gg := cT.out; have gC := cS.out; have gh := cd.out; have gD := cf.out; have gi := bq.out; have gE := ca.out; obtain ⟨eH, eI, eJ, eK, eL, eM, eP, eQ, eR, eS, eT, eU⟩ := cf6 q) | ((with_reducible refine gate_store (t := 59) (p := 4) rfl ?_); refine store_event (t := 59) (p := 4) (v := ?vo_w75) (w1 := ((((((g3.setCell ⟨U, 0, none⟩ (.int .i64 ai)).setCell ⟨U, 1, none⟩ (.int .i64 0)).setCell ⟨U, 2, none⟩ (.int .i64 0)).setCell ⟨U, 3, none⟩ (.string aj)).setCell ⟨U, 4, none⟩ (.string az)).setCell ⟨U, 5, none⟩ (.int .i64 (wrap64 (1 + a2))))) ?hg ?ho ?hn ?hr ?_; (case ho => rfl); (case hg => rfl); (case hn => rfl); (case hr => exact gs_); intro cH hw; replace q : Hc cH U #[.int .i64 ai, .int .i64 0, .int .i64 0, .string aj, .string az, .int .i64 (wrap64 (1 + a2))] 59 := ⟨wAp0 q⟩; replace J : Hc cH aK #[.int .i64 ai, .int .i64 0, .int .i64 0, .string aj, .string az, .int .i64 (wrap64 (1 + a2))] 59 := ⟨wAp1 J bG⟩; replace ak : Hc cH cj #[.string bW, .string bX, .int .i64 a1] 81 := ⟨wAp1 ak cf⟩; replace HK : Hk w cH g := ⟨B6x32_⟩; replace HB : Hb l cH := ⟨B6x31_⟩; replace j : Aside0 (IsS107 l cH g B dZ d0) := ⟨B6x30_⟩; clear hw))
    refine bodyPost_ret (results_cell_row rfl _ _ U 59 #[.int .i64 ai, .int .i64 0, .int .i64 0, .string aj, .string az, .int .i64 (wrap64 (1 + a2))] (0, 0) _ rfl (Ab q) Try.underlying59 rfl gk_) rfl ?_; exact D2x1_
   obtain ⟨rfl, rfl, rfl, rfl, rfl, rfl, rfl, rfl⟩ := s8 bp; clear bp aC aS bS bT b0; obtain ⟨iN, jN, iO, jO, gj, gF, gl, gG⟩ := o8_ b4 bN bG aU bO br aV bM; obtain ⟨a8, a9, ba, bd, be, bh, bi, bj, bk, bl, bm, bn⟩ := cf6 J
   go_wp2_with (first | ((with_reducible refine gate_callee (f := 41) rfl ?_); refine gM (some 38) Try.func41 (spec_l01Below.calls g B cm cn 20 a2 cC cD l _ B6x0_ (Ae5 HB (IsS107.gf j) af al aB aL) eb.out) ?_; rintro kJ ⟨hi, hb, hk⟩; replace q := kA hk q bq; replace J := kA hk J aV; replace ak := kA hk ak ce; replace HK := Dk4 HK ad ae aw aH hk; replace HB := am hb; replace j := am hi; obtain ⟨a8, a9, ba, bd, be, bh, bi, bj, bk, bl, bm, bn⟩ := cf6 J) | (go_at_call 42; refine (spec_l01Once.calls g B cC cD 3 false dZ d0 l _ B6x0_ (Ae5 HB (IsS107.gf j) af al aB aL) eY.out).mono ?_; rintro e g4 ⟨rfl, hi, hb, hk⟩; replace q := am (KeepBut.blk hk (g' := U) (o := .cells #[.int .i64 0, .int .i64 0, .int .i64 0, .string (⟨#[]⟩ : ByteArray), .string (⟨#[]⟩ : ByteArray), .int .i64 0] 59 (0, 0)) (Ap1 q aU) bq.out (by simp)); replace J := am (KeepBut.blk hk (g' := aK) (o := .cells #[.int .i64 ai, .int .i64 0, .int .i64 0, .string aj, .string az, .int .i64 (wrap64 (1 + a2))] 59 (0, 0)) (Ap0 J) aV.out (by simp)); replace ak := am (KeepBut.blk hk (g' := cj) (o := .cells #[.string bW, .string bX, .int .i64 a1] 81 (0, 0)) (Ap1 ak br) ce.out (by simp)); replace HK := Dk4 HK ad ae aw aH hk; replace HB := am hb; replace j := am hi; have iS := e2.out; have jS := dN.out; have iT := cf.out; have jT := cd.out; have gm := ce.out; have gH := eg.out; obtain ⟨g9, ha, he, hs, ht, hu⟩ := cf3 ak; obtain ⟨a8, a9, ba, bd, be, bh, bi, bj, bk, bl, bm, bn⟩ := cf6 J; have gn := cT.out; have gI := cS.out; have iW := bq.out; have jW := ca.out; obtain ⟨eH, eI, eJ, eK, eL, eM, eP, eQ, eR, eS, eT, eU⟩ := cf6 q) | ((with_reducible refine gate_store (t := 59) (p := 4) rfl ?_); refine store_event (t := 59) (p := 4) (v := ?vo_w92) (w1 := (((((((g4.setCell ⟨aK, 5, none⟩ (.int .i64 a1)).setCell ⟨U, 0, none⟩ (.int .i64 ai)).setCell ⟨U, 1, none⟩ (.int .i64 0)).setCell ⟨U, 2, none⟩ (.int .i64 0)).setCell ⟨U, 3, none⟩ (.string aj)).setCell ⟨U, 4, none⟩ (.string az)).setCell ⟨U, 5, none⟩ (.int .i64 a1))) ?hg ?ho ?hn ?hr ?_; (case ho => rfl); (case hg => rfl); (case hn => rfl); (case hr => exact gs_); intro cI hw; replace q : Hc cI U #[.int .i64 ai, .int .i64 0, .int .i64 0, .string aj, .string az, .int .i64 a1] 59 := ⟨wAp1 q aU⟩; replace J : Hc cI aK #[.int .i64 ai, .int .i64 0, .int .i64 0, .string aj, .string az, .int .i64 a1] 59 := ⟨wAp1 J bG⟩; replace ak : Hc cI cj #[.string bW, .string bX, .int .i64 a1] 81 := ⟨wAp2 ak cf br⟩; replace HK : Hk w cI g := ⟨B6x32_⟩; replace HB : Hb l cI := ⟨B6x31_⟩; replace j : Aside0 (IsS107 l cI g B dZ d0) := ⟨B6x30_⟩; clear hw))
   refine bodyPost_ret (results_cell_row rfl _ _ U 59 #[.int .i64 ai, .int .i64 0, .int .i64 0, .string aj, .string az, .int .i64 a1] (0, 0) _ rfl (Ab q) Try.underlying59 rfl gk_) rfl ?_; exact D2x1_
  obtain ⟨rfl, rfl, rfl, rfl, rfl, rfl, rfl, rfl⟩ := s8 bT; clear bT aC aS bS; obtain ⟨gp, gJ, gq, gN, iZ, jZ, gr, gO⟩ := o8_ b4 bN bG aU bO br aV bM; obtain ⟨a8, a9, ba, bd, be, bh, bi, bj, bk, bl, bm, bn⟩ := cf6 J
  go_wp2_with (first | ((with_reducible refine gate_callee (f := 41) rfl ?_); refine gM (some 38) Try.func41 (spec_l01Below.calls g B cm cn 20 a2 cC cD l _ B6x0_ (Ae5 HB (IsS107.gf j) af al aB aL) eb.out) ?_; rintro g5 ⟨hi, hb, hk⟩; replace q := kA hk q bq; replace J := kA hk J aV; replace HK := Dk4 HK ad ae aw aH hk; replace HB := am hb; replace j := am hi; obtain ⟨a8, a9, ba, bd, be, bh, bi, bj, bk, bl, bm, bn⟩ := cf6 J; have hY := cT.out; have i2 := cS.out; have hZ := cd.out; have i3 := cf.out; have h0 := bq.out; have i4 := ca.out; obtain ⟨eH, eI, eJ, eK, eL, eM, eP, eQ, eR, eS, eT, eU⟩ := cf6 q) | ((with_reducible refine gate_store (t := 59) (p := 4) rfl ?_); refine store_event (t := 59) (p := 4) (v := ?vo_w104) (w1 := (((((((g5.setCell ⟨aK, 5, none⟩ (.int .i64 (wrap64 (1 + a2)))).setCell ⟨U, 0, none⟩ (.int .i64 ai)).setCell ⟨U, 1, none⟩ (.int .i64 0)).setCell ⟨U, 2, none⟩ (.int .i64 0)).setCell ⟨U, 3, none⟩ (.string aj)).setCell ⟨U, 4, none⟩ (.string az)).setCell ⟨U, 5, none⟩ (.int .i64 (wrap64 (1 + a2))))) ?hg ?ho ?hn ?hr ?_; (case ho => rfl); (case hg => rfl); (case hn => rfl); (case hr => exact gs_); intro dr hw; replace q : Hc dr U #[.int .i64 ai, .int .i64 0, .int .i64 0, .string aj, .string az, .int .i64 (wrap64 (1 + a2))] 59 := ⟨wAp1 q aU⟩; replace J : Hc dr aK #[.int .i64 ai, .int .i64 0, .int .i64 0, .string aj, .string az, .int .i64 (wrap64 (1 + a2))] 59 := ⟨wAp1 J bG⟩; replace HK : Hk w dr g := ⟨B6x32_⟩; replace HB : Hb l dr := ⟨B6x31_⟩; replace j : Aside0 (IsS107 l dr g B cC cD) := ⟨B6x30_⟩; clear hw))
  refine bodyPost_ret (results_cell_row rfl _ _ U 59 #[.int .i64 ai, .int .i64 0, .int .i64 0, .string aj, .string az, .int .i64 (wrap64 (1 + a2))] (0, 0) _ rfl (Ab q) Try.underlying59 rfl gk_) rfl ?_; exact D2x1_
 obtain ⟨fR, fS⟩ := nE dP
 obtain ⟨rfl, rfl, rfl, rfl, rfl, rfl, rfl, rfl⟩ := s8 aS
 clear aS aC
 obtain ⟨h1, i5, h2, i6, h3, i7, h4, i9⟩ := o8_ b4 bN bG aU bO br aV bM
 obtain ⟨a8, a9, ba, bd, be, bh, bi, bj, bk, bl, bm, bn⟩ := cf6 J
 obtain ⟨h6, jb, h7, jc, h8, jd⟩ := o6_ cT cS cd cf bq ca
 obtain ⟨eH, eI, eJ, eK, eL, eM, eP, eQ, eR, eS, eT, eU⟩ := cf6 q
 go_wp2_with (first | ((with_reducible refine gate_store (t := 59) (p := 4) rfl ?_); refine store_event (t := 59) (p := 4) (v := ?vo_w114) (w1 := ((((((wc.setCell ⟨U, 0, none⟩ (.int .i64 ai)).setCell ⟨U, 1, none⟩ (.int .i64 0)).setCell ⟨U, 2, none⟩ (.int .i64 0)).setCell ⟨U, 3, none⟩ (.string aj)).setCell ⟨U, 4, none⟩ (.string az)).setCell ⟨U, 5, none⟩ (.int .i64 0))) ?hg ?ho ?hn ?hr ?_; (case ho => rfl); (case hg => rfl); (case hn => rfl); (case hr => exact gs_); intro d2 hw; replace q : Hc d2 U #[.int .i64 ai, .int .i64 0, .int .i64 0, .string aj, .string az, .int .i64 0] 59 := ⟨wAp0 q⟩; replace HK : Hk w d2 g := ⟨B6x32_⟩; replace HB : Hb l d2 := ⟨B6x31_⟩; replace j : Aside0 (IsS107 l d2 g B cm cn) := ⟨B6x30_⟩; clear hw))
 refine bodyPost_ret (results_cell_row rfl _ _ U 59 #[.int .i64 ai, .int .i64 0, .int .i64 0, .string aj, .string az, .int .i64 0] (0, 0) _ rfl (Ab q) Try.underlying59 rfl gk_) rfl ?_
 exact D2x1_
theorem B7x0_ (h : p := by repeat (first | (with_reducible first | exact j.out | apply IsS107.alloc | apply IsS107.drewN | apply IsS107.drew | apply IsS107.set_1 | apply IsS107.set_2 | refine IsS107.far ?_ cc.out _ | refine IsS107.far ?_ cR.out _ | refine IsS107.far ?_ b3.out _ | refine IsS107.far ?_ dL.out _) | exact j.out)) : p := h
theorem B7x4_ (h : p := by repeat (first | (with_reducible first | exact j.out | apply IsS107.alloc | apply IsS107.drewN | apply IsS107.drew | apply IsS107.set_1 | apply IsS107.set_2 | refine IsS107.far ?_ cc.out _ | refine IsS107.far ?_ cR.out _) | exact j.out)) : p := h
theorem B7x11_ (h : p := by first | exact Nat.ne_of_lt (Nat.lt_of_lt_of_le dU ah.out) | (rw [add_block]; exact Nat.ne_of_lt (Nat.lt_of_lt_of_le dU ah.out)) | (show (Addr.add _ _).block ≠ _; rw [add_block]; exact Nat.ne_of_lt (Nat.lt_of_lt_of_le dU ah.out)) | (dsimp only; exact Nat.ne_of_lt (Nat.lt_of_lt_of_le dU ah.out))) : p := h
theorem B7x12_ (h : p := by first | exact Nat.ne_of_lt (Nat.lt_of_lt_of_le dV ah.out) | (rw [add_block]; exact Nat.ne_of_lt (Nat.lt_of_lt_of_le dV ah.out)) | (show (Addr.add _ _).block ≠ _; rw [add_block]; exact Nat.ne_of_lt (Nat.lt_of_lt_of_le dV ah.out)) | (dsimp only; exact Nat.ne_of_lt (Nat.lt_of_lt_of_le dV ah.out))) : p := h
theorem B7x13_ (h : p := by first | exact Nat.ne_of_lt (Nat.lt_of_lt_of_le dW ah.out) | (rw [add_block]; exact Nat.ne_of_lt (Nat.lt_of_lt_of_le dW ah.out)) | (show (Addr.add _ _).block ≠ _; rw [add_block]; exact Nat.ne_of_lt (Nat.lt_of_lt_of_le dW ah.out)) | (dsimp only; exact Nat.ne_of_lt (Nat.lt_of_lt_of_le dW ah.out))) : p := h
theorem B7x14_ (h : p := by first | (rw [add_block]; exact Kd.foot_ne bo.out (by omega) (by decide)) | (show (Addr.add _ _).block ≠ _; rw [add_block]; exact Kd.foot_ne bo.out (by omega) (by decide)) | exact Kd.foot_ne bo.out (by omega) (by decide) | (dsimp only; exact Kd.foot_ne bo.out (by omega) (by decide))) : p := h
theorem B7x21_ (h : p := by repeat (first | (with_reducible first | exact j.out | apply IsS107.alloc | apply IsS107.drewN | apply IsS107.drew | apply IsS107.set_1 | apply IsS107.set_2 | refine IsS107.far ?_ cc.out _ | refine IsS107.far ?_ cR.out _ | refine IsS107.far ?_ b3.out _) | exact j.out)) : p := h
theorem B7x27_ (h : p := by have := e1.out; have := fK.out; first | omega | exact Nat.le_refl _) : p := h
theorem B7x32_ (h : p := by have := e1.out; first | omega | exact Nat.le_refl _) : p := h
mutual
def spec_l15Command.j0 : Nat → Bool → List Int → Int → Int → List (S83) → List (S81) → Option (Int × Int × Int × ByteArray × ByteArray × Int × Int × Int)
 | 0, _, _, _, _, _, _ => none
 | k + 1, g6, ax, bC, bD, aP, g7 => if g6 = true then (some (1, 0, 0, (⟨#[]⟩ : ByteArray), (⟨#[]⟩ : ByteArray), 0, bC, bD)) else ((spec_l15Of.f k ax bC bD aP g7).bind fun aX => (if 0 ≤ (wrap64 ((aP.length : Int) - 1)) then (if (wrap64 ((aP.length : Int) - 1)) < (aP.length : Int) then ((spec_l01Once.f ax aX.2.2.2.2.2.2.1 aX.2.2.2.2.2.2.2 4).bind fun cW => (if cW.1 = true then ((spec_l01Below.f ax cW.2.1 cW.2.2 (aP.length : Int)).bind fun ci => (if 0 ≤ ci.1 then (if ci.1 < (aP.length : Int) then (spec_l15Command.j1 k ax ci.2.1 ci.2.2 aX.1 aX.2.1 aX.2.2.1 aX.2.2.2.1 aX.2.2.2.2.1 aX.2.2.2.2.2.1 ((rd_T83 aP ci.1).f0) ((rd_T83 aP ci.1).f1) ((rd_T83 aP ci.1).f2)) else (none)) else (none))) else (spec_l15Command.j1 k ax cW.2.1 cW.2.2 aX.1 aX.2.1 aX.2.2.1 aX.2.2.2.1 aX.2.2.2.2.1 aX.2.2.2.2.2.1 ((rd_T83 aP (wrap64 ((aP.length : Int) - 1))).f0) ((rd_T83 aP (wrap64 ((aP.length : Int) - 1))).f1) ((rd_T83 aP (wrap64 ((aP.length : Int) - 1))).f2)))) else (none)) else (none)))
def spec_l15Command.j1 : Nat → List Int → Int → Int → Int → Int → Int → ByteArray → ByteArray → Int → Int → Int → ByteArray → Option (Int × Int × Int × ByteArray × ByteArray × Int × Int × Int)
 | 0, _, _, _, _, _, _, _, _, _, _, _, _ => none
 | k + 1, ax, bC, bD, cK, ft, fu, cN, cO, cP, eE, eF, kL => (spec_l01Below.f ax bC bD 16).bind fun bL => (if bL.1 = 0 then (spec_l15Command.j2 k ax bL.2.1 bL.2.2 cK eE eF cN cO cP) else (if bL.1 = 1 then ((spec_l01Below.f ax bL.2.1 bL.2.2 4).bind fun ej => (spec_l15Command.j2 k ax ej.2.1 ej.2.2 cK eE ej.1 cN cO cP)) else (if bL.1 = 2 then ((spec_l01Below.f ax bL.2.1 bL.2.2 9).bind fun ek => (spec_l15Command.j2 k ax ek.2.1 ek.2.2 cK ek.1 (wrap64 (eF + 1)) cN cO cP)) else (spec_l15Command.j2 k ax bL.2.1 bL.2.2 cK eE (wrap64 (eF + 1)) cN cO cP))))
def spec_l15Command.j2 : Nat → List Int → Int → Int → Int → Int → Int → ByteArray → ByteArray → Int → Option (Int × Int × Int × ByteArray × ByteArray × Int × Int × Int)
 | 0, _, _, _, _, _, _, _, _, _ => none
 | k + 1, ax, bC, bD, cK, ft, fu, cN, cO, cP => some (cK, ft, fu, cN, cO, cP, bC, bD)
end
def spec_l15Command.f (k : Nat) (B : List Int) (aZ : Int) (a0 : Int) (z : List (S83)) (aa : List (S81)) : Option (Int × Int × Int × ByteArray × ByteArray × Int × Int × Int) := if (z.length : Int) = 0 then (spec_l15Command.j0 k true B aZ a0 z aa) else ((spec_l01Once.f B aZ a0 16).bind fun ei => (spec_l15Command.j0 k ei.1 B ei.2.1 ei.2.2 z aa))
def spec_l15Command.T6 : Bool × List (List Nat × List Nat) := (true, [([], []), ([0], [0]), ([], []), ([], []), ([3], [3]), ([4], [4]), ([2, 5], [2, 5]), ([1, 6], [1, 6]), ([7], [7]), ([8, 6, 0, 1, 2, 3, 4, 5, 6, 7, 8], [8])])
def spec_l15Command.B6 : List Nat := [0, 1, 0, 0, 8, 24, 60, 127, 255, 511]
theorem spec_l15Command.tab6 : rtab .any (opsOf Try.f99 6) = spec_l15Command.T6 := by kernel_rfl
theorem spec_l15Command.bits6 : waitsOk spec_l15Command.T6.2 spec_l15Command.B6 = true := by kernel_rfl
theorem spec_l15Command.calls (k : Nat) (g : Nat) (B : List Int) (aZ : Int) (a0 : Int) (aQ : Option Addr) (aD : Nat) (z : List (S83)) (aA : Option Addr) (aE : Nat) (aa : List (S81)) (r1 : Int) (r2 : Int) (r3 : Int) (r4 : ByteArray) (r5 : ByteArray) (r6 : Int) (r7 : Int) (r8 : Int) (l w : World) (hI : IsS107 l w g B aZ a0) (hB : Below l.heap.size l w) (dh : ∀ W_, KeepBut w W_ g none → Kd.C k83 W_ aQ z.length z) (da : z.length ≤ aD) (di : ∀ W_, KeepBut w W_ g none → Kd.C k81 W_ aA aa.length aa) (db : aa.length ≤ aE) (h : spec_l15Command.f k B aZ a0 z aa = some (r1, r2, r3, r4, r5, r6, r7, r8)) :
  Calls Try.prog 99 #[.pointer (some ⟨g, 0, none⟩), .agg #[.slice aQ z.length aD, .slice aA aa.length aE]] w fun e w' => e = .returned (.agg #[.int .i64 r1, .int .i64 r2, .int .i64 r3, .string r4, .string r5, .int .i64 r6]) ∧ IsS107 l w' g B r7 r8 ∧ Below l.heap.size l w' ∧ KeepBut w w' g none := by
 have gP := Try.underlying47
 have gQ := Try.underlying59
 have kl := Try.underlying83
 have bo := am dh
 have ec := am da
 clear dh da
 have ee := am di
 have ed := am db
 clear di db
 have j := am hI
 have HK := am (KeepBut.refl w g none)
 have HL := am hB.size
 clear hI
 have bR := am hB.size
 have HB := am hB
 clear hB
 have aI := h
 clear h
 unfold spec_l15Command.f at aI
 replace aI := am aI
 go_enter Try.func99, Try.ntmps99
 go_upto_region 1 with (first | ((with_reducible refine gate_dst (N := 3) rfl ?_); refine bx (N := 3) (cs := #[.slice aQ z.length aD, .slice aA aa.length aE]) (t := 47) ?_; intro bQ hg w4 hbox hb; replace HB := De1 HB (IsS107.gf j) hb; have D := am hbox; have ag := gK hg HK; have ap := am (Nat.le_trans bR.out (bs hg (keep_size HK.out)) : l.heap.size ≤ bQ); replace HK := Ek0 HK hb; have cc := am (nl hg (IsS107.lt j.out)); have bP := am (ng hg (IsS107.lt j.out)); replace j := am (IsS107.below (by repeat (first | (with_reducible first | exact j.out | apply IsS107.alloc | apply IsS107.drewN | apply IsS107.drew | apply IsS107.set_1 | apply IsS107.set_2) | exact j.out)) hb); clear hb hbox hg) | ((with_reducible refine gate_dst (N := 4) rfl ?_); refine bx (N := 4) (cs := #[.int .i64 0, .int .i64 0, .int .i64 0, .string (⟨#[]⟩ : ByteArray), .string (⟨#[]⟩ : ByteArray), .int .i64 0]) (t := 59) ?_; intro ar hg w5 hbox hb; replace HB := De2 HB (IsS107.gf j) ap hb; have M := am hbox; have ao := gK hg HK; have av := am (Nat.le_trans bR.out (bs hg (keep_size HK.out)) : l.heap.size ≤ ar); replace HK := Ek1 HK ag hb; have cw := nA hg D; have cU := mA hg D; replace D := bA D hb; have cR := am (nl hg (IsS107.lt j.out)); have bU := am (ng hg (IsS107.lt j.out)); replace j := am (IsS107.below (by repeat (first | (with_reducible first | exact j.out | apply IsS107.alloc | apply IsS107.drewN | apply IsS107.drew | apply IsS107.set_1 | apply IsS107.set_2 | refine IsS107.far ?_ cc.out _) | exact j.out)) hb); clear hb hbox hg))
 (try simp only [Act.put, List.setIfInBounds_toArray, List.set_cons_zero, List.set_cons_succ])
 go_cut [14] (fun gX wc => ∃ (kq : Nat) (eB : Bool) (dt : Int) (du : Int), gX = .bool eB ∧ Aside0 (spec_l15Command.j0 kq eB B dt du z aa = some (r1, r2, r3, r4, r5, r6, r7, r8)) ∧ Aside0 (kq ≤ k) ∧ Hc wc bQ #[(.slice aQ z.length aD), (.slice aA aa.length aE)] 47 ∧ Hc wc ar #[.int .i64 0, .int .i64 0, .int .i64 0, .string (⟨#[]⟩ : ByteArray), .string (⟨#[]⟩ : ByteArray), .int .i64 0] 59 ∧ Aside0 (IsS107 l wc g B dt du) ∧ Hk w wc g ∧ Hb l wc)
 case first =>
  replace aI := aI.out
  obtain ⟨c6, aT⟩ | ⟨c6, aT⟩ := sp aI
  ·obtain ⟨cZ, fU⟩ := yE c6; clear c6
   (first | rw [cZ] | (simp only [i64_w, i32_w]; rw [cZ]) | skip)
   replace aT := am aT; clear aI; obtain ⟨iM, jM, iP, jP⟩ := o4_ cw cU bP cc; obtain ⟨eN, eO, eV, eW⟩ := cf2 D
   go_wp2
   go_meet
   case rel => exact ⟨_, true, aZ, a0, be_, aT, ⟨gl_⟩, Cb D, Cb M, ⟨B7x4_⟩, Ck2 HK ag ao, Ce3 HB (IsS107.gf j) ap av⟩
  obtain ⟨cZ, fU⟩ := nE c6
  have hJ : ¬ (z = []) := fun h_ => c6 (by rw [h_]; rfl)
  (first | rw [cZ] | (simp only [i64_w, i32_w]; rw [cZ]) | skip)
  obtain ⟨⟨fi, fj, fk⟩, fC, b2⟩ := bsi aT; (try dsimp only at b2); replace b2 := am b2; clear aI aT; obtain ⟨h5, ja, h9, je⟩ := o4_ cw cU bP cc; obtain ⟨eN, eO, eV, eW⟩ := cf2 D
  go_wp2_with (first | (go_at_call 42; refine (spec_l01Once.calls g B aZ a0 16 fi fj fk l _ B7x4_ (Ae3 HB (IsS107.gf j) ap av) fC.out).mono ?_; rintro e ky ⟨rfl, hi, hb, hk⟩; replace D := kA hk D bP; replace M := kA hk M bU; replace HK := Dk2 HK ag ao hk; replace HB := am hb; replace j := am hi))
  go_meet
  case rel => exact ⟨_, fi, fj, fk, be_, b2, ⟨gl_⟩, Cb D, Cb M, ⟨B7x4_⟩, Ck2 HK ag ao, Ce3 HB (IsS107.gf j) ap av⟩
 clear aI
 obtain ⟨kq, eB, dt, du, rfl, aJ, e1, D, M, j, HK, HB⟩ := hcut
 cases kq with
 | zero => exact absurd aJ.out (by simp [spec_l15Command.j0])
 | succ fe => ?_
 replace aJ := aJ.out
 simp only [spec_l15Command.j0] at aJ
 obtain ⟨rfl, a4⟩ | ⟨rfl, a4⟩ := sb aJ
 ·obtain ⟨rfl, rfl, rfl, rfl, rfl, rfl, rfl, rfl⟩ := s8 a4; clear a4 aJ; obtain ⟨ia, jf, ib, jg⟩ := o4_ cU cw bU cR; obtain ⟨hf, hh, hj, hl, hm, hp, hv, hx, hz, hC, hD, hE⟩ := cf6 M
  go_wp2_with (first | ((with_reducible refine gate_store (t := 59) (p := 4) rfl ?_); refine store_event (t := 59) (p := 4) (v := ?vo_w19) (w1 := ((((((wc.setCell ⟨ar, 0, none⟩ (.int .i64 1)).setCell ⟨ar, 1, none⟩ (.int .i64 0)).setCell ⟨ar, 2, none⟩ (.int .i64 0)).setCell ⟨ar, 3, none⟩ (.string (⟨#[]⟩ : ByteArray))).setCell ⟨ar, 4, none⟩ (.string (⟨#[]⟩ : ByteArray))).setCell ⟨ar, 5, none⟩ (.int .i64 0))) ?hg ?ho ?hn ?hr ?_; (case ho => rfl); (case hg => rfl); (case hn => rfl); (case hr => exact gs_); intro ds hw; replace D : Hc ds bQ #[.slice aQ z.length aD, .slice aA aa.length aE] 47 := ⟨wAp1 D cw⟩; replace M : Hc ds ar #[.int .i64 1, .int .i64 0, .int .i64 0, .string (⟨#[]⟩ : ByteArray), .string (⟨#[]⟩ : ByteArray), .int .i64 0] 59 := ⟨wAp0 M⟩; replace HK : Hk w ds g := ⟨wAk2 HK ag ao⟩; replace HB : Hb l ds := ⟨wAe3 HB (IsS107.gf j) ap av⟩; replace j : Aside0 (IsS107 l ds g B dt du) := ⟨(by rw [hw]; exact B7x4_)⟩; clear hw))
  refine bodyPost_ret (results_cell_row rfl _ _ ar 59 #[.int .i64 1, .int .i64 0, .int .i64 0, .string (⟨#[]⟩ : ByteArray), .string (⟨#[]⟩ : ByteArray), .int .i64 0] (0, 0) _ rfl (Ab M) Try.underlying59 rfl gk_) rfl ?_
  exact ⟨(by first | rfl | (simp [errW_none, errW_some] <;> rfl) | (simp [*, errW_none, errW_some] <;> rfl)), B7x4_, (Ae3 HB (IsS107.gf j) ap av), (Ak2 HK ag ao)⟩
 obtain ⟨⟨bv, cE, cF, bw, bz, bB, ev, ew⟩, eX, aG⟩ := bsi a4
 (try dsimp only at aG)
 obtain ⟨a7, dc⟩ : ∃ j_ : Int, (wrap64 ((z.length : Int) - 1)) = j_ := ⟨_, rfl⟩
 (first | rw [dc] at aG | simp only [dc] at aG)
 (try rw [dc] at eX)
 have hO : (IntKind.i64.wrap ((z.length : Int) - 1)) = a7 := (i64_w _).trans dc
 obtain ⟨e6, a5⟩ := yd aG
 obtain ⟨e7, b9⟩ := yd a5
 obtain ⟨⟨gV, ex, ey⟩, fD, aC⟩ := bsi b9
 (try dsimp only at aC)
 replace aC := am aC
 clear aJ a4 aG a5 b9
 obtain ⟨ij, jm, ik, jn⟩ := o4_ cw cU bP cc
 obtain ⟨eN, eO, eV, eW⟩ := cf2 D
 go_upto_if 28 with (first | ((with_reducible refine gate_callee (f := 105) rfl ?_); refine gM (args := #[.pointer (some ⟨g, 0, none⟩), .agg #[.slice aQ z.length aD, .slice aA aa.length aE]]) (some 18) Try.func105 (spec_l15Of.calls fe g B dt du _ _ z _ _ aa bv cE cF bw bz bB ev ew l _ B7x4_ (Ae3 HB (IsS107.gf j) ap av) (Kd.C_foot_step bo.out (Ak2 HK ag ao)) ec.out (Kd.C_foot_step ee.out (Ak2 HK ag ao)) ed.out eX.out) ?_; rintro kD ⟨hi, hb, hk⟩; replace D := kA hk D bP; replace M := kA hk M bU; replace HK := Dk2 HK ag ao hk; replace HB := am hb; replace j := am hi) | ((with_reducible refine gate_dst (N := 5) rfl ?_); refine bx (N := 5) (cs := #[.int .i64 0, .int .i64 0, .int .i64 0, .string (⟨#[]⟩ : ByteArray), .string (⟨#[]⟩ : ByteArray), .int .i64 0]) (t := 59) ?_; intro bu hg g0 hbox hb; replace HB := De3 HB (IsS107.gf j) ap av hb; have Z := am hbox; have aO := gK hg HK; have aN := am (Nat.le_trans bR.out (bs hg (keep_size HK.out)) : l.heap.size ≤ bu); replace HK := Ek2 HK ag ao hb; have bH := nA hg D; have cx := mA hg D; replace D := bA D hb; have bI := nA hg M; have cy := mA hg M; replace M := bA M hb; have b3 := am (nl hg (IsS107.lt j.out)); have bJ := am (ng hg (IsS107.lt j.out)); replace j := am (IsS107.below B7x4_ hb); clear hb hbox hg; have f5 := cx.out; have gs := bH.out; have f6 := cy.out; have gu := bI.out; have io := bJ.out; have jq := b3.out; obtain ⟨dw, dx, dy, dz, dB, dC, dD, dE, dF, dG, dH, dI⟩ := cf6 Z) | ((with_reducible refine gate_store (t := 59) (p := 5) rfl ?_); refine store_event (t := 59) (p := 5) (v := ?vo_w35) (w1 := ((((((g0.setCell ⟨bu, 0, none⟩ (.int .i64 bv)).setCell ⟨bu, 1, none⟩ (.int .i64 cE)).setCell ⟨bu, 2, none⟩ (.int .i64 cF)).setCell ⟨bu, 3, none⟩ (.string bw)).setCell ⟨bu, 4, none⟩ (.string bz)).setCell ⟨bu, 5, none⟩ (.int .i64 bB))) ?hg ?ho ?hn ?hr ?_; (case ho => rfl); (case hg => rfl); (case hn => rfl); (case hr => exact gs_); intro cG hw; replace D : Hc cG bQ #[.slice aQ z.length aD, .slice aA aa.length aE] 47 := ⟨wAp1 D bH⟩; replace M : Hc cG ar #[.int .i64 0, .int .i64 0, .int .i64 0, .string (⟨#[]⟩ : ByteArray), .string (⟨#[]⟩ : ByteArray), .int .i64 0] 59 := ⟨wAp1 M bI⟩; replace Z : Hc cG bu #[.int .i64 bv, .int .i64 cE, .int .i64 cF, .string bw, .string bz, .int .i64 bB] 59 := ⟨wAp0 Z⟩; replace HK : Hk w cG g := ⟨wAk3 HK ag ao aO⟩; replace HB : Hb l cG := ⟨wAe4 HB (IsS107.gf j) ap av aN⟩; replace j : Aside0 (IsS107 l cG g B ev ew) := ⟨(by rw [hw]; exact B7x21_)⟩; clear hw; obtain ⟨eN, eO, eV, eW⟩ := cf2 D; have dm : 0 ≤ ((a7) : Int) := dga; have dn : (a7) < (z.length : Int) := dga; obtain ⟨aM, f0, fb, fc, fd⟩ := at_T83 (Kd.C_foot_now bo.out HK.out) (a7) dm dn; cases f0; replace dm := eq_true dm; replace dn := eq_true dn) | ((with_reducible refine gate_dst (N := 6) rfl ?_); refine bx (N := 6) (cs := #[.int .i64 0, .int .i64 0, .string (⟨#[]⟩ : ByteArray)]) (t := 83) ?_; intro au hg kE hbox hb; replace HB := De4 HB (IsS107.gf j) ap av aN hb; have ac := am hbox; have ah := gK hg HK; have a3 := am (Nat.le_trans bR.out (bs hg (keep_size HK.out)) : l.heap.size ≤ au); replace HK := Ek3 HK ag ao aO hb; have aW := nA hg D; have cz := mA hg D; replace D := bA D hb; have bV := nA hg M; have cg := mA hg M; replace M := bA M hb; have bK := nA hg Z; have a6 := mA hg Z; replace Z := bA Z hb; have dL := am (nl hg (IsS107.lt j.out)); have b5 := am (ng hg (IsS107.lt j.out)); replace j := am (IsS107.below B7x21_ hb); clear hb hbox hg; have f7 := cz.out; have gv := aW.out; have iu := cg.out; have ju := bV.out; have f8 := a6.out; have gw := bK.out; have f9 := b5.out; have gx := dL.out; obtain ⟨fw, fx, fy, fz, fA, fB⟩ := cf3 ac) | ((with_reducible refine gate_callee (f := 42) rfl ?_); refine gM (some 28) Try.func42 (spec_l01Once.calls g B ev ew 4 gV ex ey l _ B7x0_ (Ae5 HB (IsS107.gf j) ap av aN a3) fD.out) ?_; rintro g1 ⟨hi, hb, hk⟩; replace D := am (KeepBut.blk hk (g' := bQ) (o := .cells #[.slice (some aM) z.length aD, .slice aA aa.length aE] 47 (0, 0)) (Ap1 D aW) bP.out (by simp)); replace M := am (KeepBut.blk hk (g' := ar) (o := .cells #[.int .i64 0, .int .i64 0, .int .i64 0, .string (⟨#[]⟩ : ByteArray), .string (⟨#[]⟩ : ByteArray), .int .i64 0] 59 (0, 0)) (Ap1 M bV) bU.out (by simp)); replace Z := am (KeepBut.blk hk (g' := bu) (o := .cells #[.int .i64 bv, .int .i64 cE, .int .i64 cF, .string bw, .string bz, .int .i64 bB] 59 (0, 0)) (Ap1 Z bK) bJ.out (by simp)); replace ac := am (KeepBut.blk hk (g' := au) (o := .cells #[.int .i64 ((rd_T83 z (a7)).f0), .int .i64 ((rd_T83 z (a7)).f1), .string ((rd_T83 z (a7)).f2)] 83 (0, 0)) (Ap0 ac) b5.out (by simp)); replace HK := Dk4 HK ag ao aO ah hk; replace HB := am hb; replace j := am hi))
 (try simp only [Act.put, List.setIfInBounds_toArray, List.set_cons_zero, List.set_cons_succ])
 go_cut [] (fun wc => ∃ (kq : Nat) (d3 : Int) (d5 : Int) (bY : Int) (bZ : Int) (dv : ByteArray), Aside0 (spec_l15Command.j1 kq B d3 d5 bv cE cF bw bz bB bY bZ dv = some (r1, r2, r3, r4, r5, r6, r7, r8)) ∧ Aside0 (kq ≤ fe) ∧ Hc wc bQ #[(.slice (some aM) z.length aD), (.slice aA aa.length aE)] 47 ∧ Hc wc ar #[.int .i64 0, .int .i64 0, .int .i64 0, .string (⟨#[]⟩ : ByteArray), .string (⟨#[]⟩ : ByteArray), .int .i64 0] 59 ∧ Hc wc bu #[.int .i64 bv, .int .i64 cE, .int .i64 cF, .string bw, .string bz, .int .i64 bB] 59 ∧ Hc wc au #[.int .i64 bY, .int .i64 bZ, .string dv] 83 ∧ Aside0 (IsS107 l wc g B d3 d5) ∧ Hk w wc g ∧ Hb l wc)
 case first =>
  replace aC := aC.out
  obtain ⟨rfl, aS⟩ | ⟨rfl, aS⟩ := sb aC
  ·obtain ⟨⟨ay, fl, fm⟩, fE, bS⟩ := bsi aS; (try dsimp only at bS); obtain ⟨e8, bT⟩ := yd bS
   (first | rw [e8] | (simp only [i64_w, i32_w]; rw [e8]) | skip)
   obtain ⟨hH, b0⟩ := yd bT; replace b0 := am b0; clear aC aS bS bT
   try go_wp2
   replace D := dA D; replace M := dA M; replace Z := dA Z; replace ac := dA ac; replace j := am (IsS107.drew j.out); replace HK := kdr HK; replace HB := bdr HB
   have er : 0 ≤ (ay : Int) := dga
   have et : ay < (z.length : Int) := dga
   obtain ⟨fM, f1, eo, ep, eq⟩ := at_T83 (Kd.C_foot_now bo.out HK.out) ay er et; have ko := eq; have kn := ep; have km := eo; obtain rfl : aM = fM := (by injection f1); have en := (show (⟨(aM.add ((ay).toNat * 3)).block, (aM.add ((ay).toNat * 3)).off + 2, none⟩ : Addr).block ≠ g from B7x14_); have dW := (Kd.foot_lt bo.out (by omega) (by decide)); have em := (show (⟨(aM.add ((ay).toNat * 3)).block, (aM.add ((ay).toNat * 3)).off + 1, none⟩ : Addr).block ≠ g from B7x14_); have dV := (Kd.foot_lt bo.out (by omega) (by decide)); have el := (show ((aM.add ((ay).toNat * 3)) : Addr).block ≠ g from B7x14_); have dU := (Kd.foot_lt bo.out (by omega) (by decide)); replace er := eq_true er; replace et := eq_true et; refine st_ 10 (fun w' => w'.cell? ⟨bQ, 0, none⟩ = some (.slice (some aM) z.length aD) ∧ w'.cell? ⟨bQ, 1, none⟩ = some (.slice aA aa.length aE) ∧ w'.cell? (aM.add ((ay).toNat * 3)) = some (.int .i64 ((rd_T83 z ay).f0)) ∧ w'.cell? ⟨(aM.add ((ay).toNat * 3)).block, (aM.add ((ay).toNat * 3)).off + 1, none⟩ = some (.int .i64 ((rd_T83 z ay).f1)) ∧ w'.cell? ⟨(aM.add ((ay).toNat * 3)).block, (aM.add ((ay).toNat * 3)).off + 2, none⟩ = some (.string ((rd_T83 z ay).f2))) [] spec_l15Command.tab6 spec_l15Command.bits6 ⟨bc D 0, bc D 1, eo, ep, eq⟩ (fun aY bE ef => ?_); generalize g1.drew = g2 at D M Z ac j HK HB eo ep eq aY ⊢; refine pu_ 0 29 bE ?_; refine pu_ 2 31 bE ?_; refine pu_ 3 32 bE ?_; refine ta_ 1 30 bE ef aY ?_; refine ta_ 4 33 bE ef aY ?_; refine pu_ 5 34 bE ?_; refine on_ 6 (some 35) bE (fun K hK => ?_); refine gS Try.func41 #[.pointer (some ⟨g, 0, none⟩), .int .i64 (z.length : Int)] ?_; refine (spec_l01Below.calls g B ex ey (z.length : Int) ay fl fm l _ B7x0_ (Ae5 HB (IsS107.gf j) ap av aN a3) fE.out).mono ?_; rintro e ez ⟨rfl, hi, hb, hk⟩; have HS2_ := keep_cell hk (aY.2.2.1) (by first | (rw [add_block]; exact el) | (show (Addr.add _ _).block ≠ _; rw [add_block]; exact el) | exact el); have HS3_ := keep_cell hk (aY.2.2.2.1) (by first | (rw [add_block]; exact em) | (show (Addr.add _ _).block ≠ _; rw [add_block]; exact em) | exact em); have HS4_ := keep_cell hk (aY.2.2.2.2) (by first | (rw [add_block]; exact en) | (show (Addr.add _ _).block ≠ _; rw [add_block]; exact en) | exact en); refine ⟨_, rfl, ?_⟩; replace D := kA hk D bP; replace M := kA hk M bU; replace Z := kA hk Z bJ; replace ac := kA hk ac b5; replace HK := Dk4 HK ag ao aO ah hk; replace HB := am hb; replace j := am hi; refine hK.out _ _ ⟨bc D 0, bc D 1, HS2_, HS3_, HS4_⟩ (fun aY => nm_ ?_); clear hK K; refine pu_ 7 36 bE ?_; refine ta_ 8 37 bE ef aY ?_; refine on_ 9 none bE (fun K hK => ?_)
   have kh : ez.cell? ⟨au, 0, none⟩ = some (.int .i64 ((rd_T83 z (a7)).f0)) := bc ac 0
   have hL := blk_frozen ac.out 0; obtain ⟨j7, j8, j9, hP, hQ, hR⟩ := o6_ aW bV bK cz cg a6
   have ki : ez.cell? ⟨au, 1, none⟩ = some (.int .i64 ((rd_T83 z (a7)).f1)) := bc ac 1
   have hM := blk_frozen ac.out 1; obtain ⟨ka, kc, kd, hS, hT, hU⟩ := o6_ aW bV bK cz cg a6
   have kj : ez.cell? ⟨au, 2, none⟩ = some (.string ((rd_T83 z (a7)).f2)) := bc ac 2
   have hN := blk_frozen ac.out 2; obtain ⟨ke, kf, kg, hV, hW, hX⟩ := o6_ aW bV bK cz cg a6; refine skip_ (w1 := ?_) (by rfl) rfl ?_ ?_; rotate_left
   ·go_simp; rfl
   refine hK.out _ _ ⟨((cell_far (p := ⟨au, _, none⟩) aW.out _).trans (((cell_far (p := ⟨au, _, none⟩) aW.out _).trans (((cell_far (p := ⟨au, _, none⟩) aW.out _).trans (aY.1)))))), ((cell_far (p := ⟨au, _, none⟩) aW.out _).trans (((cell_far (p := ⟨au, _, none⟩) aW.out _).trans (((cell_far (p := ⟨au, _, none⟩) aW.out _).trans (aY.2.1)))))), ((cell_far (p := ⟨au, _, none⟩) B7x11_ _).trans (((cell_far (p := ⟨au, _, none⟩) B7x11_ _).trans (((cell_far (p := ⟨au, _, none⟩) B7x11_ _).trans (aY.2.2.1)))))), ((cell_far (p := ⟨au, _, none⟩) B7x12_ _).trans (((cell_far (p := ⟨au, _, none⟩) B7x12_ _).trans (((cell_far (p := ⟨au, _, none⟩) B7x12_ _).trans (aY.2.2.2.1)))))), ((cell_far (p := ⟨au, _, none⟩) B7x13_ _).trans (((cell_far (p := ⟨au, _, none⟩) B7x13_ _).trans (((cell_far (p := ⟨au, _, none⟩) B7x13_ _).trans (aY.2.2.2.2))))))⟩ (fun aY => ?_); clear hK K; refine done_ (done_of bE.out gk_) ?_
   try go_wp2
   go_meet
   case rel => exact ⟨_, fl, fm, ((rd_T83 z ay).f0), ((rd_T83 z ay).f1), ((rd_T83 z ay).f2), b0, ⟨B7x32_⟩, Cp1 D aW, Cp1 M bV, Cp1 Z bK, Cp0 ac, D2x0_⟩
  replace aS := am aS; clear aC
  go_wp2
  go_meet
  case rel => exact ⟨_, ex, ey, ((rd_T83 z (a7)).f0), ((rd_T83 z (a7)).f1), ((rd_T83 z (a7)).f2), aS, ⟨B7x32_⟩, Cb D, Cb M, Cb Z, Cb ac, D2x0_⟩
 clear aC
 try clear fN
 try clear fO
 try clear e6
 try clear fP
 try clear e7
 try clear fb
 try clear fc
 try clear fd
 try clear dm
 try clear dn
 obtain ⟨kq, d3, d5, bY, bZ, dv, bp, fK, D, M, Z, ac, j, HK, HB⟩ := hcut
 cases kq with
 | zero => exact absurd bp.out (by simp [spec_l15Command.j1])
 | succ gR => ?_
 replace bp := bp.out
 simp only [spec_l15Command.j1] at bp
 obtain ⟨⟨gW, dp, dq⟩, fG, bF⟩ := bsi bp
 (try dsimp only at bF)
 replace bF := am bF
 clear bp
 obtain ⟨ga, gy, iA, jA, iB, jB, iC, jC⟩ := o8_ cz aW cg bV a6 bK b5 dL
 obtain ⟨fw, fx, fy, fz, fA, fB⟩ := cf3 ac
 obtain ⟨iD, jD, iE, jE, gb, gB⟩ := o6_ cx bH cy bI bJ b3
 obtain ⟨dw, dx, dy, dz, dB, dC, dD, dE, dF, dG, dH, dI⟩ := cf6 Z
 go_upto_block 0 with (first | ((with_reducible refine gate_callee (f := 41) rfl ?_); refine gM (some 46) Try.func41 (spec_l01Below.calls g B d3 d5 16 gW dp dq l _ B7x0_ (Ae5 HB (IsS107.gf j) ap av aN a3) fG.out) ?_; rintro kG ⟨hi, hb, hk⟩; replace D := am (KeepBut.blk hk (g' := bQ) (o := .cells #[.slice (some aM) z.length aD, .slice aA aa.length aE] 47 (0, 0)) (Ap1 D bH) bP.out (by simp)); replace M := am (KeepBut.blk hk (g' := ar) (o := .cells #[.int .i64 0, .int .i64 0, .int .i64 0, .string (⟨#[]⟩ : ByteArray), .string (⟨#[]⟩ : ByteArray), .int .i64 0] 59 (0, 0)) (Ap1 M bI) bU.out (by simp)); replace Z := am (KeepBut.blk hk (g' := bu) (o := .cells #[.int .i64 bv, .int .i64 bY, .int .i64 (wrap64 (bZ + 1)), .string bw, .string bz, .int .i64 bB] 59 (0, 0)) (Ap0 Z) bJ.out (by simp)); replace ac := am (KeepBut.blk hk (g' := au) (o := .cells #[.int .i64 bY, .int .i64 bZ, .string dv] 83 (0, 0)) (Ap1 ac a6) b5.out (by simp)); replace HK := Dk4 HK ag ao aO ah hk; replace HB := am hb; replace j := am hi))
 (try simp only [Act.put, List.setIfInBounds_toArray, List.set_cons_zero, List.set_cons_succ])
 go_cut [] (fun wc => ∃ (kq : Nat) (d4 : Int) (d6 : Int) (cL : Int) (cM : Int), Aside0 (spec_l15Command.j2 kq B d4 d6 bv cL cM bw bz bB = some (r1, r2, r3, r4, r5, r6, r7, r8)) ∧ Aside0 (kq ≤ gR) ∧ Hc wc bQ #[(.slice (some aM) z.length aD), (.slice aA aa.length aE)] 47 ∧ Hc wc ar #[.int .i64 0, .int .i64 0, .int .i64 0, .string (⟨#[]⟩ : ByteArray), .string (⟨#[]⟩ : ByteArray), .int .i64 0] 59 ∧ Hc wc bu #[.int .i64 bv, .int .i64 cL, .int .i64 cM, .string bw, .string bz, .int .i64 bB] 59 ∧ Hc wc au #[.int .i64 bY, .int .i64 bZ, .string dv] 83 ∧ Aside0 (IsS107 l wc g B d4 d6) ∧ Hk w wc g ∧ Hb l wc)
 case first =>
  replace bF := bF.out
  obtain ⟨dQ, b1⟩ | ⟨dQ, b1⟩ := sp bF
  ·obtain ⟨cY, fT⟩ := yE dQ; clear dQ
   (first | rw [cY] | (simp only [i64_w, i32_w]; rw [cY]) | skip)
   replace b1 := am b1; clear bF; obtain ⟨iI, jI, iJ, jJ, iK, jK, iL, jL⟩ := o8_ cz aW cg bV a6 bK b5 dL; obtain ⟨fw, fx, fy, fz, fA, fB⟩ := cf3 ac; obtain ⟨gg, gC, gh, gD, gi, gE⟩ := o6_ cx bH cy bI bJ b3; obtain ⟨dw, dx, dy, dz, dB, dC, dD, dE, dF, dG, dH, dI⟩ := cf6 Z
   go_wp2
   go_meet
   case rel => exact ⟨_, dp, dq, bY, bZ, b1, ⟨B7x27_⟩, Cp1 D bH, Cp1 M bI, Cp0 Z, Cp1 ac a6, D2x0_⟩
  obtain ⟨cY, fT⟩ := nE dQ
  (first | rw [cY] | (simp only [i64_w, i32_w]; rw [cY]) | skip)
  obtain ⟨dR, ct⟩ | ⟨dR, ct⟩ := sp b1
  ·obtain ⟨fV, fW⟩ := yE dR; clear dR; obtain ⟨⟨fn, fo, fp⟩, fH, dJ⟩ := bsi ct; (try dsimp only at dJ); replace dJ := am dJ; clear bF b1 ct
   go_wp2_with (first | ((with_reducible refine gate_callee (f := 41) rfl ?_); refine gM (some 55) Try.func41 (spec_l01Below.calls g B dp dq 4 fn fo fp l _ B7x0_ (Ae5 HB (IsS107.gf j) ap av aN a3) fH.out) ?_; rintro kI ⟨hi, hb, hk⟩; replace D := kA hk D bP; replace M := kA hk M bU; replace Z := kA hk Z bJ; replace ac := kA hk ac b5; replace HK := Dk4 HK ag ao aO ah hk; replace HB := am hb; replace j := am hi; have gj := cx.out; have gF := bH.out; have gl := cy.out; have gG := bI.out; have iQ := bK.out; have jQ := a6.out; have iR := bJ.out; have jR := b3.out; obtain ⟨dw, dx, dy, dz, dB, dC, dD, dE, dF, dG, dH, dI⟩ := cf6 Z))
   go_meet
   case rel => exact ⟨_, fo, fp, bY, fn, dJ, ⟨B7x27_⟩, Cp1 D bH, Cp1 M bI, Cp0 Z, Cp1 ac a6, D2x0_⟩
  obtain ⟨fV, fW⟩ := nE dR
  obtain ⟨dS, cu⟩ | ⟨dS, cu⟩ := sp ct
  ·obtain ⟨fX, fY⟩ := yE dS; clear dS; obtain ⟨⟨fq, fr, fs⟩, fI, dK⟩ := bsi cu; (try dsimp only at dK); replace dK := am dK; clear bF b1 ct cu
   go_wp2_with (first | ((with_reducible refine gate_callee (f := 41) rfl ?_); refine gM (some 60) Try.func41 (spec_l01Below.calls g B dp dq 9 fq fr fs l _ B7x0_ (Ae5 HB (IsS107.gf j) ap av aN a3) fI.out) ?_; rintro kK ⟨hi, hb, hk⟩; replace D := kA hk D bP; replace M := kA hk M bU; replace Z := kA hk Z bJ; replace ac := kA hk ac b5; replace HK := Dk4 HK ag ao aO ah hk; replace HB := am hb; replace j := am hi; have gm := cx.out; have gH := bH.out; have iU := cy.out; have jU := bI.out; have iV := bK.out; have jV := a6.out; have gn := bJ.out; have gI := b3.out; obtain ⟨dw, dx, dy, dz, dB, dC, dD, dE, dF, dG, dH, dI⟩ := cf6 Z))
   go_meet
   case rel => exact ⟨_, fr, fs, fq, (wrap64 (bZ + 1)), dK, ⟨B7x27_⟩, Cp1 D bH, Cp1 M bI, Cp0 Z, Cp1 ac a6, D2x0_⟩
  obtain ⟨fX, fY⟩ := nE dS; replace cu := am cu; clear bF b1 ct
  go_wp2
  go_meet
  case rel => exact ⟨_, dp, dq, bY, (wrap64 (bZ + 1)), cu, ⟨B7x27_⟩, Cb D, Cb M, Cb Z, Cb ac, D2x0_⟩
 clear bF
 try clear fN
 try clear fO
 try clear e6
 try clear fP
 try clear e7
 try clear fb
 try clear fc
 try clear fd
 try clear dm
 try clear dn
 obtain ⟨kq, d4, d6, cL, cM, cv, hG, D, M, Z, ac, j, HK, HB⟩ := hcut
 cases kq with
 | zero => exact absurd cv.out (by simp [spec_l15Command.j2])
 | succ kr => ?_
 replace cv := cv.out
 simp only [spec_l15Command.j2] at cv
 obtain ⟨rfl, rfl, rfl, rfl, rfl, rfl, rfl, rfl⟩ := s8 cv
 clear cv
 obtain ⟨iX, jX, iY, jY, gp, gJ, gq, gN⟩ := o8_ cx bH cy bI bK a6 bJ b3
 obtain ⟨dw, dx, dy, dz, dB, dC, dD, dE, dF, dG, dH, dI⟩ := cf6 Z
 obtain ⟨gr, gO, i0, j5, i1, j6⟩ := o6_ cU cw bV cg bU cR
 obtain ⟨hf, hh, hj, hl, hm, hp, hv, hx, hz, hC, hD, hE⟩ := cf6 M
 go_wp2_with (first | ((with_reducible refine gate_store (t := 59) (p := 4) rfl ?_); refine store_event (t := 59) (p := 4) (v := ?vo_w100) (w1 := ((((((wc.setCell ⟨ar, 0, none⟩ (.int .i64 bv)).setCell ⟨ar, 1, none⟩ (.int .i64 cL)).setCell ⟨ar, 2, none⟩ (.int .i64 cM)).setCell ⟨ar, 3, none⟩ (.string bw)).setCell ⟨ar, 4, none⟩ (.string bz)).setCell ⟨ar, 5, none⟩ (.int .i64 bB))) ?hg ?ho ?hn ?hr ?_; (case ho => rfl); (case hg => rfl); (case hn => rfl); (case hr => exact gs_); intro d1 hw; replace M : Hc d1 ar #[.int .i64 bv, .int .i64 cL, .int .i64 cM, .string bw, .string bz, .int .i64 bB] 59 := ⟨wAp0 M⟩; replace HK : Hk w d1 g := ⟨wAk4 HK ag ao aO ah⟩; replace HB : Hb l d1 := ⟨wAe5 HB (IsS107.gf j) ap av aN a3⟩; replace j : Aside0 (IsS107 l d1 g B d4 d6) := ⟨(by rw [hw]; exact B7x0_)⟩; clear hw))
 refine bodyPost_ret (results_cell_row rfl _ _ ar 59 #[.int .i64 bv, .int .i64 cL, .int .i64 cM, .string bw, .string bz, .int .i64 bB] (0, 0) _ rfl (Ab M) Try.underlying59 rfl gk_) rfl ?_
 exact ⟨(by first | rfl | (simp [errW_none, errW_some] <;> rfl) | (simp only [← dc]; first | rfl | (simp [errW_none, errW_some] <;> rfl)) | (simp [*, errW_none, errW_some] <;> rfl)), B7x0_, (Ae5 HB (IsS107.gf j) ap av aN a3), (Ak4 HK ag ao aO ah)⟩
end
end Go.Proofs.Ytgffdijodnpolaa.QFnKeepTexts
