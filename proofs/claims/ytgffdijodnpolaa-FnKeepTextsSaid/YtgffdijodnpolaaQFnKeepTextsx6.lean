/- Functions that a law reaches, as functions of Lean, and the walks that show that the calls come to their answers. No condition. -/
import Derived.Test.YtgffdijodnpolaaQFnKeepTextsx0
import Derived.Test.YtgffdijodnpolaaQFnKeepTextsx5
import Derived.Test.YtgffdijodnpolaaVFnKeepTextshort3
import Derived.Test.YtgffdijodnpolaaVFnKeepTextsShort
import Derived.Test.YtgffdijodnpolaaVFnKeepTextshort8
namespace Go.Proofs.Ytgffdijodnpolaa.QFnKeepTexts
open Go.RowKit Go.Proofs.YtgffdijodnpolaaW.PrintWords Go.Proofs.YtgffdijodnpolaaW.PrintLast Go.Proofs.YtgffdijodnpolaaW.PrintMore Go.Proofs.Ytgffdijodnpolaa.Short
set_option linter.unusedVariables false
set_option linter.unusedSimpArgs false
set_option maxHeartbeats 8000000
set_option maxRecDepth 100000
variable {p : Prop}
theorem D6x0_ (h : p := by exact ⟨⟨B20x0_⟩, Ck2 HK aa ag, Ce3 HB (IsS107.gf q) af ai⟩) : p := h
theorem D6x1_ (h : p := by exact ⟨(blk_cell (blk_alloc l.out _) 0).trans rfl, (blk_cell (blk_alloc l.out _) 1).trans rfl⟩) : p := h
theorem D6x2_ (h : p := by exact ⟨bc l 0, bc l 1⟩) : p := h
section
attribute [local go_sem] max2_int min2_int max_two min_two max_three min_three max_four min_four
theorem B20x0_ (h : p := by repeat (first | (with_reducible first | exact q.out | apply IsS107.alloc | apply IsS107.drewN | apply IsS107.drew | apply IsS107.set_1 | apply IsS107.set_2 | refine IsS107.far ?_ bk.out _ | refine IsS107.far ?_ aK.out _) | exact q.out)) : p := h
theorem B20x14_ (h : p := by repeat (first | (with_reducible first | exact q.out | apply IsS107.alloc | apply IsS107.drewN | apply IsS107.drew | apply IsS107.set_1 | apply IsS107.set_2 | apply IsS107.far (p := ⟨bl, _, none⟩) (hne := bk.out) | apply IsS107.far (p := ⟨ao, _, none⟩) (hne := aK.out)) | exact q.out)) : p := h
theorem B20x17_ (h : p := by repeat (first | (with_reducible first | exact q.out | apply IsS107.alloc | apply IsS107.drewN | apply IsS107.drew | apply IsS107.set_1 | apply IsS107.set_2 | refine IsS107.far ?_ bk.out _) | exact q.out)) : p := h
theorem B20x19_ (h : p := by (with_reducible repeat (first | apply Kd.R_alloc | apply Kd.R_drewN | apply Kd.R_drew)); exact Kd.R_mono U.out (fun _ hk => trivial)) : p := h
theorem B20x20_ (h : p := by (with_reducible repeat (first | apply Kd.R_alloc | apply Kd.R_drewN | apply Kd.R_drew)); exact Kd.R_mono B.out (fun _ hk => trivial)) : p := h
theorem B20x21_ (h : p := by (with_reducible repeat (first | refine blk_drewN ?_ _ | refine blk_drew ?_ | refine blk_alloc ?_ _)); refine blk_far ?_ (by have h_ := Kd.R_ne B.out z.out (by decide); intro e_; exact h_ (by rw [e_]; rfl)) _; (with_reducible repeat (first | refine blk_drewN ?_ _ | refine blk_drew ?_ | refine blk_alloc ?_ _)); exact z.out) : p := h
theorem B20x22_ (h : p := by (with_reducible repeat (first | refine blk_drewN ?_ _ | refine blk_drew ?_ | refine blk_alloc ?_ _)); refine blk_far ?_ (by have h_ := Kd.R_ne B.out l.out (by decide); intro e_; exact h_ (by rw [e_]; rfl)) _; (with_reducible repeat (first | refine blk_drewN ?_ _ | refine blk_drew ?_ | refine blk_alloc ?_ _)); exact l.out) : p := h
theorem B20x26_ (h : p := by exact (keep_size (w := w) (g := g) (row := none) (Ak2 HK aa ag))) : p := h
theorem B20x28_ (h : p := by have h_ := IsS107.own_ne q.out B.out (by decide); intro e_; exact h_ (by rw [e_]; rfl)) : p := h
mutual
def spec_l15Any.j1 : Nat → List Int → Int → Int → List (S83) → List (S81) → Option ((List (S83)) × (List (S81)) × Int × Int)
 | 0, _, _, _, _, _ => none
 | k + 1, ci, cM, cO, cj, be => some (cj, be, cM, cO)
def spec_l15Any.l0 : Nat → List Int → Int → Int → List (S83) → List (S81) → Option ((List (S83)) × (List (S81)) × Int × Int)
 | 0, _, _, _, _, _ => none
 | k + 1, ci, cM, cO, cj, be => (spec_l01Below.f ci cM cO 2).bind fun bv => (if (be.length : Int) < (wrap64 (8 + bv.1)) then ((spec_Decimal.f k (be.length : Int)).bind fun aR => (if 1 + aR.size ≤ 9223372036854775807 then (if be.length < 3518437208883 then (spec_l15Any.l0 k ci bv.2.1 bv.2.2 cj (be ++ [(⟨(⟨#[121]⟩ : ByteArray) ++ aR, (⟨#[]⟩ : ByteArray), 1⟩ : S81)])) else (none)) else (none))) else (spec_l15Any.j1 k ci bv.2.1 bv.2.2 cj be))
end
def spec_l15Any.f (k : Nat) (M : List Int) (bP : Int) (bQ : Int) : Option ((List (S83)) × (List (S81)) × Int × Int) := (spec_l15Keep.f k M bP bQ 14).bind fun b5 => ((spec_l15Copy.f b5.1 b5.2.1).bind fun aj => ((spec_l01Below.f M b5.2.2.1 b5.2.2.2 16).bind fun ar => (if ar.1 = 0 then ((spec_l01Pick.f M ar.2.1 ar.2.2 (([(⟨#[]⟩ : ByteArray), (⟨#[122]⟩ : ByteArray), (⟨#[97]⟩ : ByteArray), (⟨#[49, 50, 51, 52, 53, 54, 55, 56, 57]⟩ : ByteArray)] : List ByteArray))).bind fun cx => (if aj.2.length < 3518437208883 then (spec_l15Any.j1 k M cx.2.1 cx.2.2 aj.1 (aj.2 ++ [(⟨cx.1, (⟨#[]⟩ : ByteArray), 1⟩ : S81)])) else (none))) else (if ar.1 = 1 then ((spec_l01Below.f M ar.2.1 ar.2.2 40).bind fun cy => ((spec_l01Below.f M cy.2.1 cy.2.2 2).bind fun cz => (if aj.1.length < 4398046511104 then (spec_l15Any.j1 k M cz.2.1 cz.2.2 (aj.1 ++ [(⟨cy.1, cz.1, (⟨#[120]⟩ : ByteArray)⟩ : S83)]) aj.2) else (none)))) else (if ar.1 = 2 then (if (aj.2.length : Int) > 0 then ((spec_l01PickInt.f M ar.2.1 ar.2.2 (([0, 1, 1000000000, 1000000001] : List Int))).bind fun cA => (if 0 < (aj.2.length : Int) then (spec_l15Any.j1 k M cA.2.1 cA.2.2 aj.1 (aj.2.set (0 : Int).toNat (⟨(rd_T81 aj.2 0).f0, (rd_T81 aj.2 0).f1, cA.1⟩ : S81))) else (none))) else (spec_l15Any.j1 k M ar.2.1 ar.2.2 aj.1 aj.2)) else (if ar.1 = 3 then (if (aj.2.length : Int) > 0 then ((spec_l01Below.f M ar.2.1 ar.2.2 2).bind fun cB => ((spec_l01Long.f k (wrap64 (20 + cB.1)) 65).bind fun ba => (if 0 < (aj.2.length : Int) then (spec_l15Any.j1 k M cB.2.1 cB.2.2 aj.1 (aj.2.set (0 : Int).toNat (⟨(rd_T81 aj.2 0).f0, ba, (rd_T81 aj.2 0).f2⟩ : S81))) else (none)))) else (spec_l15Any.j1 k M ar.2.1 ar.2.2 aj.1 aj.2)) else (if ar.1 = 4 then (spec_l15Any.l0 k M ar.2.1 ar.2.2 aj.1 aj.2) else (spec_l15Any.j1 k M ar.2.1 ar.2.2 aj.1 aj.2))))))))
def spec_l15Any.T4 : Bool × List (List Nat × List Nat) := (true, [([], []), ([0], [0]), ([], []), ([], []), ([2, 3], [2, 3]), ([4], [4]), ([5], [5]), ([1, 6, 4], [1, 6]), ([0, 1, 2, 3, 4, 5, 6, 7], []), ([8, 7, 7, 0, 1, 2, 3, 4, 5, 6, 7], [7, 8])])
def spec_l15Any.B4 : List Nat := [0, 1, 0, 0, 12, 28, 60, 127, 255, 511]
theorem spec_l15Any.tab4 : rtab .any (opsOf Try.f57 4) = spec_l15Any.T4 := by kernel_rfl
theorem spec_l15Any.bits4 : waitsOk spec_l15Any.T4.2 spec_l15Any.B4 = true := by kernel_rfl
def spec_l15Any.T6 : Bool × List (List Nat × List Nat) := (true, [([], []), ([0], [0]), ([], []), ([2], [2]), ([], []), ([4, 3], [4]), ([3, 5], [3, 5]), ([6], [6]), ([1, 7, 5], [1, 7]), ([0, 1, 2, 3, 4, 5, 6, 7, 8], []), ([9, 8, 8, 0, 1, 2, 3, 4, 5, 6, 7, 8], [8, 9])])
def spec_l15Any.B6 : List Nat := [0, 1, 0, 4, 0, 28, 60, 124, 255, 511, 1023]
theorem spec_l15Any.tab6 : rtab .any (opsOf Try.f57 6) = spec_l15Any.T6 := by kernel_rfl
theorem spec_l15Any.bits6 : waitsOk spec_l15Any.T6.2 spec_l15Any.B6 = true := by kernel_rfl
def spec_l15Any.T9 : Bool × List (List Nat × List Nat) := (true, [([], []), ([0], [0]), ([], []), ([], []), ([2, 3], [2, 3]), ([1, 0, 1, 2, 3, 4], [1]), ([5, 0, 1, 2, 3, 4], [5]), ([6, 4, 4, 0, 1, 2, 3, 4], [4, 6])])
def spec_l15Any.B9 : List Nat := [0, 1, 0, 0, 12, 31, 63, 127]
theorem spec_l15Any.tab9 : rtab .any (opsOf Try.f57 9) = spec_l15Any.T9 := by kernel_rfl
theorem spec_l15Any.bits9 : waitsOk spec_l15Any.T9.2 spec_l15Any.B9 = true := by kernel_rfl
def spec_l15Any.T12 : Bool × List (List Nat × List Nat) := (true, [([], []), ([0], [0]), ([], []), ([2], [2]), ([3], [3]), ([4, 3], [4]), ([1, 0, 1, 2, 3, 4, 5], [1]), ([6, 0, 1, 2, 3, 4, 5], [6]), ([7, 5, 5, 0, 1, 2, 3, 4, 5], [5, 7])])
def spec_l15Any.B12 : List Nat := [0, 1, 0, 4, 12, 28, 63, 127, 255]
theorem spec_l15Any.tab12 : rtab .any (opsOf Try.f57 12) = spec_l15Any.T12 := by kernel_rfl
theorem spec_l15Any.bits12 : waitsOk spec_l15Any.T12.2 spec_l15Any.B12 = true := by kernel_rfl
def spec_l15Any.T15 : Bool × List (List Nat × List Nat) := (true, [([], []), ([0], [0]), ([], []), ([2], [2]), ([3], [3]), ([4], [4]), ([5], [5]), ([6], [6]), ([7], [7]), ([1, 8, 5], [1, 8]), ([0, 1, 2, 3, 4, 5, 6, 7, 8, 9], []), ([10, 9, 9, 0, 1, 2, 3, 4, 5, 6, 7, 8, 9], [9, 10])])
def spec_l15Any.B15 : List Nat := [0, 1, 0, 4, 12, 28, 60, 124, 252, 511, 1023, 2047]
theorem spec_l15Any.tab15 : rtab .any (opsOf Try.f57 15) = spec_l15Any.T15 := by kernel_rfl
theorem spec_l15Any.bits15 : waitsOk spec_l15Any.T15.2 spec_l15Any.B15 = true := by kernel_rfl
theorem spec_l15Any.calls (k : Nat) (g : Nat) (M : List Int) (bP : Int) (bQ : Int) (r1 : List (S83)) (r2 : List (S81)) (r3 : Int) (r4 : Int) (Y w : World) (hI : IsS107 Y w g M bP bQ) (hB : Below Y.heap.size Y w) (h : spec_l15Any.f k M bP bQ = some (r1, r2, r3, r4)) :
  Calls Try.prog 57 #[.pointer (some ⟨g, 0, none⟩)] w fun e w' => ∃ bV bW : Value, e = .returned (.agg #[bV, bW]) ∧ Kd.R k83 83 w' w.heap.size (fun _ => True) bV r1 ∧ Kd.R k81 81 w' w.heap.size (fun _ => True) bW r2 ∧ IsS107 Y w' g M r3 r4 ∧ Below Y.heap.size Y w' ∧ KeepBut w w' g none := by
 have fu := Try.underlying47
 have gE := Try.underlying81
 have gF := Try.underlying83
 have q := am hI
 have HK := am (KeepBut.refl w g none)
 have HL := am hB.size
 clear hI
 have dd := am hB.size
 have HB := am hB
 clear hB
 have ak := h
 clear h
 unfold spec_l15Any.f at ak
 obtain ⟨⟨cd, ce, bo, bp⟩, A2, ap⟩ := bsi ak
 (try dsimp only at ap)
 obtain ⟨⟨ae, D⟩, A3, a8⟩ := bsi ap
 (try dsimp only at a8)
 obtain ⟨⟨fv, au, av⟩, A4, ay⟩ := bsi a8
 (try dsimp only at ay)
 replace ay := am ay
 clear ak ap a8
 go_enter Try.func57, Try.ntmps57
 go_upto_block 0 with (first | ((with_reducible refine gate_dst (N := 2) rfl ?_); refine bx (N := 2) (cs := #[.slice none 0 0, .slice none 0 0]) (t := 47) ?_; intro bl hg w6 hbox hb; replace HB := De1 HB (IsS107.gf q) hb; have z := am hbox; have aa := gK hg HK; have af := am (Nat.le_trans dd.out (bs hg (keep_size HK.out)) : Y.heap.size ≤ bl); replace HK := Ek0 HK hb; have bk := am (nl hg (IsS107.lt q.out)); have aM := am (ng hg (IsS107.lt q.out)); replace q := am (IsS107.below (by repeat (first | (with_reducible first | exact q.out | apply IsS107.alloc | apply IsS107.drewN | apply IsS107.drew | apply IsS107.set_1 | apply IsS107.set_2) | exact q.out)) hb); clear hb hbox hg) | ((with_reducible refine gate_callee (f := 75) rfl ?_); refine gL (some 5) Try.func75 #[.pointer (some ⟨g, 0, none⟩), .int .i64 14] ?_; refine (spec_l15Keep.calls k g M bP bQ 14 cd ce bo bp Y _ B20x17_ (Ae2 HB (IsS107.gf q) af) A2.out).mono ?_; rintro e w7 ⟨gH, gI, rfl, bm, bn, hi, hb, hk⟩; refine ⟨_, rfl, ?_⟩; replace z := kA hk z aM; have ac := am (Kd.R_lower bm (keep_size (w := w) (g := g) (row := none) (Ak1 HK aa))); have ad := am (Kd.R_lower bn (keep_size (w := w) (g := g) (row := none) (Ak1 HK aa))); replace HK := Dk1 HK aa hk; replace HB := am hb; replace q := am hi; obtain ⟨cR, dx, fj⟩ := Kd.R_slice ac.out; subst fj; obtain ⟨cT, dz, fk⟩ := Kd.R_slice ad.out; subst fk) | ((with_reducible refine gate_callee (f := 58) rfl ?_); refine gL (some 6) Try.func58 #[.agg #[.slice cR cd.length dx, .slice cT ce.length dz]] ?_; (with_reducible refine (spec_l15Copy.calls _ _ cd _ _ ce ae D _ ?z1 ?z2 ?z3 ?z4 A3.out).mono ?_); (case z1 => repeat (first | exact (Kd.R_reads' ac.out).2.2 | (with_reducible refine Kd.C_alloc ?_ _) | (with_reducible refine Kd.C_drewN ?_ _) | (with_reducible refine Kd.C_drew ?_))); (case z2 => exact (Kd.R_reads' ac.out).2.1); (case z3 => repeat (first | exact (Kd.R_reads' ad.out).2.2 | (with_reducible refine Kd.C_alloc ?_ _) | (with_reducible refine Kd.C_drewN ?_ _) | (with_reducible refine Kd.C_drew ?_))); (case z4 => exact (Kd.R_reads' ad.out).2.1); rintro e gX ⟨gJ, gN, rfl, bm, bn, hb⟩; refine ⟨_, rfl, ?_⟩; have U := am (Kd.R_lower (Kd.R_new' bm (Kd.R_lt (Ar ac))) (keep_size (w := w) (g := g) (row := none) (Ak1 HK aa))); replace ac := am (Kd.R_elder' (Ar ac) (Kd.R_base bm) hb); have B := am (Kd.R_lower (Kd.R_new' bn (Kd.R_lt (Ar ad))) (keep_size (w := w) (g := g) (row := none) (Ak1 HK aa))); replace ad := am (Kd.R_elder' (Ar ad) (Kd.R_base bn) hb); replace z := bA z hb; replace HK := Ek1 HK aa hb; replace HB := De2 HB (IsS107.gf q) af hb; replace q := am (IsS107.below B20x17_ hb)) | ((with_reducible refine gate_dst (N := 3) rfl ?_); refine bx (N := 3) (cs := #[.slice none 0 0, .slice none 0 0]) (t := 47) ?_; intro ao hg gY hbox hb; replace ac := rA ac hb; replace ad := rA ad hb; replace U := rA U hb; replace B := rA B hb; replace HB := De2 HB (IsS107.gf q) af hb; have l := am hbox; have ag := gK hg HK; have ai := am (Nat.le_trans dd.out (bs hg (keep_size HK.out)) : Y.heap.size ≤ ao); replace HK := Ek1 HK aa hb; have aC := nA hg z; have aQ := mA hg z; replace z := bA z hb; have aK := am (nl hg (IsS107.lt q.out)); have aA := am (ng hg (IsS107.lt q.out)); replace q := am (IsS107.below B20x17_ hb); clear hb hbox hg; obtain ⟨aw, ax, fg⟩ := Kd.R_slice U.out; subst fg; have fX := aQ.out; have gb := aC.out; have fY := aA.out; have gg := aK.out; obtain ⟨bX, bY, bZ, b0⟩ := cf2 l; obtain ⟨aE, aB, fh⟩ := Kd.R_slice B.out; subst fh) | ((with_reducible refine gate_callee (f := 41) rfl ?_); refine gM (some 8) Try.func41 (spec_l01Below.calls g M bo bp 16 fv au av Y _ B20x0_ (Ae3 HB (IsS107.gf q) af ai) A4.out) ?_; rintro ch ⟨hi, hb, hk⟩; replace z := am (KeepBut.blk hk (g' := bl) (o := .cells #[.slice none 0 0, .slice none 0 0] 47 (0, 0)) (Ap1 z aC) aM.out (by simp)); replace ac := am (Kd.R_mono (Kd.R_keep (IsS107.apart (show IsS107 Y _ g M bo bp from B20x0_) (tfr ac.out l.out (by decide)) (by decide)) hk (fun _ h => h.2)) (fun _ h => h.1)); replace ad := am (Kd.R_mono (Kd.R_keep (IsS107.apart (show IsS107 Y _ g M bo bp from B20x0_) (tfr ad.out l.out (by decide)) (by decide)) hk (fun _ h => h.2)) (fun _ h => h.1)); replace U := am (Kd.R_mono (Kd.R_keep (IsS107.apart (show IsS107 Y _ g M bo bp from B20x0_) (tfr U.out l.out (by decide)) (by decide)) hk (fun _ h => h.2)) (fun _ h => h.1)); replace B := am (Kd.R_mono (Kd.R_keep (IsS107.apart (show IsS107 Y _ g M bo bp from B20x0_) (tfr B.out l.out (by decide)) (by decide)) hk (fun _ h => h.2)) (fun _ h => h.1)); replace l := am (KeepBut.blk hk (g' := ao) (o := .cells #[.slice aw ae.length ax, .slice aE D.length aB] 47 (0, 0)) (Ap0 l) aA.out (by simp)); replace HK := Dk2 HK aa ag hk; replace HB := am hb; replace q := am hi))
 (try simp only [Act.put, List.setIfInBounds_toArray, List.set_cons_zero, List.set_cons_succ])
 go_cut [] (fun wc => ∃ (kq : Nat) (cN : Int) (cP : Int) (ck : List (S83)) (cl : List (S81)) (cL : Value) (bd : Value), Aside0 (spec_l15Any.j1 kq M cN cP ck cl = some (r1, r2, r3, r4)) ∧ Aside0 (kq ≤ k) ∧ Aside0 (Kd.R k83 83 wc w.heap.size (fun _ => True) cL ck) ∧ Aside0 (Kd.R k81 81 wc w.heap.size (fun _ => True) bd cl) ∧ Hc wc bl #[(.slice none 0 0), (.slice none 0 0)] 47 ∧ Hc wc ao #[cL, bd] 47 ∧ Aside0 (IsS107 Y wc g M cN cP) ∧ Hk w wc g ∧ Hb Y wc)
 case first =>
  replace ay := ay.out
  obtain ⟨b6, az⟩ | ⟨b6, az⟩ := sp ay
  ·obtain ⟨bw, eX⟩ := yE b6; clear b6
   (first | rw [bw] | (simp only [i64_w, i32_w]; rw [bw]) | skip)
   obtain ⟨eo, bI⟩ : ∃ y_ : List ByteArray, y_ = (([(⟨#[]⟩ : ByteArray), (⟨#[122]⟩ : ByteArray), (⟨#[97]⟩ : ByteArray), (⟨#[49, 50, 51, 52, 53, 54, 55, 56, 57]⟩ : ByteArray)] : List ByteArray)) := ⟨_, rfl⟩
   (first | with_reducible replace az := hq bI az | rw [← bI] at az | simp only [← bI] at az)
   have di := am bI; clear bI; obtain ⟨⟨bR, d9, ea⟩, eu, cv⟩ := bsi az; (try dsimp only at cv); obtain ⟨eP, a9⟩ := ya cv; obtain ⟨ep, bJ⟩ : ∃ y_ : List (S81), y_ = (D ++ [(⟨bR, (⟨#[]⟩ : ByteArray), 1⟩ : S81)]) := ⟨_, rfl⟩
   (first | with_reducible replace a9 := hq bJ a9 | rw [← bJ] at a9 | simp only [← bJ] at a9)
   have eS := am bJ; clear bJ; replace a9 := am a9; clear ay az cv
   try go_wp2
   replace ac := eA ac; replace ad := eA ad; replace U := eA U; replace B := eA B; replace z := dA z; replace l := dA l; replace q := am (IsS107.drew q.out); replace HK := kdr HK; replace HB := bdr HB; refine st_ 10 (fun w' => w'.cell? ⟨ao, 0, none⟩ = some (.slice aw ae.length ax) ∧ w'.cell? ⟨ao, 1, none⟩ = some (.slice aE D.length aB)) [9] spec_l15Any.tab4 spec_l15Any.bits4 D6x2_ (fun Z J aH => ?_); generalize ch.drew = gZ at ac ad U B z l q HK HB Z ⊢; refine pu_ 0 11 J ?_; refine pu_ 2 13 J ?_; refine ta_ 1 12 J aH Z ?_; refine on_ 3 (some 14) J (fun K hK => ?_); refine lS Kd.string 9 14 ([(⟨#[]⟩ : ByteArray), (⟨#[122]⟩ : ByteArray), (⟨#[97]⟩ : ByteArray), (⟨#[49, 50, 51, 52, 53, 54, 55, 56, 57]⟩ : ByteArray)] : List ByteArray) [.string (⟨#[]⟩ : ByteArray), .string (⟨#[122]⟩ : ByteArray), .string (⟨#[97]⟩ : ByteArray), .string (⟨#[49, 50, 51, 52, 53, 54, 55, 56, 57]⟩ : ByteArray)] (Reps.one (show Kd.M Kd.string _ _ _ (⟨#[]⟩ : ByteArray) [.string (⟨#[]⟩ : ByteArray)] from rfl) (Reps.one (show Kd.M Kd.string _ _ _ (⟨#[122]⟩ : ByteArray) [.string (⟨#[122]⟩ : ByteArray)] from rfl) (Reps.one (show Kd.M Kd.string _ _ _ (⟨#[97]⟩ : ByteArray) [.string (⟨#[97]⟩ : ByteArray)] from rfl) (Reps.one (show Kd.M Kd.string _ _ _ (⟨#[49, 50, 51, 52, 53, 54, 55, 56, 57]⟩ : ByteArray) [.string (⟨#[49, 50, 51, 52, 53, 54, 55, 56, 57]⟩ : ByteArray)] from rfl) (Reps.none _ _))))) ?_; intro gO g0 bG hb
   (first | rw [← di.out] at bG | (simp only [Int.reduceToNat] at bG; rw [← di.out] at bG))
   replace ac := rA ac hb; replace ad := rA ad hb; replace U := rA U hb; replace B := rA B hb; have b2 := am (Kd.R_lower bG (keep_size (w := w) (g := g) (row := none) (Ak2 HK aa ag))); replace z := bA z hb; replace l := bA l hb; replace HK := Ek2 HK aa ag hb; replace HB := De3 HB (IsS107.gf q) af ai hb; replace q := am (IsS107.below B20x0_ hb); clear hb bG; obtain ⟨eD, e7, dB⟩ := Kd.R_slice b2.out
   (first | subst dB | (injection dB with f1_ f2_ f3_; have f4_ := f1_.symm; have f5_ := f3_.symm; clear f1_ f2_ f3_; subst f4_; subst f5_))
   refine hK.out _ _ D6x2_ (fun Z => nm_ ?_); clear hK K; refine on_ 4 (some 15) J (fun K hK => ?_); refine gS Try.func88 #[.pointer (some ⟨g, 0, none⟩), .slice eD eo.length e7] ?_
   with_reducible refine (spec_l01Pick.calls g M au av _ _ eo bR d9 ea Y _ ?z1 ?z2 ?z3 ?z4 ?z5 eu.out).mono ?_
   (case z1 => exact B20x0_)
   (case z2 => exact (Ae3 HB (IsS107.gf q) af ai))
   (case z3 => repeat (first | exact (Kd.R_reads' b2.out).2.2 | (with_reducible refine Kd.C_alloc ?_ _) | (with_reducible refine Kd.C_drewN ?_ _) | (with_reducible refine Kd.C_drew ?_)))
   (case z4 => exact (Kd.R_reads' b2.out).2.1)
   (case z5 => exact far_slice (IsS107.own_ne q.out b2.out (by decide)))
   rintro e g1 ⟨rfl, hi, hb, hk⟩; refine ⟨_, rfl, ?_⟩; replace z := kA hk z aM; replace ac := am (Kd.R_mono (Kd.R_keep (IsS107.apart (show IsS107 Y _ g M au av from B20x0_) (Ar ac) (by decide)) hk (fun _ h => h.2)) (fun _ h => h.1)); replace ad := am (Kd.R_mono (Kd.R_keep (IsS107.apart (show IsS107 Y _ g M au av from B20x0_) (Ar ad) (by decide)) hk (fun _ h => h.2)) (fun _ h => h.1)); replace U := am (Kd.R_mono (Kd.R_keep (IsS107.apart (show IsS107 Y _ g M au av from B20x0_) (Ar U) (by decide)) hk (fun _ h => h.2)) (fun _ h => h.1)); replace B := am (Kd.R_mono (Kd.R_keep (IsS107.apart (show IsS107 Y _ g M au av from B20x0_) (Ar B) (by decide)) hk (fun _ h => h.2)) (fun _ h => h.1)); replace l := kA hk l aA; replace HK := Dk2 HK aa ag hk; replace HB := am hb; replace q := am hi; refine hK.out _ _ D6x2_ (fun Z => nm_ ?_); clear hK K; refine pu_ 5 16 J ?_; refine on_ 6 (some 17) J (fun K hK => ?_); refine value_ (w1 := ?_) (v := ?_) (by rfl) rfl ?_ ?_
   rotate_left 2
   ·go_simp
    constructor
    ·rfl
    rfl
   refine hK.out _ _ D6x1_ (fun Z => nm_ ?_); clear hK K; refine on_ 7 (some 18) J (fun K hK => ?_); refine Kd.R_append_step k81 w.heap.size (by rfl) (.tmp 12) (.tmp 17) 45 81 (.agg #[(.string ⟨#[]⟩), (.string ⟨#[]⟩), (.int .i64 0)]) 40 rfl Try.underlying45 info81 rfl (by decide) (by omega) (.slice aE D.length aB) D (⟨bR, (⟨#[]⟩ : ByteArray), 1⟩ : S81) [.string bR, .string (⟨#[]⟩ : ByteArray), .int .i64 1] (fun k_ => some k_ ≠ (.slice cT ce.length dz : Value).ownBlock) (fun _ => False) rfl rfl ?aP (fun _ hk => hk.elim) ?aF ?aO (Below.refl _ _) ?aS ?aL ?_
   (case aP => exact k81_mkM _ _ _ (⟨bR, (⟨#[]⟩ : ByteArray), 1⟩ : S81))
   (case aF => exact (fun k_ hk => Kd.fresh' (Kd.R_lt (Ar ad)) k_ hk))
   (case aO => (with_reducible repeat (first | apply Kd.R_alloc | apply Kd.R_drewN | apply Kd.R_drew)); exact Kd.R_mono B.out (fun _ hk => hk.2))
   (case aS => exact B20x26_)
   (case aL => have := eP.out; omega)
   intro gP fy ho hb hg hat; rw [← eS.out] at ho; replace z := bg z hg (Kd.R_ne B.out z.out (by decide)); replace ac := am (Kd.R_over' (Ar ac) (Kd.R_typed (Ar B)) (by decide) hg); replace ad := am (Kd.R_after (ok := (fun _ => True)) (Ar ad) hg hat); replace U := am (Kd.R_over' (Ar U) (Kd.R_typed (Ar B)) (by decide) hg); replace l := bg l hg (Kd.R_ne B.out l.out (by decide)); replace HB := am (below_weaken (Ae3 HB (IsS107.gf q) af ai) HL.out hb); replace q := am (IsS107.grown B20x14_ hg (IsS107.own_ne q.out B.out (by decide))); replace HK := am (KeepBut.trans (Ak2 HK aa ag) (KeepBut.of_grown hg g) (Kd.R_base2 B.out)); have cY := am ho; clear B; clear ho hb hg hat; obtain ⟨eE, e8, dC⟩ := Kd.R_slice cY.out
   (first | subst dC | (injection dC with f1_ f2_ f3_; have f4_ := f1_.symm; have f5_ := f3_.symm; clear f1_ f2_ f3_; subst f4_; subst f5_))
   refine hK.out _ _ D6x2_ (fun Z => nm_ ?_); clear hK K; refine pu_ 8 19 J ?_; refine last_ (i := 9) (N := none) #[true, true, true, true, true, true, true, true, true, true] rfl rfl (one_of J.out gk_) (by decide) (fun K hK => ?_)
   have gB : fy.cell? ⟨ao, 1, none⟩ = some (.slice aE D.length aB) := bc l 1
   have fR := blk_frozen l.out 1; obtain ⟨gw, fU⟩ := o2_ aC aQ; refine skip_ (w1 := ?_) (by rfl) rfl ?_ ?_; rotate_left
   ·go_simp; rfl
   refine hK.out _ _ ?_; clear hK K; refine done_ (done_of J.out gk_) ?_
   try go_wp2
   go_meet
   case rel => exact ⟨_, d9, ea, ae, ep, (.slice aw ae.length ax), (.slice eE ep.length e8), a9, ⟨gl_⟩, ⟨tfg U.out l.out (by decide)⟩, ⟨tfg cY.out l.out (by decide)⟩, Cp1 z aC, Cp0 l, D6x0_⟩
  obtain ⟨bw, eX⟩ := nE b6
  (first | rw [bw] | (simp only [i64_w, i32_w]; rw [bw]) | skip)
  obtain ⟨bz, aJ⟩ | ⟨bz, aJ⟩ := sp az
  ·obtain ⟨dl, dm⟩ := yE bz; clear bz; obtain ⟨⟨bS, bq, br⟩, ev, cw⟩ := bsi aJ; (try dsimp only at cw); obtain ⟨⟨bT, eb, ec⟩, ew, cp⟩ := bsi cw; (try dsimp only at cp); obtain ⟨eQ, aZ⟩ := ya cp; obtain ⟨eq, bK⟩ : ∃ y_ : List (S83), y_ = (ae ++ [(⟨bS, bT, (⟨#[120]⟩ : ByteArray)⟩ : S83)]) := ⟨_, rfl⟩
   (first | with_reducible replace aZ := hq bK aZ | rw [← bK] at aZ | simp only [← bK] at aZ)
   have eT := am bK; clear bK; replace aZ := am aZ; clear ay az aJ cw cp
   try go_wp2
   replace ac := eA ac; replace ad := eA ad; replace U := eA U; replace B := eA B; replace z := dA z; replace l := dA l; replace q := am (IsS107.drew q.out); replace HK := kdr HK; replace HB := bdr HB; refine st_ 11 (fun w' => w'.cell? ⟨ao, 0, none⟩ = some (.slice aw ae.length ax) ∧ w'.cell? ⟨ao, 1, none⟩ = some (.slice aE D.length aB)) [10] spec_l15Any.tab6 spec_l15Any.bits6 D6x2_ (fun Z J aH => ?_); generalize ch.drew = g2 at ac ad U B z l q HK HB Z ⊢; refine pu_ 0 22 J ?_; refine pu_ 2 24 J ?_; refine pu_ 4 26 J ?_; refine ta_ 1 23 J aH Z ?_; refine on_ 3 (some 25) J (fun K hK => ?_); refine gT Try.func41 (spec_l01Below.calls g M au av 40 bS bq br Y _ B20x0_ (Ae3 HB (IsS107.gf q) af ai) ev.out) ?_; rintro g3 ⟨hi, hb, hk⟩; replace z := kA hk z aM; replace ac := am (Kd.R_mono (Kd.R_keep (IsS107.apart (show IsS107 Y _ g M au av from B20x0_) (Ar ac) (by decide)) hk (fun _ h => h.2)) (fun _ h => h.1)); replace ad := am (Kd.R_mono (Kd.R_keep (IsS107.apart (show IsS107 Y _ g M au av from B20x0_) (Ar ad) (by decide)) hk (fun _ h => h.2)) (fun _ h => h.1)); replace U := am (Kd.R_mono (Kd.R_keep (IsS107.apart (show IsS107 Y _ g M au av from B20x0_) (Ar U) (by decide)) hk (fun _ h => h.2)) (fun _ h => h.1)); replace B := am (Kd.R_mono (Kd.R_keep (IsS107.apart (show IsS107 Y _ g M au av from B20x0_) (Ar B) (by decide)) hk (fun _ h => h.2)) (fun _ h => h.1)); replace l := kA hk l aA; replace HK := Dk2 HK aa ag hk; replace HB := am hb; replace q := am hi; refine hK.out _ _ D6x2_ (fun Z => nm_ ?_); clear hK K; refine on_ 5 (some 27) J (fun K hK => ?_); refine gT Try.func41 (spec_l01Below.calls g M bq br 2 bT eb ec Y _ B20x0_ (Ae3 HB (IsS107.gf q) af ai) ew.out) ?_; rintro g4 ⟨hi, hb, hk⟩; replace z := kA hk z aM; replace ac := am (Kd.R_mono (Kd.R_keep (IsS107.apart (show IsS107 Y _ g M bq br from B20x0_) (Ar ac) (by decide)) hk (fun _ h => h.2)) (fun _ h => h.1)); replace ad := am (Kd.R_mono (Kd.R_keep (IsS107.apart (show IsS107 Y _ g M bq br from B20x0_) (Ar ad) (by decide)) hk (fun _ h => h.2)) (fun _ h => h.1)); replace U := am (Kd.R_mono (Kd.R_keep (IsS107.apart (show IsS107 Y _ g M bq br from B20x0_) (Ar U) (by decide)) hk (fun _ h => h.2)) (fun _ h => h.1)); replace B := am (Kd.R_mono (Kd.R_keep (IsS107.apart (show IsS107 Y _ g M bq br from B20x0_) (Ar B) (by decide)) hk (fun _ h => h.2)) (fun _ h => h.1)); replace l := kA hk l aA; replace HK := Dk2 HK aa ag hk; replace HB := am hb; replace q := am hi; refine hK.out _ _ D6x2_ (fun Z => nm_ ?_); clear hK K; refine pu_ 6 28 J ?_; refine on_ 7 (some 29) J (fun K hK => ?_); refine value_ (w1 := ?_) (v := ?_) (by rfl) rfl ?_ ?_
   rotate_left 2
   ·go_simp
    constructor
    ·rfl
    rfl
   refine hK.out _ _ D6x1_ (fun Z => nm_ ?_); clear hK K; refine on_ 8 (some 30) J (fun K hK => ?_); refine Kd.R_append_step k83 w.heap.size (by rfl) (.tmp 23) (.tmp 29) 44 83 (.agg #[(.int .i64 0), (.int .i64 0), (.string ⟨#[]⟩)]) 32 rfl Try.underlying44 info83 rfl (by decide) (by omega) (.slice aw ae.length ax) ae (⟨bS, bT, (⟨#[120]⟩ : ByteArray)⟩ : S83) [.int .i64 bS, .int .i64 bT, .string (⟨#[120]⟩ : ByteArray)] (fun k_ => some k_ ≠ (.slice cR cd.length dx : Value).ownBlock) (fun _ => False) rfl rfl ?aP (fun _ hk => hk.elim) ?aF ?aO (Below.refl _ _) ?aS ?aL ?_
   (case aP => exact k83_mkM _ _ _ (⟨bS, bT, (⟨#[120]⟩ : ByteArray)⟩ : S83))
   (case aF => exact (fun k_ hk => Kd.fresh' (Kd.R_lt (Ar ac)) k_ hk))
   (case aO => (with_reducible repeat (first | apply Kd.R_alloc | apply Kd.R_drewN | apply Kd.R_drew)); exact Kd.R_mono U.out (fun _ hk => hk.2))
   (case aS => exact B20x26_)
   (case aL => have := eQ.out; omega)
   intro gQ fz ho hb hg hat; rw [← eT.out] at ho; replace z := bg z hg (Kd.R_ne U.out z.out (by decide)); replace ac := am (Kd.R_after (ok := (fun _ => True)) (Ar ac) hg hat); replace ad := am (Kd.R_over' (Ar ad) (Kd.R_typed (Ar U)) (by decide) hg); replace B := am (Kd.R_over' (Ar B) (Kd.R_typed (Ar U)) (by decide) hg); replace l := bg l hg (Kd.R_ne U.out l.out (by decide)); replace HB := am (below_weaken (Ae3 HB (IsS107.gf q) af ai) HL.out hb); replace q := am (IsS107.grown B20x14_ hg (IsS107.own_ne q.out U.out (by decide))); replace HK := am (KeepBut.trans (Ak2 HK aa ag) (KeepBut.of_grown hg g) (Kd.R_base2 U.out)); have cZ := am ho; clear U; clear ho hb hg hat; obtain ⟨eF, e9, dD⟩ := Kd.R_slice cZ.out
   (first | subst dD | (injection dD with f1_ f2_ f3_; have f4_ := f1_.symm; have f5_ := f3_.symm; clear f1_ f2_ f3_; subst f4_; subst f5_))
   refine hK.out _ _ D6x2_ (fun Z => nm_ ?_); clear hK K; refine pu_ 9 31 J ?_; refine last_ (i := 10) (N := none) #[true, true, true, true, true, true, true, true, true, true, true] rfl rfl (one_of J.out gk_) (by decide) (fun K hK => ?_)
   have gC : fz.cell? ⟨ao, 0, none⟩ = some (.slice aw ae.length ax) := bc l 0
   have fS := blk_frozen l.out 0; obtain ⟨gx, fV⟩ := o2_ aC aQ; refine skip_ (w1 := ?_) (by rfl) rfl ?_ ?_; rotate_left
   ·go_simp; rfl
   refine hK.out _ _ ?_; clear hK K; refine done_ (done_of J.out gk_) ?_
   try go_wp2
   go_meet
   case rel => exact ⟨_, eb, ec, eq, D, (.slice eF eq.length e9), (.slice aE D.length aB), aZ, ⟨gl_⟩, ⟨tfg cZ.out l.out (by decide)⟩, ⟨tfg B.out l.out (by decide)⟩, Cp1 z aC, Cp0 l, D6x0_⟩
  obtain ⟨dl, dm⟩ := nE bz
  obtain ⟨bB, aN⟩ | ⟨bB, aN⟩ := sp aJ
  ·obtain ⟨dn, dp⟩ := yE bB; clear bB
   obtain ⟨bC, aI⟩ | ⟨bC, aI⟩ := sp aN
   ·have eY : decide (0 < (D.length : Int)) = true := decide_eq_true bC
    have eZ : decide (0 < D.length) = true := decide_eq_true (by omega)
    clear bC; obtain ⟨er, bL⟩ : ∃ y_ : List Int, y_ = (([0, 1, 1000000000, 1000000001] : List Int)) := ⟨_, rfl⟩
    (first | with_reducible replace aI := hq bL aI | rw [← bL] at aI | simp only [← bL] at aI)
    have dj := am bL; clear bL; obtain ⟨⟨bU, ed, ee⟩, ex, cq⟩ := bsi aI; (try dsimp only at cq); obtain ⟨dq, a3⟩ := yn cq; have fF := decide_eq_true dq
    have fG : decide (0 < D.length) = true := decide_eq_true (by omega)
    clear dq; obtain ⟨fC, bM⟩ : ∃ y_ : List (S81), y_ = (D.set (0 : Int).toNat (⟨(rd_T81 D 0).f0, (rd_T81 D 0).f1, bU⟩ : S81)) := ⟨_, rfl⟩
    (first | with_reducible replace a3 := hq bM a3 | rw [← bM] at a3 | simp only [← bM] at a3)
    have eU := am bM; clear bM; replace a3 := am a3; clear ay az aJ aN aI cq; obtain ⟨fZ, gh, f0, gi⟩ := o4_ aQ aC aA aK; obtain ⟨bX, bY, bZ, b0⟩ := cf2 l
    try go_wp2
    replace ac := eA ac; replace ad := eA ad; replace U := eA U; replace B := eA B; replace z := dA z; replace l := dA l; replace q := am (IsS107.drew q.out); replace HK := kdr HK; replace HB := bdr HB; refine st_ 8 (fun w' => w'.cell? ⟨ao, 0, none⟩ = some (.slice aw ae.length ax) ∧ w'.cell? ⟨ao, 1, none⟩ = some (.slice aE D.length aB)) [7] spec_l15Any.tab9 spec_l15Any.bits9 D6x2_ (fun Z J aH => ?_); generalize ch.drew = g5 at ac ad U B z l q HK HB Z ⊢; refine pu_ 0 38 J ?_; refine pu_ 2 40 J ?_; refine ta_ 1 39 J aH Z ?_; refine on_ 3 (some 41) J (fun K hK => ?_); refine lS (Kd.int .i64) 3 41 ([0, 1, 1000000000, 1000000001] : List Int) [.int .i64 0, .int .i64 1, .int .i64 1000000000, .int .i64 1000000001] (Reps.one (show Kd.M (Kd.int .i64) _ _ _ 0 [.int .i64 0] from rfl) (Reps.one (show Kd.M (Kd.int .i64) _ _ _ 1 [.int .i64 1] from rfl) (Reps.one (show Kd.M (Kd.int .i64) _ _ _ 1000000000 [.int .i64 1000000000] from rfl) (Reps.one (show Kd.M (Kd.int .i64) _ _ _ 1000000001 [.int .i64 1000000001] from rfl) (Reps.none _ _))))) ?_; intro gR g6 bH hb
    (first | rw [← dj.out] at bH | (simp only [Int.reduceToNat] at bH; rw [← dj.out] at bH))
    replace U := rA U hb; replace B := rA B hb; have b3 := am (Kd.R_lower bH (keep_size (w := w) (g := g) (row := none) (Ak2 HK aa ag))); replace z := bA z hb; replace l := bA l hb; replace HK := Ek2 HK aa ag hb; replace HB := De3 HB (IsS107.gf q) af ai hb; replace q := am (IsS107.below B20x0_ hb); clear hb bH; obtain ⟨eG, fa, dF⟩ := Kd.R_slice b3.out
    (first | subst dF | (injection dF with f1_ f2_ f3_; have f4_ := f1_.symm; have f5_ := f3_.symm; clear f1_ f2_ f3_; subst f4_; subst f5_))
    refine hK.out _ _ D6x2_ (fun Z => nm_ ?_); clear hK K; refine on_ 4 (some 42) J (fun K hK => ?_); refine gS Try.func80 #[.pointer (some ⟨g, 0, none⟩), .slice eG er.length fa] ?_
    with_reducible refine (spec_l01PickInt.calls g M au av _ _ er bU ed ee Y _ ?z1 ?z2 ?z3 ?z4 ?z5 ex.out).mono ?_
    (case z1 => exact B20x0_)
    (case z2 => exact (Ae3 HB (IsS107.gf q) af ai))
    (case z3 => repeat (first | exact (Kd.R_reads' b3.out).2.2 | (with_reducible refine Kd.C_alloc ?_ _) | (with_reducible refine Kd.C_drewN ?_ _) | (with_reducible refine Kd.C_drew ?_)))
    (case z4 => exact (Kd.R_reads' b3.out).2.1)
    (case z5 => exact far_slice (IsS107.own_ne q.out b3.out (by decide)))
    rintro e g7 ⟨rfl, hi, hb, hk⟩; refine ⟨_, rfl, ?_⟩; replace z := kA hk z aM; replace U := am (Kd.R_mono (Kd.R_keep (IsS107.apart (show IsS107 Y _ g M au av from B20x0_) (Ar U) (by decide)) hk (fun _ h => h.2)) (fun _ h => h.1)); replace B := am (Kd.R_mono (Kd.R_keep (IsS107.apart (show IsS107 Y _ g M au av from B20x0_) (Ar B) (by decide)) hk (fun _ h => h.2)) (fun _ h => h.1)); replace l := kA hk l aA; replace HK := Dk2 HK aa ag hk; replace HB := am hb; replace q := am hi
    have cF : 0 ≤ (0 : Int) := (by omega)
    have cH : (0 : Int) < ((D.length : Int) : Int) := dga
    have qi43 : (0 < D.length) = True := eq_true (by omega)
    obtain ⟨aW, fP, dE, dL, fo, cl43, cW⟩ := Kd.R_form B.out (by omega)
    (first | cases dE | (injection dE with ea_ en_ ec_; (first | subst ea_ | (injection ea_ with ea_; subst ea_)); subst ec_; clear en_))
    have cU := am dL; have eL := am cW; clear dL fo cW; obtain ⟨fL, fq, dN, b8, ca⟩ := Kd.R_elem B.out z81 (0 : Int) cF cH; obtain rfl := k81_openM dN
    have d3 : World.cell? _ ⟨aW, (0 : Int).toNat * 3, none⟩ = some (.string ((rd_T81 D 0).f0)) := b8 0 _ rfl
    have d4 : World.cell? _ ⟨aW, (0 : Int).toNat * 3 + 1, none⟩ = some (.string ((rd_T81 D 0).f1)) := b8 1 _ rfl
    have d5 : World.cell? _ ⟨aW, (0 : Int).toNat * 3 + 2, none⟩ = some (.int .i64 ((rd_T81 D 0).f2)) := b8 2 _ rfl
    have dW : World.frozen? _ ⟨aW, (0 : Int).toNat * 3, none⟩ = false := ca 0
    have dX : World.frozen? _ ⟨aW, (0 : Int).toNat * 3 + 1, none⟩ = false := ca 1
    have dY : World.frozen? _ ⟨aW, (0 : Int).toNat * 3 + 2, none⟩ = false := ca 2
    clear fq b8 ca dN; (try rw [show ((0 : Int)).toNat = 0 from rfl] at d3); (try simp only [Nat.reduceMul, Nat.zero_mul, Nat.zero_add, Nat.reduceAdd] at d3); (try rw [show ((0 : Int)).toNat = 0 from rfl] at dW); (try simp only [Nat.reduceMul, Nat.zero_mul, Nat.zero_add, Nat.reduceAdd] at dW); (try rw [show ((0 : Int)).toNat = 0 from rfl] at d4); (try simp only [Nat.reduceMul, Nat.zero_mul, Nat.zero_add, Nat.reduceAdd] at d4); (try rw [show ((0 : Int)).toNat = 0 from rfl] at dX); (try simp only [Nat.reduceMul, Nat.zero_mul, Nat.zero_add, Nat.reduceAdd] at dX); (try rw [show ((0 : Int)).toNat = 0 from rfl] at d5); (try simp only [Nat.reduceMul, Nat.zero_mul, Nat.zero_add, Nat.reduceAdd] at d5); (try rw [show ((0 : Int)).toNat = 0 from rfl] at dY); (try simp only [Nat.reduceMul, Nat.zero_mul, Nat.zero_add, Nat.reduceAdd] at dY); replace cF := eq_true cF; replace cH := eq_true cH; have HN0_go43 := am (show g ≠ aW from B20x28_); obtain ⟨fM, dU, dO, dS, fs⟩ := Kd.R_elem B.out z81 (0 : Int) (by omega) (by have h_ : (0 : Int) < ((D.length : Int) : Int) := dga; first | exact h_ | (have e_ := (Kd.R_reads' B.out).1; omega) | simpa using h_); obtain rfl := k81_openM dO; have cn := (Kd.R_seg B.out (0 : Int) (by omega) (by have h_ : (0 : Int) < ((D.length : Int) : Int) := dga; first | exact h_ | (have e_ := (Kd.R_reads' B.out).1; omega) | simpa using h_) (seg := [.int .i64 bU]) (j := 2) dU dS (show 3 ≤ 3 from (by decide)) (x' := (⟨(rd_T81 D 0).f0, (rd_T81 D 0).f1, bU⟩ : S81)) (k81_mkM _ _ _ (⟨(rd_T81 D 0).f0, (rd_T81 D 0).f1, bU⟩ : S81) ) (fun _ hk => hk)).1; rw [← eU.out] at cn; have HQ52 := am cn; clear dU dS fs dO cn; refine hK.out _ _ D6x2_ (fun Z => nm_ ?_); clear hK K; refine pu_ 5 43 J ?_; refine pu_ 6 44 J ?_; refine last_ (i := 7) (N := none) #[true, true, true, true, true, true, true, true] rfl rfl (one_of J.out gk_) (by decide) (fun K hK => ?_); refine skip_ (w1 := ?_) (by rfl) rfl ?_ ?_; rotate_left
    ·go_simp; rfl
    refine hK.out _ _ ?_; clear hK K; refine done_ (done_of J.out gk_) ?_
    try go_wp2
    go_meet
    case rel => exact ⟨_, ed, ee, ae, fC, (.slice aw ae.length ax), (.slice (some ⟨aW, 0, none⟩) D.length aB), a3, ⟨gl_⟩, ⟨tfg U.out eL.out (by decide)⟩, ⟨(by (with_reducible repeat (first | apply Kd.R_alloc | apply Kd.R_drewN | apply Kd.R_drew)); exact Kd.R_mono HQ52.out (fun _ hk => trivial))⟩, ⟨B20x21_⟩, ⟨B20x22_⟩, ⟨(by repeat (first | (with_reducible first | exact q.out | apply IsS107.alloc | apply IsS107.drewN | apply IsS107.drew | apply IsS107.set_1 | apply IsS107.set_2 | refine IsS107.far ?_ HN0_go43.out _ | refine IsS107.far ?_ bk.out _ | refine IsS107.far ?_ aK.out _) | exact q.out))⟩, Ck3 HK cU aa ag, Ce4 HB (am (Nat.le_trans HL.out cU.out)) (IsS107.gf q) af ai⟩
   have eY : decide (0 < (D.length : Int)) = false := decide_eq_false bC
   have eZ : decide (0 < D.length) = false := decide_eq_false (by omega)
   clear bC; replace aI := am aI; clear ay az aJ aN; obtain ⟨f1, gj, f2, gl⟩ := o4_ aQ aC aA aK; obtain ⟨bX, bY, bZ, b0⟩ := cf2 l
   go_wp2
   go_meet
   case rel => exact ⟨_, au, av, ae, D, (.slice aw ae.length ax), (.slice aE D.length aB), aI, ⟨gl_⟩, ⟨B20x19_⟩, ⟨B20x20_⟩, Cb z, Cb l, D6x0_⟩
  obtain ⟨dn, dp⟩ := nE bB
  obtain ⟨bD, a4⟩ | ⟨bD, a4⟩ := sp aN
  ·obtain ⟨dr, dt⟩ := yE bD; clear bD
   obtain ⟨bE, bh⟩ | ⟨bE, bh⟩ := sp a4
   ·have e1 : decide (0 < (D.length : Int)) = true := decide_eq_true bE
    have e2 : decide (0 < D.length) = true := decide_eq_true (by omega)
    clear bE; obtain ⟨⟨ef, eg, eh⟩, ey, cr⟩ := bsi bh; (try dsimp only at cr); obtain ⟨ba, ez, ct⟩ := bsi cr; (try dsimp only at ct); obtain ⟨du, a5⟩ := yn ct; have fH := decide_eq_true du
    have fI : decide (0 < D.length) = true := decide_eq_true (by omega)
    clear du; obtain ⟨fD, bN⟩ : ∃ y_ : List (S81), y_ = (D.set (0 : Int).toNat (⟨(rd_T81 D 0).f0, ba, (rd_T81 D 0).f2⟩ : S81)) := ⟨_, rfl⟩
    (first | with_reducible replace a5 := hq bN a5 | rw [← bN] at a5 | simp only [← bN] at a5)
    have eV := am bN; clear bN; replace a5 := am a5; clear ay az aJ aN a4 bh cr ct; obtain ⟨f3, gm, f4, gn⟩ := o4_ aQ aC aA aK; obtain ⟨bX, bY, bZ, b0⟩ := cf2 l
    try go_wp2
    replace ac := eA ac; replace ad := eA ad; replace U := eA U; replace B := eA B; replace z := dA z; replace l := dA l; replace q := am (IsS107.drew q.out); replace HK := kdr HK; replace HB := bdr HB; refine st_ 9 (fun w' => w'.cell? ⟨ao, 0, none⟩ = some (.slice aw ae.length ax) ∧ w'.cell? ⟨ao, 1, none⟩ = some (.slice aE D.length aB)) [8] spec_l15Any.tab12 spec_l15Any.bits12 D6x2_ (fun Z J aH => ?_); generalize ch.drew = g8 at ac ad U B z l q HK HB Z ⊢; refine pu_ 0 51 J ?_; refine pu_ 2 53 J ?_; refine ta_ 1 52 J aH Z ?_; refine on_ 3 (some 54) J (fun K hK => ?_); refine gT Try.func41 (spec_l01Below.calls g M au av 2 ef eg eh Y _ B20x0_ (Ae3 HB (IsS107.gf q) af ai) ey.out) ?_; rintro g9 ⟨hi, hb, hk⟩; replace z := kA hk z aM; replace U := am (Kd.R_mono (Kd.R_keep (IsS107.apart (show IsS107 Y _ g M au av from B20x0_) (Ar U) (by decide)) hk (fun _ h => h.2)) (fun _ h => h.1)); replace B := am (Kd.R_mono (Kd.R_keep (IsS107.apart (show IsS107 Y _ g M au av from B20x0_) (Ar B) (by decide)) hk (fun _ h => h.2)) (fun _ h => h.1)); replace l := kA hk l aA; replace HK := Dk2 HK aa ag hk; replace HB := am hb; replace q := am hi; refine hK.out _ _ D6x2_ (fun Z => nm_ ?_); clear hK K; refine pu_ 4 55 J ?_; refine on_ 5 (some 56) J (fun K hK => ?_); refine gT Try.func81 (spec_l01Long.calls k (wrap64 (20 + ef)) 65 ba _ ez.out) ?_; rintro ha hb; replace U := rA U hb; replace B := rA B hb; replace z := bA z hb; replace l := bA l hb; replace HK := Ek2 HK aa ag hb; replace HB := De3 HB (IsS107.gf q) af ai hb; replace q := am (IsS107.below B20x0_ hb)
    have cG : 0 ≤ (0 : Int) := (by omega)
    have cI : (0 : Int) < ((D.length : Int) : Int) := dga
    have qi61 : (0 < D.length) = True := eq_true (by omega)
    obtain ⟨aX, fQ, dG, dM, fp, cl61, cX⟩ := Kd.R_form B.out (by omega)
    (first | cases dG | (injection dG with ea_ en_ ec_; (first | subst ea_ | (injection ea_ with ea_; subst ea_)); subst ec_; clear en_))
    have cV := am dM; have eM := am cX; clear dM fp cX; obtain ⟨fN, fr, dP, b9, cc⟩ := Kd.R_elem B.out z81 (0 : Int) cG cI; obtain rfl := k81_openM dP
    have d6 : World.cell? _ ⟨aX, (0 : Int).toNat * 3, none⟩ = some (.string ((rd_T81 D 0).f0)) := b9 0 _ rfl
    have d7 : World.cell? _ ⟨aX, (0 : Int).toNat * 3 + 1, none⟩ = some (.string ((rd_T81 D 0).f1)) := b9 1 _ rfl
    have d8 : World.cell? _ ⟨aX, (0 : Int).toNat * 3 + 2, none⟩ = some (.int .i64 ((rd_T81 D 0).f2)) := b9 2 _ rfl
    have dZ : World.frozen? _ ⟨aX, (0 : Int).toNat * 3, none⟩ = false := cc 0
    have d0 : World.frozen? _ ⟨aX, (0 : Int).toNat * 3 + 1, none⟩ = false := cc 1
    have d1 : World.frozen? _ ⟨aX, (0 : Int).toNat * 3 + 2, none⟩ = false := cc 2
    clear fr b9 cc dP; (try rw [show ((0 : Int)).toNat = 0 from rfl] at d6); (try simp only [Nat.reduceMul, Nat.zero_mul, Nat.zero_add, Nat.reduceAdd] at d6); (try rw [show ((0 : Int)).toNat = 0 from rfl] at dZ); (try simp only [Nat.reduceMul, Nat.zero_mul, Nat.zero_add, Nat.reduceAdd] at dZ); (try rw [show ((0 : Int)).toNat = 0 from rfl] at d7); (try simp only [Nat.reduceMul, Nat.zero_mul, Nat.zero_add, Nat.reduceAdd] at d7); (try rw [show ((0 : Int)).toNat = 0 from rfl] at d0); (try simp only [Nat.reduceMul, Nat.zero_mul, Nat.zero_add, Nat.reduceAdd] at d0); (try rw [show ((0 : Int)).toNat = 0 from rfl] at d8); (try simp only [Nat.reduceMul, Nat.zero_mul, Nat.zero_add, Nat.reduceAdd] at d8); (try rw [show ((0 : Int)).toNat = 0 from rfl] at d1); (try simp only [Nat.reduceMul, Nat.zero_mul, Nat.zero_add, Nat.reduceAdd] at d1); replace cG := eq_true cG; replace cI := eq_true cI; have HN0_go61 := am (show g ≠ aX from B20x28_); obtain ⟨fO, dV, dQ, dT, ft⟩ := Kd.R_elem B.out z81 (0 : Int) (by omega) (by have h_ : (0 : Int) < ((D.length : Int) : Int) := dga; first | exact h_ | (have e_ := (Kd.R_reads' B.out).1; omega) | simpa using h_); obtain rfl := k81_openM dQ; have co := (Kd.R_seg B.out (0 : Int) (by omega) (by have h_ : (0 : Int) < ((D.length : Int) : Int) := dga; first | exact h_ | (have e_ := (Kd.R_reads' B.out).1; omega) | simpa using h_) (seg := [.string ba]) (j := 1) dV dT (show 2 ≤ 3 from (by decide)) (x' := (⟨(rd_T81 D 0).f0, ba, (rd_T81 D 0).f2⟩ : S81)) (k81_mkM _ _ _ (⟨(rd_T81 D 0).f0, ba, (rd_T81 D 0).f2⟩ : S81) ) (fun _ hk => hk)).1; rw [← eV.out] at co; have HQ68 := am co; clear dV dT ft dQ co; refine hK.out _ _ D6x2_ (fun Z => nm_ ?_); clear hK K; refine pu_ 6 57 J ?_; refine pu_ 7 58 J ?_; refine last_ (i := 8) (N := none) #[true, true, true, true, true, true, true, true, true] rfl rfl (one_of J.out gk_) (by decide) (fun K hK => ?_); refine skip_ (w1 := ?_) (by rfl) rfl ?_ ?_; rotate_left
    ·go_simp; rfl
    refine hK.out _ _ ?_; clear hK K; refine done_ (done_of J.out gk_) ?_
    try go_wp2
    go_meet
    case rel => exact ⟨_, eg, eh, ae, fD, (.slice aw ae.length ax), (.slice (some ⟨aX, 0, none⟩) D.length aB), a5, ⟨gl_⟩, ⟨tfg U.out eM.out (by decide)⟩, ⟨(by (with_reducible repeat (first | apply Kd.R_alloc | apply Kd.R_drewN | apply Kd.R_drew)); exact Kd.R_mono HQ68.out (fun _ hk => trivial))⟩, ⟨B20x21_⟩, ⟨B20x22_⟩, ⟨(by repeat (first | (with_reducible first | exact q.out | apply IsS107.alloc | apply IsS107.drewN | apply IsS107.drew | apply IsS107.set_1 | apply IsS107.set_2 | refine IsS107.far ?_ HN0_go61.out _ | refine IsS107.far ?_ bk.out _ | refine IsS107.far ?_ aK.out _) | exact q.out))⟩, Ck3 HK cV aa ag, Ce4 HB (am (Nat.le_trans HL.out cV.out)) (IsS107.gf q) af ai⟩
   have e1 : decide (0 < (D.length : Int)) = false := decide_eq_false bE
   have e2 : decide (0 < D.length) = false := decide_eq_false (by omega)
   clear bE; replace bh := am bh; clear ay az aJ aN a4; obtain ⟨f5, gp, f6, gq⟩ := o4_ aQ aC aA aK; obtain ⟨bX, bY, bZ, b0⟩ := cf2 l
   go_wp2
   go_meet
   case rel => exact ⟨_, au, av, ae, D, (.slice aw ae.length ax), (.slice aE D.length aB), bh, ⟨gl_⟩, ⟨B20x19_⟩, ⟨B20x20_⟩, Cb z, Cb l, D6x0_⟩
  obtain ⟨dr, dt⟩ := nE bD
  obtain ⟨bF, aV⟩ | ⟨bF, aV⟩ := sp a4
  ·obtain ⟨dv, dw⟩ := yE bF; clear bF; replace aV := am aV; clear ay az aJ aN a4
   go_wp2
   go_loopg [] k (fun kq w' => ∃ (aT : Int) (aU : Int) (aD : List (S81)) (bd : Value), Aside0 (spec_l15Any.l0 kq M aT aU ae aD = some (r1, r2, r3, r4)) ∧ Aside0 (kq ≤ k) ∧ Aside0 (Kd.R k83 83 w' w.heap.size (fun _ => True) (.slice aw ae.length ax) ae) ∧ Aside0 (Kd.R k81 81 w' w.heap.size (fun _ => True) bd aD) ∧ Aside0 (w'.heap[bl]? = some (.cells #[(.slice none 0 0), (.slice none 0 0)] 47 (0, 0))) ∧ Aside0 (w'.heap[ao]? = some (.cells #[(.slice aw ae.length ax), bd] 47 (0, 0))) ∧ Aside0 (IsS107 Y w' g M aT aU) ∧ Aside0 (KeepBut w w' g none) ∧ Aside0 (Below Y.heap.size Y w'))
   case atStart => exact ⟨(au), av, D, (.slice aE D.length aB), aV, ⟨Nat.le_refl _⟩, ⟨B20x19_⟩, ⟨B20x20_⟩, Cb z, Cb l, D6x0_⟩
   case round =>
    clear aV
    try clear bz
    try clear dl
    try clear dm
    try clear bB
    try clear dn
    try clear dp
    try clear bD
    try clear dr
    try clear dt
    try clear bF
    try clear dv
    try clear dw
    obtain ⟨aT, aU, aD, bd, a6, cm, al, ah, z, l, q, HK, HB⟩ := hrel
    cases gk with
    | zero => exact absurd a6.out (by simp [spec_l15Any.l0])
    | succ k1 => ?_
    replace a6 := a6.out; simp only [spec_l15Any.l0] at a6; obtain ⟨⟨ei, cf, cg⟩, cQ, b4⟩ := bsi a6; (try dsimp only at b4)
    obtain ⟨e3, bi⟩ | ⟨e3, bi⟩ := sd b4
    ·obtain ⟨aR, eB, cu⟩ := bsi bi; (try dsimp only at cu); obtain ⟨cD, de⟩ := yn cu; have fJ := eq_true cD; have fK := decide_eq_true cD
     try have e4 : (9223372036854775807 < 1 + aR.size) = False := eq_false (Nat.not_lt.2 cD)
     try (have e5 := e4; simp only [ByteArray.size_append] at e5)
     obtain ⟨eR, a7⟩ := ya de; obtain ⟨et, bO⟩ : ∃ y_ : List (S81), y_ = (aD ++ [(⟨(⟨#[121]⟩ : ByteArray) ++ aR, (⟨#[]⟩ : ByteArray), 1⟩ : S81)]) := ⟨_, rfl⟩
     (first | with_reducible replace a7 := hq bO a7 | rw [← bO] at a7 | simp only [← bO] at a7)
     have eW := am bO; clear bO; replace a7 := am a7; clear a6 b4 bi cu de
     try go_wp2
     replace al := eA al; replace ah := eA ah; replace z := dA z; replace l := dA l; replace q := am (IsS107.drew q.out); replace HK := kdr HK; replace HB := bdr HB; obtain ⟨b1, b7, dH⟩ := Kd.R_slice ah.out
     (first | subst dH | (injection dH with f1_ f2_ f3_; have f4_ := f1_.symm; have f5_ := f3_.symm; clear f1_ f2_ f3_; subst f4_; subst f5_))
     refine start_ (n := 7) (S := fun w' => w'.cell? ⟨ao, 0, none⟩ = some (.slice aw ae.length ax) ∧ w'.cell? ⟨ao, 1, none⟩ = some (.slice b1 aD.length b7)) (ds := []) #[false, false, false, false, false, false, false] gk_ rfl rfl D6x2_ (fun Z => ?_); generalize wr.drew = he at al ah z l q HK HB Z ⊢; refine pure_ (i := 0) (N := some 61) (v := ?_) (a' := ?_) #[true, false, false, false, false, false, false] rfl rfl gk_ (fun _ _ _ h => h) (Or.inl ⟨(by rfl), ?_⟩) ?_ ?_; rotate_left
     ·intro w'; go_simp; with_reducible rfl
     rotate_left
     ·simp only [Act.put, List.setIfInBounds_toArray, List.set_cons_zero, List.set_cons_succ, i64_w, i32_w]; rfl
     refine pure_ (i := 3) (N := some 64) (v := ?_) (a' := ?_) #[true, false, false, true, false, false, false] rfl rfl gk_ (fun _ _ _ h => h) (Or.inl ⟨(by rfl), ?_⟩) ?_ ?_; rotate_left
     ·intro w'; go_simp; with_reducible rfl
     rotate_left
     ·simp only [Act.put, List.setIfInBounds_toArray, List.set_cons_zero, List.set_cons_succ, i64_w, i32_w]; rfl
     refine take_ (i := 1) (N := some 62) (v := ?_) (a' := ?_) #[true, true, false, true, false, false, false] rfl rfl gk_ (fun _ _ _ h => h) (Or.inl ⟨(by rfl), ?_⟩) Z ?_ ?_; rotate_left
     ·rintro w' ⟨s0, s1⟩; go_simp; with_reducible rfl
     rotate_left
     ·simp only [Act.put, List.setIfInBounds_toArray, List.set_cons_zero, List.set_cons_succ, i64_w, i32_w]; rfl
     refine pure_ (i := 2) (N := some 63) (v := ?_) (a' := ?_) #[true, true, true, true, false, false, false] rfl rfl gk_ (fun _ _ _ h => h) (Or.inl ⟨(by rfl), ?_⟩) ?_ ?_; rotate_left
     ·intro w'; go_simp; with_reducible rfl
     rotate_left
     ·simp only [Act.put, List.setIfInBounds_toArray, List.set_cons_zero, List.set_cons_succ, i64_w, i32_w]; rfl
     refine one_ (i := 4) (N := some 65) #[true, true, true, true, true, false, false] rfl rfl gk_ (by decide) (fun K hK => ?_); refine gT Try.func41 (spec_l01Below.calls g M aT aU 2 ei cf cg Y _ B20x0_ (Ae3 HB (IsS107.gf q) af ai) cQ.out) ?_; rintro fA ⟨hi, hb, hk⟩; replace al := am (Kd.R_mono (Kd.R_keep (IsS107.apart (show IsS107 Y _ g M aT aU from B20x0_) (Ar al) (by decide)) hk (fun _ h => h.2)) (fun _ h => h.1)); replace ah := am (Kd.R_mono (Kd.R_keep (IsS107.apart (show IsS107 Y _ g M aT aU from B20x0_) (Ar ah) (by decide)) hk (fun _ h => h.2)) (fun _ h => h.1)); replace z := kA hk z aM; replace l := kA hk l aA; replace HK := Dk2 HK aa ag hk; replace HB := am hb; replace q := am hi; refine hK.out _ _ D6x2_ (fun Z => nm_ ?_); clear hK K; refine pure_ (i := 5) (N := some 66) (v := ?_) (a' := ?_) #[true, true, true, true, true, true, false] rfl rfl gk_ (fun _ _ _ h => h) (Or.inl ⟨(by rfl), ?_⟩) ?_ ?_; rotate_left
     ·intro w'; go_simp; with_reducible rfl
     rotate_left
     ·simp only [Act.put, List.setIfInBounds_toArray, List.set_cons_zero, List.set_cons_succ, i64_w, i32_w]; rfl
     refine pure_ (i := 6) (N := some 67) (v := ?_) (a' := ?_) #[true, true, true, true, true, true, true] rfl rfl gk_ (fun _ _ _ h => h) (Or.inl ⟨(by rfl), ?_⟩) ?_ ?_; rotate_left
     ·intro w'; go_simp; with_reducible rfl
     rotate_left
     ·simp only [Act.put, List.setIfInBounds_toArray, List.set_cons_zero, List.set_cons_succ, i64_w, i32_w]; rfl
     refine done_ gk_ ?_
     try go_wp2
     replace al := eA al; replace ah := eA ah; replace z := dA z; replace l := dA l; replace q := am (IsS107.drew q.out); replace HK := kdr HK; replace HB := bdr HB; refine st_ 12 (fun w' => w'.cell? ⟨ao, 0, none⟩ = some (.slice aw ae.length ax) ∧ w'.cell? ⟨ao, 1, none⟩ = some (.slice b1 aD.length b7)) [11] spec_l15Any.tab15 spec_l15Any.bits15 D6x2_ (fun Z J aH => ?_); generalize fA.drew = hf at al ah z l q HK HB Z ⊢; refine pu_ 0 68 J ?_; refine pu_ 2 70 J ?_; refine ta_ 1 69 J aH Z ?_; refine ta_ 3 71 J aH Z ?_; refine pu_ 4 72 J ?_; refine on_ 5 (some 73) J (fun K hK => ?_); refine gT Try.func89 (spec_Decimal.calls k1 (aD.length : Int) aR _ eB.out) ?_; rintro hh hb; replace al := rA al hb; replace ah := rA ah hb; replace z := bA z hb; replace l := bA l hb; replace HK := Ek2 HK aa ag hb; replace HB := De3 HB (IsS107.gf q) af ai hb; replace q := am (IsS107.below B20x0_ hb); refine hK.out _ _ D6x2_ (fun Z => nm_ ?_); clear hK K; refine pu_ 6 74 J ?_; refine pu_ 7 75 J ?_; refine on_ 8 (some 76) J (fun K hK => ?_); refine value_ (w1 := ?_) (v := ?_) (by rfl) rfl ?_ ?_
     rotate_left 2
     ·go_simp
      constructor
      ·rfl
      rfl
     refine hK.out _ _ D6x1_ (fun Z => nm_ ?_); clear hK K; refine on_ 9 (some 77) J (fun K hK => ?_); refine Kd.R_append_step k81 w.heap.size (by rfl) (.tmp 69) (.tmp 76) 45 81 (.agg #[(.string ⟨#[]⟩), (.string ⟨#[]⟩), (.int .i64 0)]) 40 rfl Try.underlying45 info81 rfl (by decide) (by omega) (.slice b1 aD.length b7) aD (⟨(⟨#[121]⟩ : ByteArray) ++ aR, (⟨#[]⟩ : ByteArray), 1⟩ : S81) [.string ((⟨#[121]⟩ : ByteArray) ++ aR), .string (⟨#[]⟩ : ByteArray), .int .i64 1] (fun _ => True) (fun _ => False) rfl rfl ?aP (fun _ hk => hk.elim) ?aF ?aO (Below.refl _ _) ?aS ?aL ?_
     (case aP => exact k81_mkM _ _ _ (⟨(⟨#[121]⟩ : ByteArray) ++ aR, (⟨#[]⟩ : ByteArray), 1⟩ : S81))
     (case aF => exact (fun _ _ => trivial))
     (case aO => exact (Ar ah))
     (case aS => exact B20x26_)
     (case aL => have := eR.out; omega)
     intro gU fB ho hb hg hat; rw [← eW.out] at ho; replace al := am (Kd.R_over' (Ar al) (Kd.R_typed (Ar ah)) (by decide) hg); replace z := bg z hg (Kd.R_ne ah.out z.out (by decide)); replace l := bg l hg (Kd.R_ne ah.out l.out (by decide)); replace HB := am (below_weaken (Ae3 HB (IsS107.gf q) af ai) HL.out hb); replace q := am (IsS107.grown B20x14_ hg (IsS107.own_ne q.out ah.out (by decide))); replace HK := am (KeepBut.trans (Ak2 HK aa ag) (KeepBut.of_grown hg g) (Kd.R_base2 ah.out)); have da := am ho; clear ah; clear ho hb hg hat; obtain ⟨eI, fc, dI⟩ := Kd.R_slice da.out
     (first | subst dI | (injection dI with f1_ f2_ f3_; have f4_ := f1_.symm; have f5_ := f3_.symm; clear f1_ f2_ f3_; subst f4_; subst f5_))
     refine hK.out _ _ D6x2_ (fun Z => nm_ ?_); clear hK K; refine pu_ 10 78 J ?_; refine last_ (i := 11) (N := none) #[true, true, true, true, true, true, true, true, true, true, true, true] rfl rfl (one_of J.out gk_) (by decide) (fun K hK => ?_)
     have gD : fB.cell? ⟨ao, 1, none⟩ = some (.slice b1 aD.length b7) := bc l 1
     have fT := blk_frozen l.out 1; obtain ⟨gy, fW⟩ := o2_ aC aQ; refine skip_ (w1 := ?_) (by rfl) rfl ?_ ?_; rotate_left
     ·go_simp; rfl
     refine hK.out _ _ ?_; clear hK K; refine done_ (done_of J.out gk_) ?_
     try go_wp2
     go_roundg k1
     case measure => have := cm.out; omega
     case rel => exact ⟨(cf), cg, et, (.slice eI et.length fc), a7, ⟨(by have := cm.out; omega)⟩, ⟨tfg al.out l.out (by decide)⟩, ⟨tfg da.out l.out (by decide)⟩, Cp1 z aC, Cp0 l, D6x0_⟩
    replace bi := am bi; clear a6 b4
    try go_wp2
    replace al := eA al; replace ah := eA ah; replace z := dA z; replace l := dA l; replace q := am (IsS107.drew q.out); replace HK := kdr HK; replace HB := bdr HB; obtain ⟨cS, dy, dJ⟩ := Kd.R_slice ah.out
    (first | subst dJ | (injection dJ with f1_ f2_ f3_; have f4_ := f1_.symm; have f5_ := f3_.symm; clear f1_ f2_ f3_; subst f4_; subst f5_))
    refine start_ (n := 7) (S := fun w' => w'.cell? ⟨ao, 0, none⟩ = some (.slice aw ae.length ax) ∧ w'.cell? ⟨ao, 1, none⟩ = some (.slice cS aD.length dy)) (ds := []) #[false, false, false, false, false, false, false] gk_ rfl rfl D6x2_ (fun Z => ?_); generalize wr.drew = hj at al ah z l q HK HB Z ⊢; refine pure_ (i := 0) (N := some 61) (v := ?_) (a' := ?_) #[true, false, false, false, false, false, false] rfl rfl gk_ (fun _ _ _ h => h) (Or.inl ⟨(by rfl), ?_⟩) ?_ ?_; rotate_left
    ·intro w'; go_simp; with_reducible rfl
    rotate_left
    ·simp only [Act.put, List.setIfInBounds_toArray, List.set_cons_zero, List.set_cons_succ, i64_w, i32_w]; rfl
    refine pure_ (i := 3) (N := some 64) (v := ?_) (a' := ?_) #[true, false, false, true, false, false, false] rfl rfl gk_ (fun _ _ _ h => h) (Or.inl ⟨(by rfl), ?_⟩) ?_ ?_; rotate_left
    ·intro w'; go_simp; with_reducible rfl
    rotate_left
    ·simp only [Act.put, List.setIfInBounds_toArray, List.set_cons_zero, List.set_cons_succ, i64_w, i32_w]; rfl
    refine take_ (i := 1) (N := some 62) (v := ?_) (a' := ?_) #[true, true, false, true, false, false, false] rfl rfl gk_ (fun _ _ _ h => h) (Or.inl ⟨(by rfl), ?_⟩) Z ?_ ?_; rotate_left
    ·rintro w' ⟨s0, s1⟩; go_simp; with_reducible rfl
    rotate_left
    ·simp only [Act.put, List.setIfInBounds_toArray, List.set_cons_zero, List.set_cons_succ, i64_w, i32_w]; rfl
    refine pure_ (i := 2) (N := some 63) (v := ?_) (a' := ?_) #[true, true, true, true, false, false, false] rfl rfl gk_ (fun _ _ _ h => h) (Or.inl ⟨(by rfl), ?_⟩) ?_ ?_; rotate_left
    ·intro w'; go_simp; with_reducible rfl
    rotate_left
    ·simp only [Act.put, List.setIfInBounds_toArray, List.set_cons_zero, List.set_cons_succ, i64_w, i32_w]; rfl
    refine one_ (i := 4) (N := some 65) #[true, true, true, true, true, false, false] rfl rfl gk_ (by decide) (fun K hK => ?_); refine gT Try.func41 (spec_l01Below.calls g M aT aU 2 ei cf cg Y _ B20x0_ (Ae3 HB (IsS107.gf q) af ai) cQ.out) ?_; rintro hl ⟨hi, hb, hk⟩; replace al := am (Kd.R_mono (Kd.R_keep (IsS107.apart (show IsS107 Y _ g M aT aU from B20x0_) (Ar al) (by decide)) hk (fun _ h => h.2)) (fun _ h => h.1)); replace ah := am (Kd.R_mono (Kd.R_keep (IsS107.apart (show IsS107 Y _ g M aT aU from B20x0_) (Ar ah) (by decide)) hk (fun _ h => h.2)) (fun _ h => h.1)); replace z := kA hk z aM; replace l := kA hk l aA; replace HK := Dk2 HK aa ag hk; replace HB := am hb; replace q := am hi; refine hK.out _ _ D6x2_ (fun Z => nm_ ?_); clear hK K; refine pure_ (i := 5) (N := some 66) (v := ?_) (a' := ?_) #[true, true, true, true, true, true, false] rfl rfl gk_ (fun _ _ _ h => h) (Or.inl ⟨(by rfl), ?_⟩) ?_ ?_; rotate_left
    ·intro w'; go_simp; with_reducible rfl
    rotate_left
    ·simp only [Act.put, List.setIfInBounds_toArray, List.set_cons_zero, List.set_cons_succ, i64_w, i32_w]; rfl
    refine pure_ (i := 6) (N := some 67) (v := ?_) (a' := ?_) #[true, true, true, true, true, true, true] rfl rfl gk_ (fun _ _ _ h => h) (Or.inl ⟨(by rfl), ?_⟩) ?_ ?_; rotate_left
    ·intro w'; go_simp; with_reducible rfl
    rotate_left
    ·simp only [Act.put, List.setIfInBounds_toArray, List.set_cons_zero, List.set_cons_succ, i64_w, i32_w]; rfl
    refine done_ gk_ ?_
    try go_wp2
    go_meet
    case rel => exact ⟨_, cf, cg, ae, aD, (.slice aw ae.length ax), (.slice cS aD.length dy), bi, ⟨(by have := cm.out; first | omega | exact Nat.le_refl _)⟩, Cr al, Cr ah, Cb z, Cb l, D6x0_⟩
  obtain ⟨dv, dw⟩ := nE bF; replace aV := am aV; clear ay az aJ aN a4
  go_wp2
  go_meet
  case rel => exact ⟨_, au, av, ae, D, (.slice aw ae.length ax), (.slice aE D.length aB), aV, ⟨gl_⟩, ⟨B20x19_⟩, ⟨B20x20_⟩, Cb z, Cb l, D6x0_⟩
 clear ay
 obtain ⟨kq, cN, cP, ck, cl, cL, bd, bj, fE, al, ah, z, l, q, HK, HB⟩ := hcut
 cases kq with
 | zero => exact absurd bj.out (by simp [spec_l15Any.j1])
 | succ gG => ?_
 replace bj := bj.out
 simp only [spec_l15Any.j1] at bj
 obtain ⟨rfl, rfl, rfl, rfl⟩ := s4 bj
 clear bj
 obtain ⟨f8, gs, f9, gu⟩ := o4_ aQ aC aA aK
 obtain ⟨bX, bY, bZ, b0⟩ := cf2 l
 obtain ⟨eJ, fd, fl⟩ := Kd.R_slice al.out
 subst fl
 obtain ⟨ga, gv⟩ := o2_ aM bk
 obtain ⟨hm, hn, ht, hu⟩ := cf2 z
 obtain ⟨eK, fe, fm⟩ := Kd.R_slice ah.out
 subst fm
 go_wp2
 refine bodyPost_ret (results_cell_row rfl _ _ bl 47 #[.slice eJ ck.length fd, .slice eK cl.length fe] (0, 0) _ rfl (Ap0 z) Try.underlying47 rfl gk_) rfl ?_
 exact ⟨_, _, (by first | rfl | (simp [errW_none, errW_some] <;> rfl) | (simp [*, errW_none, errW_some] <;> rfl)), (tfg al.out z.out (by decide)), (tfg ah.out z.out (by decide)), B20x0_, (Ae3 HB (IsS107.gf q) af ai), (Ak2 HK aa ag)⟩
def spec_DrawKeepText.f (k : Nat) (l0 : List Int) : Option ((List (S83)) × (List (S81))) := (spec_l01New.f k l0).bind fun cC => ((spec_l15Any.f k cC.1 cC.2.1 cC.2.2).bind fun dk => (some (dk.1, dk.2.1)))
theorem spec_DrawKeepText.calls (k : Nat) (A0 : Option Addr) (c0 : Nat) (l0 : List Int) (r1 : List (S83)) (r2 : List (S81)) (w : World) (d2 : Kd.C (Kd.int .u8) w A0 l0.length l0) (dR : l0.length ≤ c0) (h : spec_DrawKeepText.f k l0 = some (r1, r2)) :
  Calls Try.prog 25 #[.slice A0 l0.length c0] w fun e w' => ∃ bV bW : Value, e = .returned (.agg #[bV, bW]) ∧ Kd.R k83 83 w' w.heap.size (fun _ => True) bV r1 ∧ Kd.R k81 81 w' w.heap.size (fun _ => True) bW r2 ∧ Below w.heap.size w w' := by
 have fu := Try.underlying47
 have eO := am d2
 have eN := am dR
 clear d2 dR
 have HB := am (Below.refl w.heap.size w)
 have ak := h
 clear h
 unfold spec_DrawKeepText.f at ak
 obtain ⟨⟨ej, ek, el⟩, A2, ap⟩ := bsi ak
 (try dsimp only at ap)
 obtain ⟨⟨em, en, fw, fx⟩, A3, a8⟩ := bsi ap
 (try dsimp only at a8)
 obtain ⟨rfl, rfl⟩ := s2 a8
 clear a8 ak ap
 go_enter Try.func25, Try.ntmps25
 go_wp2_with (first | ((with_reducible refine gate_dst (N := 2) rfl ?_); refine bx (N := 2) (cs := #[.slice none 0 0, .slice none 0 0]) (t := 47) ?_; intro fn hg w4 hbox hb; have aG := am hbox; have bu := gA hg HB; replace HB := hA HB hb; clear hb hbox hg) | ((with_reducible refine gate_callee (f := 37) rfl ?_); refine gL (some 4) Try.func37 #[.slice A0 l0.length c0] ?_; (with_reducible refine (spec_l01New.calls k _ _ l0 ej ek el w _ ?z1 ?z2 ?z3 A2.out).mono ?_); (case z1 => repeat (first | (with_reducible first | exact HB.out | apply below_alloc | apply pw_below_drewN | apply below_drew1 | refine below_set ?_ bu.out) | exact HB.out)); (case z2 => exact eO.out); (case z3 => exact eN.out); rintro e w5 ⟨dK, rfl, hi, hb, cE⟩; refine ⟨_, rfl, ?_⟩; replace HB := am hb; have aY := am hi; have dh := am (IsS107.ne_blk hi (bb aG.out cE) (by decide)); have df := am (Ne.symm (IsS107.ne_blk hi (bb aG.out cE) (by decide))); replace aG := am (bb aG.out cE)) | ((with_reducible refine gate_callee (f := 57) rfl ?_); refine gL (some 5) Try.func57 #[.pointer (some ⟨dK, 0, none⟩)] ?_; (with_reducible refine (spec_l15Any.calls k dK ej ek el em en fw fx w _ ?z1 ?z2 A3.out).mono ?_); (case z1 => repeat (first | (with_reducible first | exact aY.out | apply IsS107.alloc | apply IsS107.drewN | apply IsS107.drew | apply IsS107.set_1 | apply IsS107.set_2 | refine IsS107.far ?_ dh.out _) | exact aY.out)); (case z2 => exact (Ae2 HB (IsS107.gf aY) bu)); rintro e w6 ⟨gV, gW, rfl, bm, bn, hi, hb, hk⟩; refine ⟨_, rfl, ?_⟩; replace aG := kA hk aG df; have db := am (Kd.R_lower bm (below_size (Ae2 HB (IsS107.gf aY) bu))); have dc := am (Kd.R_lower bn (below_size (Ae2 HB (IsS107.gf aY) bu))); replace HB := am hb; replace aY := am hi; obtain ⟨eH, fb, fi⟩ := Kd.R_slice db.out; subst fi; have f7 := df.out; have gr := dh.out; obtain ⟨hp, hs, hv, hw⟩ := cf2 aG; obtain ⟨eC, e6, ff⟩ := Kd.R_slice dc.out; subst ff))
 refine bodyPost_ret (results_cell_row rfl _ _ fn 47 #[.slice eH em.length fb, .slice eC en.length e6] (0, 0) _ rfl (Ap0 aG) Try.underlying47 rfl gk_) rfl ?_
 exact ⟨_, _, (by first | rfl | (simp [errW_none, errW_some] <;> rfl) | (simp [*, errW_none, errW_some] <;> rfl)), (tfg db.out aG.out (by decide)), (tfg dc.out aG.out (by decide)), (Ae2 HB (IsS107.gf aY) bu)⟩

def impl_within.f (a0 : Int) (a1 : Int) (a2 : Int) : Option (Bool) := if a0 ≥ a1 then (some (decide (a0 ≤ a2))) else (some false)
theorem impl_within.calls (a0 : Int) (a1 : Int) (a2 : Int) (r : Bool) (w : World) (h : impl_within.f a0 a1 a2 = some r) :
  Calls Try.prog 45 #[.int .i64 a0, .int .i64 a1, .int .i64 a2] w fun e w' => e = .returned (.bool r) ∧ Drawn0 w w' := by
 have ak := h
 clear h
 unfold impl_within.f at ak
 obtain ⟨c4, ap⟩ | ⟨c4, ap⟩ := sp ak
 ·have e0 : decide (a1 ≤ a0) = true := decide_eq_true c4
  clear c4; obtain rfl := Option.some.inj ap; clear ap ak; go_enter Try.func45, Try.ntmps45
  go_wp2
  go_ret; exact ⟨gr_, gd_⟩
 ·have e0 : decide (a1 ≤ a0) = false := decide_eq_false c4
  clear c4; obtain rfl := Option.some.inj ap; clear ap ak; go_enter Try.func45, Try.ntmps45
  go_wp2
  go_ret; exact ⟨gr_, gd_⟩

def impl_isIndex.f (a0 : Int) : Option (Bool) := (impl_within.f a0 0 1000000).bind fun cJ => (some cJ)
theorem impl_isIndex.calls (a0 : Int) (r : Bool) (w : World) (h : impl_isIndex.f a0 = some r) :
  Calls Try.prog 54 #[.int .i64 a0] w fun e w' => e = .returned (.bool r) ∧ Drawn0 w w' := by
 have ak := h
 clear h
 unfold impl_isIndex.f at ak
 obtain ⟨cJ, A2, ap⟩ := bsi ak
 (try dsimp only at ap)
 obtain rfl := Option.some.inj ap
 clear ap ak
 go_enter Try.func54, Try.ntmps54
 go_wp2_with (first | ((with_reducible refine gate_callee (f := 45) rfl ?_); refine gM (some 4) Try.func45 (impl_within.calls a0 0 1000000 cJ _ A2.out) ?_; rintro w' ⟨nd, rfl⟩))
 go_ret
 exact ⟨gr_, gd_⟩

def impl_keyOk.f (a0 : ByteArray) : Option (Bool) := (impl_within.f (a0.size : Int) 1 8).bind fun cK => (some cK)
theorem impl_keyOk.calls (a0 : ByteArray) (r : Bool) (w : World) (h : impl_keyOk.f a0 = some r) :
  Calls Try.prog 90 #[.string a0] w fun e w' => e = .returned (.bool r) ∧ Drawn0 w w' := by
 have ak := h
 clear h
 unfold impl_keyOk.f at ak
 obtain ⟨cK, A2, ap⟩ := bsi ak
 (try dsimp only at ap)
 obtain rfl := Option.some.inj ap
 clear ap ak
 go_enter Try.func90, Try.ntmps90
 go_wp2_with (first | ((with_reducible refine gate_callee (f := 45) rfl ?_); refine gM (some 5) Try.func45 (impl_within.calls (a0.size : Int) 1 8 cK _ A2.out) ?_; rintro w' ⟨nd, rfl⟩))
 go_ret
 exact ⟨gr_, gd_⟩

def impl_valOk.f (a0 : ByteArray) : Option (Bool) := some (decide ((a0.size : Int) ≤ 20))
theorem impl_valOk.calls (a0 : ByteArray) (r : Bool) (w : World) (h : impl_valOk.f a0 = some r) :
  Calls Try.prog 91 #[.string a0] w fun e w' => e = .returned (.bool r) ∧ Drawn0 w w' := by
 have ak := h
 clear h
 unfold impl_valOk.f at ak
 obtain rfl := Option.some.inj ak
 clear ak
 go_enter Try.func91, Try.ntmps91
 go_wp2
 go_ret
 exact ⟨gr_, gd_⟩
end
end Go.Proofs.Ytgffdijodnpolaa.QFnKeepTexts
