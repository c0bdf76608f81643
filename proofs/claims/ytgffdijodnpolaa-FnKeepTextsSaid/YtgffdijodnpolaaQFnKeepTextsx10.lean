/- Functions that a law reaches, as functions of Lean, and the walks that show that the calls come to their answers. No condition. -/
import Derived.Test.YtgffdijodnpolaaQFnKeepTextsx0
import Derived.Test.YtgffdijodnpolaaQFnKeepTextsx2
import Derived.Test.YtgffdijodnpolaaQFnKeepTextsx5
import Derived.Test.YtgffdijodnpolaaQFnKeepTextsx6
import Derived.Test.YtgffdijodnpolaaVFnKeepTextshort3
import Derived.Test.YtgffdijodnpolaaVFnKeepTextsShort
import Derived.Test.YtgffdijodnpolaaVFnKeepTextshort8
import Derived.Test.YtgffdijodnpolaaVFnKeepTextsShort2
namespace Go.Proofs.Ytgffdijodnpolaa.QFnKeepTexts
open Go.RowKit Go.Proofs.YtgffdijodnpolaaW.PrintWords Go.Proofs.YtgffdijodnpolaaW.PrintLast Go.Proofs.YtgffdijodnpolaaW.PrintMore Go.Proofs.Ytgffdijodnpolaa.Short
set_option linter.unusedVariables false
set_option linter.unusedSimpArgs false
set_option maxHeartbeats 8000000
set_option maxRecDepth 100000
variable {p : Prop}
theorem D10x0_ (h : p := by exact ⟨⟨gl_⟩, Cp1 l ax, Cp1 q ay, Cp0 z, ⟨B33x0_⟩, Ck3 HK M U ac, Ce4 HB (IsS107.gf j) ad ae ag⟩) : p := h
theorem D10x1_ (h : p := by exact ⟨B33x19_, (Ae1 HB ap)⟩) : p := h
section
attribute [local go_sem] max2_int min2_int max_two min_two max_three min_three max_four min_four
theorem B33x0_ (h : p := by repeat (first | (with_reducible first | exact j.out | apply IsS107.alloc | apply IsS107.drewN | apply IsS107.drew | apply IsS107.set_1 | apply IsS107.set_2 | refine IsS107.far ?_ cB.out _ | refine IsS107.far ?_ db.out _ | refine IsS107.far ?_ bd.out _) | exact j.out)) : p := h
theorem B33x7_ (h : p := by repeat (first | (with_reducible first | exact aX.out | apply IsS107.alloc | apply IsS107.drewN | apply IsS107.drew | apply IsS107.set_1 | apply IsS107.set_2 | refine IsS107.far ?_ dC.out _) | exact aX.out)) : p := h
theorem B33x11_ (h : p := by repeat (first | (with_reducible first | exact j.out | apply IsS107.alloc | apply IsS107.drewN | apply IsS107.drew | apply IsS107.set_1 | apply IsS107.set_2 | refine IsS107.far ?_ cB.out _ | refine IsS107.far ?_ db.out _) | exact j.out)) : p := h
theorem B33x19_ (h : p := by first | rfl | (simp [errW_none, errW_some] <;> rfl) | (simp [*, errW_none, errW_some] <;> rfl)) : p := h
def spec_l15AnyCommand.j0 : Nat → List Int → Int → Int → Int → Int → Int → ByteArray → ByteArray → Int → Option (Int × Int × Int × ByteArray × ByteArray × Int × Int × Int)
 | 0, _, _, _, _, _, _, _, _, _ => none
 | k + 1, gU, fd, fe, ff, fg, fh, fi, fj, fk => some (ff, fg, fh, fi, fj, fk, fd, fe)
def spec_l15AnyCommand.f (k : Nat) (D : List Int) (co : Int) (cp : Int) (aE : List (S83)) (aG : List (S81)) : Option (Int × Int × Int × ByteArray × ByteArray × Int × Int × Int) := (spec_l15Command.f k D co cp aE aG).bind fun B => ((spec_l01Below.f D B.2.2.2.2.2.2.1 B.2.2.2.2.2.2.2 16).bind fun ao => (if ao.1 = 0 then ((spec_l01Below.f D ao.2.1 ao.2.2 7).bind fun dd => (spec_l15AnyCommand.j0 k D dd.2.1 dd.2.2 dd.1 B.2.1 B.2.2.1 B.2.2.2.1 B.2.2.2.2.1 B.2.2.2.2.2.1)) else (if ao.1 = 1 then ((spec_l01PickInt.f D ao.2.1 ao.2.2 (([(-1), 1000000, 1000001] : List Int))).bind fun de => (spec_l15AnyCommand.j0 k D de.2.1 de.2.2 B.1 de.1 B.2.2.1 B.2.2.2.1 B.2.2.2.2.1 B.2.2.2.2.2.1)) else (if ao.1 = 2 then ((spec_l01Pick.f D ao.2.1 ao.2.2 (([(⟨#[]⟩ : ByteArray), (⟨#[49, 50, 51, 52, 53, 54, 55, 56]⟩ : ByteArray), (⟨#[49, 50, 51, 52, 53, 54, 55, 56, 57]⟩ : ByteArray)] : List ByteArray))).bind fun df => (spec_l15AnyCommand.j0 k D df.2.1 df.2.2 B.1 B.2.1 B.2.2.1 df.1 B.2.2.2.2.1 B.2.2.2.2.2.1)) else (if ao.1 = 3 then ((spec_l01PickInt.f D ao.2.1 ao.2.2 (([0, 20, 21] : List Int))).bind fun dh => ((spec_l01Long.f k dh.1 66).bind fun cL => (spec_l15AnyCommand.j0 k D dh.2.1 dh.2.2 B.1 B.2.1 B.2.2.1 B.2.2.2.1 cL B.2.2.2.2.2.1))) else (if ao.1 = 4 then ((spec_l01PickInt.f D ao.2.1 ao.2.2 (([(-1), 0, 1, 1000000001] : List Int))).bind fun di => (spec_l15AnyCommand.j0 k D di.2.1 di.2.2 B.1 B.2.1 B.2.2.1 B.2.2.2.1 B.2.2.2.2.1 di.1)) else (spec_l15AnyCommand.j0 k D ao.2.1 ao.2.2 B.1 B.2.1 B.2.2.1 B.2.2.2.1 B.2.2.2.2.1 B.2.2.2.2.2.1)))))))
theorem spec_l15AnyCommand.calls (k : Nat) (g : Nat) (D : List Int) (co : Int) (cp : Int) (bD : Option Addr) (bK : Nat) (aE : List (S83)) (bE : Option Addr) (bL : Nat) (aG : List (S81)) (r1 : Int) (r2 : Int) (r3 : Int) (r4 : ByteArray) (r5 : ByteArray) (r6 : Int) (r7 : Int) (r8 : Int) (w0 w : World) (hI : IsS107 w0 w g D co cp) (hB : Below w0.heap.size w0 w) (dO : ∀ W_, KeepBut w W_ g none → Kd.C k83 W_ bD aE.length aE) (dM : aE.length ≤ bK) (dP : ∀ W_, KeepBut w W_ g none → Kd.C k81 W_ bE aG.length aG) (dN : aG.length ≤ bL) (h : spec_l15AnyCommand.f k D co cp aE aG = some (r1, r2, r3, r4, r5, r6, r7, r8)) :
  Calls Try.prog 74 #[.pointer (some ⟨g, 0, none⟩), .agg #[.slice bD aE.length bK, .slice bE aG.length bL]] w fun e w' => e = .returned (.agg #[.int .i64 r1, .int .i64 r2, .int .i64 r3, .string r4, .string r5, .int .i64 r6]) ∧ IsS107 w0 w' g D r7 r8 ∧ Below w0.heap.size w0 w' ∧ KeepBut w w' g none := by
 have gn := Try.underlying47
 have dQ := Try.underlying59
 have ey := am dO
 have et := am dM
 clear dO dM
 have ez := am dP
 have eu := am dN
 clear dP dN
 have j := am hI
 have HK := am (KeepBut.refl w g none)
 have HL := am hB.size
 clear hI
 have cZ := am hB.size
 have HB := am hB
 clear hB
 have Y := h
 clear h
 unfold spec_l15AnyCommand.f at Y
 obtain ⟨⟨bj, bk, bl, bm, bn, bo, dq, dr⟩, A3, Z⟩ := bsi Y
 (try dsimp only at Z)
 obtain ⟨⟨e8, a3, a4⟩, A4, J⟩ := bsi Z
 (try dsimp only at J)
 replace J := am J
 clear Y Z
 go_enter Try.func74, Try.ntmps74
 go_upto_block 0 with (first | ((with_reducible refine gate_dst (N := 3) rfl ?_); refine bx (N := 3) (cs := #[.slice bD aE.length bK, .slice bE aG.length bL]) (t := 47) ?_; intro dk hg w6 hbox hb; replace HB := De1 HB (IsS107.gf j) hb; have l := am hbox; have M := gK hg HK; have ad := am (Nat.le_trans cZ.out (bs hg (keep_size HK.out)) : w0.heap.size ≤ dk); replace HK := Ek0 HK hb; have cB := am (nl hg (IsS107.lt j.out)); have be := am (ng hg (IsS107.lt j.out)); replace j := am (IsS107.below (by repeat (first | (with_reducible first | exact j.out | apply IsS107.alloc | apply IsS107.drewN | apply IsS107.drew | apply IsS107.set_1 | apply IsS107.set_2) | exact j.out)) hb); clear hb hbox hg) | ((with_reducible refine gate_dst (N := 4) rfl ?_); refine bx (N := 4) (cs := #[.int .i64 0, .int .i64 0, .int .i64 0, .string (⟨#[]⟩ : ByteArray), .string (⟨#[]⟩ : ByteArray), .int .i64 0]) (t := 59) ?_; intro a2 hg w7 hbox hb; replace HB := De2 HB (IsS107.gf j) ad hb; have q := am hbox; have U := gK hg HK; have ae := am (Nat.le_trans cZ.out (bs hg (keep_size HK.out)) : w0.heap.size ≤ a2); replace HK := Ek1 HK M hb; have dz := nA hg l; have dB := mA hg l; replace l := bA l hb; have db := am (nl hg (IsS107.lt j.out)); have bh := am (ng hg (IsS107.lt j.out)); replace j := am (IsS107.below (by repeat (first | (with_reducible first | exact j.out | apply IsS107.alloc | apply IsS107.drewN | apply IsS107.drew | apply IsS107.set_1 | apply IsS107.set_2 | refine IsS107.far ?_ cB.out _) | exact j.out)) hb); clear hb hbox hg; have fQ := dz.out; have gl := dB.out; have fR := be.out; have gm := cB.out; obtain ⟨gV, gW, g9, ha⟩ := cf2 l) | ((with_reducible refine gate_callee (f := 99) rfl ?_); refine gM (args := #[.pointer (some ⟨g, 0, none⟩), .agg #[.slice bD aE.length bK, .slice bE aG.length bL]]) (some 8) Try.func99 (spec_l15Command.calls k g D co cp _ _ aE _ _ aG bj bk bl bm bn bo dq dr w0 _ B33x11_ (Ae3 HB (IsS107.gf j) ad ae) (Kd.C_foot_step ey.out (Ak2 HK M U)) et.out (Kd.C_foot_step ez.out (Ak2 HK M U)) eu.out A3.out) ?_; rintro gD ⟨hi, hb, hk⟩; replace l := kA hk l be; replace q := kA hk q bh; replace HK := Dk2 HK M U hk; replace HB := am hb; replace j := am hi) | ((with_reducible refine gate_dst (N := 5) rfl ?_); refine bx (N := 5) (cs := #[.int .i64 0, .int .i64 0, .int .i64 0, .string (⟨#[]⟩ : ByteArray), .string (⟨#[]⟩ : ByteArray), .int .i64 0]) (t := 59) ?_; intro a8 hg fb hbox hb; replace HB := De3 HB (IsS107.gf j) ad ae hb; have z := am hbox; have ac := gK hg HK; have ag := am (Nat.le_trans cZ.out (bs hg (keep_size HK.out)) : w0.heap.size ≤ a8); replace HK := Ek2 HK M U hb; have ax := nA hg l; have bv := mA hg l; replace l := bA l hb; have ay := nA hg q; have bw := mA hg q; replace q := bA q hb; have bd := am (nl hg (IsS107.lt j.out)); have az := am (ng hg (IsS107.lt j.out)); replace j := am (IsS107.below B33x11_ hb); clear hb hbox hg; have ft := bv.out; have fT := ax.out; have fu := bw.out; have fU := ay.out; have fv := az.out; have fV := bd.out; obtain ⟨bV, bW, bX, bY, bZ, b0, b1, b2, b3, b4, b5, b6⟩ := cf6 z) | ((with_reducible refine gate_store (t := 59) (p := 5) rfl ?_); refine store_event (t := 59) (p := 5) (v := ?vo_w17) (w1 := ((((((fb.setCell ⟨a8, 0, none⟩ (.int .i64 bj)).setCell ⟨a8, 1, none⟩ (.int .i64 bk)).setCell ⟨a8, 2, none⟩ (.int .i64 bl)).setCell ⟨a8, 3, none⟩ (.string bm)).setCell ⟨a8, 4, none⟩ (.string bn)).setCell ⟨a8, 5, none⟩ (.int .i64 bo))) ?hg ?ho ?hn ?hr ?_; (case ho => rfl); (case hg => rfl); (case hn => rfl); (case hr => exact gs_); intro bO hw; replace l : Hc bO dk #[.slice bD aE.length bK, .slice bE aG.length bL] 47 := ⟨wAp1 l ax⟩; replace q : Hc bO a2 #[.int .i64 0, .int .i64 0, .int .i64 0, .string (⟨#[]⟩ : ByteArray), .string (⟨#[]⟩ : ByteArray), .int .i64 0] 59 := ⟨wAp1 q ay⟩; replace z : Hc bO a8 #[.int .i64 bj, .int .i64 bk, .int .i64 bl, .string bm, .string bn, .int .i64 bo] 59 := ⟨wAp0 z⟩; replace HK : Hk w bO g := ⟨wAk3 HK M U ac⟩; replace HB : Hb w0 bO := ⟨wAe4 HB (IsS107.gf j) ad ae ag⟩; replace j : Aside0 (IsS107 w0 bO g D dq dr) := ⟨(by rw [hw]; exact B33x0_)⟩; clear hw) | ((with_reducible refine gate_callee (f := 41) rfl ?_); refine gM (some 10) Try.func41 (spec_l01Below.calls g D dq dr 16 e8 a3 a4 w0 _ B33x0_ (Ae4 HB (IsS107.gf j) ad ae ag) A4.out) ?_; rintro gE ⟨hi, hb, hk⟩; replace l := kA hk l be; replace q := kA hk q bh; replace z := kA hk z az; replace HK := Dk3 HK M U ac hk; replace HB := am hb; replace j := am hi))
 (try simp only [Act.put, List.setIfInBounds_toArray, List.set_cons_zero, List.set_cons_succ])
 go_cut [] (fun wc => ∃ (kq : Nat) (cT : Int) (cU : Int) (bP : Int) (bQ : Int) (bR : ByteArray) (bS : ByteArray) (bT : Int), Aside0 (spec_l15AnyCommand.j0 kq D cT cU bP bQ bl bR bS bT = some (r1, r2, r3, r4, r5, r6, r7, r8)) ∧ Aside0 (kq ≤ k) ∧ Hc wc dk #[(.slice bD aE.length bK), (.slice bE aG.length bL)] 47 ∧ Hc wc a2 #[.int .i64 0, .int .i64 0, .int .i64 0, .string (⟨#[]⟩ : ByteArray), .string (⟨#[]⟩ : ByteArray), .int .i64 0] 59 ∧ Hc wc a8 #[.int .i64 bP, .int .i64 bQ, .int .i64 bl, .string bR, .string bS, .int .i64 bT] 59 ∧ Aside0 (IsS107 w0 wc g D cT cU) ∧ Hk w wc g ∧ Hb w0 wc)
 case first =>
  replace J := J.out
  obtain ⟨a6, K⟩ | ⟨a6, K⟩ := sp J
  ·obtain ⟨bz, dj⟩ := yE a6; clear a6
   (first | rw [bz] | (simp only [i64_w, i32_w]; rw [bz]) | skip)
   obtain ⟨⟨dR, dS, dT⟩, cy, ak⟩ := bsi K; (try dsimp only at ak); replace ak := am ak; clear J K
   go_wp2_with (first | ((with_reducible refine gate_callee (f := 41) rfl ?_); refine gM (some 14) Try.func41 (spec_l01Below.calls g D a3 a4 7 dR dS dT w0 _ B33x0_ (Ae4 HB (IsS107.gf j) ad ae ag) cy.out) ?_; rintro gF ⟨hi, hb, hk⟩; replace l := kA hk l be; replace q := kA hk q bh; replace z := kA hk z az; replace HK := Dk3 HK M U ac hk; replace HB := am hb; replace j := am hi; have fw := bv.out; have fW := ax.out; have fx := bw.out; have fX := ay.out; have fy := az.out; have fY := bd.out; obtain ⟨bV, bW, bX, bY, bZ, b0, b1, b2, b3, b4, b5, b6⟩ := cf6 z))
   go_meet
   case rel => exact ⟨_, dS, dT, dR, bk, bm, bn, bo, ak, D10x0_⟩
  ·obtain ⟨bz, dj⟩ := nE a6
   (first | rw [bz] | (simp only [i64_w, i32_w]; rw [bz]) | skip)
   obtain ⟨cH, aa⟩ | ⟨cH, aa⟩ := sp K
   ·obtain ⟨eL, eM⟩ := yE cH; clear cH; obtain ⟨ee, ci⟩ : ∃ y_ : List Int, y_ = (([(-1), 1000000, 1000001] : List Int)) := ⟨_, rfl⟩
    (first | with_reducible replace aa := hq ci aa | rw [← ci] at aa | simp only [← ci] at aa)
    have dD := am ci; clear ci; obtain ⟨⟨dU, dV, dW⟩, ei, a0⟩ := bsi aa; (try dsimp only at a0); replace a0 := am a0; clear J K aa
    go_wp2_with (first | ((with_reducible refine gate_dst (N := 19) rfl ?_); refine lL (Kd.int .i64) 3 19 ([(-1), 1000000, 1000001] : List Int) [.int .i64 (-1), .int .i64 1000000, .int .i64 1000001] (Reps.one (show Kd.M (Kd.int .i64) _ _ _ (-1) [.int .i64 (-1)] from rfl) (Reps.one (show Kd.M (Kd.int .i64) _ _ _ 1000000 [.int .i64 1000000] from rfl) (Reps.one (show Kd.M (Kd.int .i64) _ _ _ 1000001 [.int .i64 1000001] from rfl) (Reps.none _ _)))) ?_; intro gs gG cc hb; (first | rw [← dD.out] at cc | (simp only [Int.reduceToNat] at cc; rw [← dD.out] at cc)); have bF := am (Kd.R_lower cc (keep_size (w := w) (g := g) (row := none) (Ak3 HK M U ac))); replace l := bA l hb; replace q := bA q hb; replace z := bA z hb; replace HK := Ek3 HK M U ac hb; replace HB := De4 HB (IsS107.gf j) ad ae ag hb; replace j := am (IsS107.below B33x0_ hb); clear hb cc; obtain ⟨eo, eV, e0⟩ := Kd.R_slice bF.out; subst e0) | ((with_reducible refine gate_callee (f := 80) rfl ?_); refine gL (some 20) Try.func80 #[.pointer (some ⟨g, 0, none⟩), .slice eo ee.length eV] ?_; (with_reducible refine (spec_l01PickInt.calls g D a3 a4 _ _ ee dU dV dW w0 _ ?z1 ?z2 ?z3 ?z4 ?z5 ei.out).mono ?_); (case z1 => exact B33x0_); (case z2 => exact (Ae4 HB (IsS107.gf j) ad ae ag)); (case z3 => repeat (first | exact (Kd.R_reads' bF.out).2.2 | (with_reducible refine Kd.C_alloc ?_ _) | (with_reducible refine Kd.C_drewN ?_ _) | (with_reducible refine Kd.C_drew ?_))); (case z4 => exact (Kd.R_reads' bF.out).2.1); (case z5 => exact far_slice (IsS107.own_ne j.out bF.out (by decide))); rintro e gH ⟨rfl, hi, hb, hk⟩; refine ⟨_, rfl, ?_⟩; replace l := kA hk l be; replace q := kA hk q bh; replace z := kA hk z az; replace bF := am (Kd.R_mono (Kd.R_keep (IsS107.apart (show IsS107 w0 _ g D a3 a4 from B33x0_) (Ar bF) (by decide)) hk (fun _ h => h.2)) (fun _ h => h.1)); replace HK := Dk3 HK M U ac hk; replace HB := am hb; replace j := am hi; have fz := bv.out; have fZ := ax.out; have fA := bw.out; have f0 := ay.out; have fB := az.out; have f1 := bd.out; obtain ⟨bV, bW, bX, bY, bZ, b0, b1, b2, b3, b4, b5, b6⟩ := cf6 z))
    go_meet
    case rel => exact ⟨_, dV, dW, bj, dU, bm, bn, bo, a0, D10x0_⟩
   ·obtain ⟨eL, eM⟩ := nE cH
    obtain ⟨cI, ai⟩ | ⟨cI, ai⟩ := sp aa
    ·obtain ⟨eN, eO⟩ := yE cI; clear cI; obtain ⟨ef, cj⟩ : ∃ y_ : List ByteArray, y_ = (([(⟨#[]⟩ : ByteArray), (⟨#[49, 50, 51, 52, 53, 54, 55, 56]⟩ : ByteArray), (⟨#[49, 50, 51, 52, 53, 54, 55, 56, 57]⟩ : ByteArray)] : List ByteArray)) := ⟨_, rfl⟩
     (first | with_reducible replace ai := hq cj ai | rw [← cj] at ai | simp only [← cj] at ai)
     have dE := am cj; clear cj; obtain ⟨⟨dX, dY, dZ⟩, ek, a1⟩ := bsi ai; (try dsimp only at a1); replace a1 := am a1; clear J K aa ai
     go_wp2_with (first | ((with_reducible refine gate_dst (N := 25) rfl ?_); refine lL Kd.string 9 25 ([(⟨#[]⟩ : ByteArray), (⟨#[49, 50, 51, 52, 53, 54, 55, 56]⟩ : ByteArray), (⟨#[49, 50, 51, 52, 53, 54, 55, 56, 57]⟩ : ByteArray)] : List ByteArray) [.string (⟨#[]⟩ : ByteArray), .string (⟨#[49, 50, 51, 52, 53, 54, 55, 56]⟩ : ByteArray), .string (⟨#[49, 50, 51, 52, 53, 54, 55, 56, 57]⟩ : ByteArray)] (Reps.one (show Kd.M Kd.string _ _ _ (⟨#[]⟩ : ByteArray) [.string (⟨#[]⟩ : ByteArray)] from rfl) (Reps.one (show Kd.M Kd.string _ _ _ (⟨#[49, 50, 51, 52, 53, 54, 55, 56]⟩ : ByteArray) [.string (⟨#[49, 50, 51, 52, 53, 54, 55, 56]⟩ : ByteArray)] from rfl) (Reps.one (show Kd.M Kd.string _ _ _ (⟨#[49, 50, 51, 52, 53, 54, 55, 56, 57]⟩ : ByteArray) [.string (⟨#[49, 50, 51, 52, 53, 54, 55, 56, 57]⟩ : ByteArray)] from rfl) (Reps.none _ _)))) ?_; intro gu gI ce hb; (first | rw [← dE.out] at ce | (simp only [Int.reduceToNat] at ce; rw [← dE.out] at ce)); have bG := am (Kd.R_lower ce (keep_size (w := w) (g := g) (row := none) (Ak3 HK M U ac))); replace l := bA l hb; replace q := bA q hb; replace z := bA z hb; replace HK := Ek3 HK M U ac hb; replace HB := De4 HB (IsS107.gf j) ad ae ag hb; replace j := am (IsS107.below B33x0_ hb); clear hb ce; obtain ⟨ep, eW, e1⟩ := Kd.R_slice bG.out; subst e1) | ((with_reducible refine gate_callee (f := 88) rfl ?_); refine gL (some 26) Try.func88 #[.pointer (some ⟨g, 0, none⟩), .slice ep ef.length eW] ?_; (with_reducible refine (spec_l01Pick.calls g D a3 a4 _ _ ef dX dY dZ w0 _ ?z1 ?z2 ?z3 ?z4 ?z5 ek.out).mono ?_); (case z1 => exact B33x0_); (case z2 => exact (Ae4 HB (IsS107.gf j) ad ae ag)); (case z3 => repeat (first | exact (Kd.R_reads' bG.out).2.2 | (with_reducible refine Kd.C_alloc ?_ _) | (with_reducible refine Kd.C_drewN ?_ _) | (with_reducible refine Kd.C_drew ?_))); (case z4 => exact (Kd.R_reads' bG.out).2.1); (case z5 => exact far_slice (IsS107.own_ne j.out bG.out (by decide))); rintro e gJ ⟨rfl, hi, hb, hk⟩; refine ⟨_, rfl, ?_⟩; replace l := kA hk l be; replace q := kA hk q bh; replace z := kA hk z az; replace bG := am (Kd.R_mono (Kd.R_keep (IsS107.apart (show IsS107 w0 _ g D a3 a4 from B33x0_) (Ar bG) (by decide)) hk (fun _ h => h.2)) (fun _ h => h.1)); replace HK := Dk3 HK M U ac hk; replace HB := am hb; replace j := am hi; have fC := bv.out; have f2 := ax.out; have fD := bw.out; have f3 := ay.out; have fE := az.out; have f4 := bd.out; obtain ⟨bV, bW, bX, bY, bZ, b0, b1, b2, b3, b4, b5, b6⟩ := cf6 z))
     go_meet
     case rel => exact ⟨_, dY, dZ, bj, bk, dX, bn, bo, a1, D10x0_⟩
    ·obtain ⟨eN, eO⟩ := nE cI
     obtain ⟨cJ, al⟩ | ⟨cJ, al⟩ := sp ai
     ·obtain ⟨eP, eQ⟩ := yE cJ; clear cJ; obtain ⟨eg, ck⟩ : ∃ y_ : List Int, y_ = (([0, 20, 21] : List Int)) := ⟨_, rfl⟩
      (first | with_reducible replace al := hq ck al | rw [← ck] at al | simp only [← ck] at al)
      have dF := am ck; clear ck; obtain ⟨⟨d0, d1, d2⟩, el, ba⟩ := bsi al; (try dsimp only at ba); obtain ⟨cL, em, aY⟩ := bsi ba; (try dsimp only at aY); replace aY := am aY; clear J K aa ai al ba
      go_wp2_with (first | ((with_reducible refine gate_dst (N := 31) rfl ?_); refine lL (Kd.int .i64) 3 31 ([0, 20, 21] : List Int) [.int .i64 0, .int .i64 20, .int .i64 21] (Reps.one (show Kd.M (Kd.int .i64) _ _ _ 0 [.int .i64 0] from rfl) (Reps.one (show Kd.M (Kd.int .i64) _ _ _ 20 [.int .i64 20] from rfl) (Reps.one (show Kd.M (Kd.int .i64) _ _ _ 21 [.int .i64 21] from rfl) (Reps.none _ _)))) ?_; intro gv gN cf hb; (first | rw [← dF.out] at cf | (simp only [Int.reduceToNat] at cf; rw [← dF.out] at cf)); have a9 := am (Kd.R_lower cf (keep_size (w := w) (g := g) (row := none) (Ak3 HK M U ac))); replace l := bA l hb; replace q := bA q hb; replace z := bA z hb; replace HK := Ek3 HK M U ac hb; replace HB := De4 HB (IsS107.gf j) ad ae ag hb; replace j := am (IsS107.below B33x0_ hb); clear hb cf; obtain ⟨eq, eX, e2⟩ := Kd.R_slice a9.out; subst e2) | ((with_reducible refine gate_callee (f := 80) rfl ?_); refine gL (some 32) Try.func80 #[.pointer (some ⟨g, 0, none⟩), .slice eq eg.length eX] ?_; (with_reducible refine (spec_l01PickInt.calls g D a3 a4 _ _ eg d0 d1 d2 w0 _ ?z1 ?z2 ?z3 ?z4 ?z5 el.out).mono ?_); (case z1 => exact B33x0_); (case z2 => exact (Ae4 HB (IsS107.gf j) ad ae ag)); (case z3 => repeat (first | exact (Kd.R_reads' a9.out).2.2 | (with_reducible refine Kd.C_alloc ?_ _) | (with_reducible refine Kd.C_drewN ?_ _) | (with_reducible refine Kd.C_drew ?_))); (case z4 => exact (Kd.R_reads' a9.out).2.1); (case z5 => exact far_slice (IsS107.own_ne j.out a9.out (by decide))); rintro e gO ⟨rfl, hi, hb, hk⟩; refine ⟨_, rfl, ?_⟩; replace l := kA hk l be; replace q := kA hk q bh; replace z := kA hk z az; replace a9 := am (Kd.R_mono (Kd.R_keep (IsS107.apart (show IsS107 w0 _ g D a3 a4 from B33x0_) (Ar a9) (by decide)) hk (fun _ h => h.2)) (fun _ h => h.1)); replace HK := Dk3 HK M U ac hk; replace HB := am hb; replace j := am hi) | ((with_reducible refine gate_callee (f := 81) rfl ?_); refine gM (some 33) Try.func81 (spec_l01Long.calls k d0 66 cL _ em.out) ?_; rintro gP hb; replace a9 := rA a9 hb; replace l := bA l hb; replace q := bA q hb; replace z := bA z hb; replace HK := Ek3 HK M U ac hb; replace HB := De4 HB (IsS107.gf j) ad ae ag hb; replace j := am (IsS107.below B33x0_ hb); have fF := bv.out; have f5 := ax.out; have fG := bw.out; have f6 := ay.out; have fH := az.out; have f7 := bd.out; obtain ⟨bV, bW, bX, bY, bZ, b0, b1, b2, b3, b4, b5, b6⟩ := cf6 z))
      go_meet
      case rel => exact ⟨_, d1, d2, bj, bk, bm, cL, bo, aY, D10x0_⟩
     ·obtain ⟨eP, eQ⟩ := nE cJ
      obtain ⟨cK, ah⟩ | ⟨cK, ah⟩ := sp al
      ·obtain ⟨eS, eT⟩ := yE cK; clear cK; obtain ⟨eh, cl⟩ : ∃ y_ : List Int, y_ = (([(-1), 0, 1, 1000000001] : List Int)) := ⟨_, rfl⟩
       (first | with_reducible replace ah := hq cl ah | rw [← cl] at ah | simp only [← cl] at ah)
       have dG := am cl; clear cl; obtain ⟨⟨d3, d4, d5⟩, en, aZ⟩ := bsi ah; (try dsimp only at aZ); replace aZ := am aZ; clear J K aa ai al ah
       go_wp2_with (first | ((with_reducible refine gate_dst (N := 38) rfl ?_); refine lL (Kd.int .i64) 3 38 ([(-1), 0, 1, 1000000001] : List Int) [.int .i64 (-1), .int .i64 0, .int .i64 1, .int .i64 1000000001] (Reps.one (show Kd.M (Kd.int .i64) _ _ _ (-1) [.int .i64 (-1)] from rfl) (Reps.one (show Kd.M (Kd.int .i64) _ _ _ 0 [.int .i64 0] from rfl) (Reps.one (show Kd.M (Kd.int .i64) _ _ _ 1 [.int .i64 1] from rfl) (Reps.one (show Kd.M (Kd.int .i64) _ _ _ 1000000001 [.int .i64 1000000001] from rfl) (Reps.none _ _))))) ?_; intro gw gQ cg hb; (first | rw [← dG.out] at cg | (simp only [Int.reduceToNat] at cg; rw [← dG.out] at cg)); have bH := am (Kd.R_lower cg (keep_size (w := w) (g := g) (row := none) (Ak3 HK M U ac))); replace l := bA l hb; replace q := bA q hb; replace z := bA z hb; replace HK := Ek3 HK M U ac hb; replace HB := De4 HB (IsS107.gf j) ad ae ag hb; replace j := am (IsS107.below B33x0_ hb); clear hb cg; obtain ⟨er, eY, e3⟩ := Kd.R_slice bH.out; subst e3) | ((with_reducible refine gate_callee (f := 80) rfl ?_); refine gL (some 39) Try.func80 #[.pointer (some ⟨g, 0, none⟩), .slice er eh.length eY] ?_; (with_reducible refine (spec_l01PickInt.calls g D a3 a4 _ _ eh d3 d4 d5 w0 _ ?z1 ?z2 ?z3 ?z4 ?z5 en.out).mono ?_); (case z1 => exact B33x0_); (case z2 => exact (Ae4 HB (IsS107.gf j) ad ae ag)); (case z3 => repeat (first | exact (Kd.R_reads' bH.out).2.2 | (with_reducible refine Kd.C_alloc ?_ _) | (with_reducible refine Kd.C_drewN ?_ _) | (with_reducible refine Kd.C_drew ?_))); (case z4 => exact (Kd.R_reads' bH.out).2.1); (case z5 => exact far_slice (IsS107.own_ne j.out bH.out (by decide))); rintro e gR ⟨rfl, hi, hb, hk⟩; refine ⟨_, rfl, ?_⟩; replace l := kA hk l be; replace q := kA hk q bh; replace z := kA hk z az; replace bH := am (Kd.R_mono (Kd.R_keep (IsS107.apart (show IsS107 w0 _ g D a3 a4 from B33x0_) (Ar bH) (by decide)) hk (fun _ h => h.2)) (fun _ h => h.1)); replace HK := Dk3 HK M U ac hk; replace HB := am hb; replace j := am hi; have fI := bv.out; have f8 := ax.out; have fJ := bw.out; have f9 := ay.out; have fK := az.out; have ga := bd.out; obtain ⟨bV, bW, bX, bY, bZ, b0, b1, b2, b3, b4, b5, b6⟩ := cf6 z))
       go_meet
       case rel => exact ⟨_, d4, d5, bj, bk, bm, bn, d3, aZ, D10x0_⟩
      ·obtain ⟨eS, eT⟩ := nE cK; replace ah := am ah; clear J K aa ai al
       go_wp2
       go_meet
       case rel => exact ⟨_, a3, a4, bj, bk, bm, bn, bo, ah, ⟨gl_⟩, Cb l, Cb q, Cb z, ⟨B33x0_⟩, Ck3 HK M U ac, Ce4 HB (IsS107.gf j) ad ae ag⟩
 case rest =>
  clear J; obtain ⟨kq, cT, cU, bP, bQ, bR, bS, bT, av, fo, l, q, z, j, HK, HB⟩ := hcut
  cases kq with
  | zero => exact absurd av.out (by simp [spec_l15AnyCommand.j0])
  | succ gq => ?_
  replace av := av.out; simp only [spec_l15AnyCommand.j0] at av; obtain ⟨rfl, rfl, rfl, rfl, rfl, rfl, rfl, rfl⟩ := s8 av; clear av; obtain ⟨fL, gb, fM, gg, fN, gh⟩ := o6_ bv ax bw ay az bd; obtain ⟨bV, bW, bX, bY, bZ, b0, b1, b2, b3, b4, b5, b6⟩ := cf6 z; obtain ⟨fO, gi, fP, gj⟩ := o4_ dB dz bh db; obtain ⟨gX, gY, gZ, g0, g1, g2, he, hf, hh, hj, hl, hm⟩ := cf6 q
  go_wp2_with (first | ((with_reducible refine gate_store (t := 59) (p := 4) rfl ?_); refine store_event (t := 59) (p := 4) (v := ?vo_w75) (w1 := ((((((wc.setCell ⟨a2, 0, none⟩ (.int .i64 bP)).setCell ⟨a2, 1, none⟩ (.int .i64 bQ)).setCell ⟨a2, 2, none⟩ (.int .i64 bl)).setCell ⟨a2, 3, none⟩ (.string bR)).setCell ⟨a2, 4, none⟩ (.string bS)).setCell ⟨a2, 5, none⟩ (.int .i64 bT))) ?hg ?ho ?hn ?hr ?_; (case ho => rfl); (case hg => rfl); (case hn => rfl); (case hr => exact gs_); intro cS hw; replace q : Hc cS a2 #[.int .i64 bP, .int .i64 bQ, .int .i64 bl, .string bR, .string bS, .int .i64 bT] 59 := ⟨wAp0 q⟩; replace HK : Hk w cS g := ⟨wAk3 HK M U ac⟩; replace HB : Hb w0 cS := ⟨wAe4 HB (IsS107.gf j) ad ae ag⟩; replace j : Aside0 (IsS107 w0 cS g D cT cU) := ⟨(by rw [hw]; exact B33x0_)⟩; clear hw))
  refine bodyPost_ret (results_cell_row rfl _ _ a2 59 #[.int .i64 bP, .int .i64 bQ, .int .i64 bl, .string bR, .string bS, .int .i64 bT] (0, 0) _ rfl (Ab q) Try.underlying59 rfl gk_) rfl ?_; exact ⟨B33x19_, B33x0_, (Ae4 HB (IsS107.gf j) ad ae ag), (Ak3 HK M U ac)⟩

def spec_DrawCommandText.f (k : Nat) (l0 : List Int) : Option (Int × Int × Int × ByteArray × ByteArray × Int) := (spec_l01New.f k l0).bind fun cC => ((spec_l15Keep.f k cC.1 cC.2.1 cC.2.2 8).bind fun cD => ((spec_l15AnyCommand.f k cC.1 cD.2.2.1 cD.2.2.2 cD.1 cD.2.1).bind fun bJ => (some (bJ.1, bJ.2.1, bJ.2.2.1, bJ.2.2.2.1, bJ.2.2.2.2.1, bJ.2.2.2.2.2.1))))
theorem spec_DrawCommandText.calls (k : Nat) (A0 : Option Addr) (c0 : Nat) (l0 : List Int) (r1 : Int) (r2 : Int) (r3 : Int) (r4 : ByteArray) (r5 : ByteArray) (r6 : Int) (w : World) (ch : Kd.C (Kd.int .u8) w A0 l0.length l0) (ca : l0.length ≤ c0) (h : spec_DrawCommandText.f k l0 = some (r1, r2, r3, r4, r5, r6)) :
  Calls Try.prog 31 #[.slice A0 l0.length c0] w fun e w' => e = .returned (.agg #[.int .i64 r1, .int .i64 r2, .int .i64 r3, .string r4, .string r5, .int .i64 r6]) ∧ Below w.heap.size w w' := by
 have dQ := Try.underlying59
 have cY := am ch
 have dx := am ca
 clear ch ca
 have HB := am (Below.refl w.heap.size w)
 have Y := h
 clear h
 unfold spec_DrawCommandText.f at Y
 obtain ⟨⟨bp, d6, d7⟩, A2, Z⟩ := bsi Y
 (try dsimp only at Z)
 obtain ⟨⟨cq, cr, bM, bN⟩, A3, J⟩ := bsi Z
 (try dsimp only at J)
 obtain ⟨⟨cM, cN, cO, cP, cQ, cR, d8, d9⟩, A4, K⟩ := bsi J
 (try dsimp only at K)
 obtain ⟨rfl, rfl, rfl, rfl, rfl, rfl⟩ := s6 K
 clear K Y Z J
 go_enter Try.func31, Try.ntmps31
 go_wp2_with (first | ((with_reducible refine gate_dst (N := 2) rfl ?_); refine bx (N := 2) (cs := #[.int .i64 0, .int .i64 0, .int .i64 0, .string (⟨#[]⟩ : ByteArray), .string (⟨#[]⟩ : ByteArray), .int .i64 0]) (t := 59) ?_; intro bi hg w5 hbox hb; have au := am hbox; have bq := gA hg HB; replace HB := hA HB hb; clear hb hbox hg) | ((with_reducible refine gate_callee (f := 37) rfl ?_); refine gL (some 5) Try.func37 #[.slice A0 l0.length c0] ?_; (with_reducible refine (spec_l01New.calls k _ _ l0 bp d6 d7 w _ ?z1 ?z2 ?z3 A2.out).mono ?_); (case z1 => repeat (first | (with_reducible first | exact HB.out | apply below_alloc | apply pw_below_drewN | apply below_drew1 | refine below_set ?_ bq.out) | exact HB.out)); (case z2 => exact cY.out); (case z3 => exact dx.out); rintro e w6 ⟨a7, rfl, hi, hb, dl⟩; refine ⟨_, rfl, ?_⟩; replace HB := am hb; have aX := am hi; have dC := am (IsS107.ne_blk hi (bb au.out dl) (by decide)); have dc := am (Ne.symm (IsS107.ne_blk hi (bb au.out dl) (by decide))); replace au := am (bb au.out dl)) | ((with_reducible refine gate_callee (f := 75) rfl ?_); refine gL (some 8) Try.func75 #[.pointer (some ⟨a7, 0, none⟩), .int .i64 8] ?_; refine (spec_l15Keep.calls k a7 bp d6 d7 8 cq cr bM bN w _ B33x7_ (Ae2 HB (IsS107.gf aX) bq) A3.out).mono ?_; rintro e w7 ⟨gx, gy, rfl, e6, e7, hi, hb, hk⟩; refine ⟨_, rfl, ?_⟩; replace au := kA hk au dc; have br := am (Kd.R_lower e6 (below_size (Ae2 HB (IsS107.gf aX) bq))); have bu := am (Kd.R_lower e7 (below_size (Ae2 HB (IsS107.gf aX) bq))); replace HB := am hb; replace aX := am hi; obtain ⟨dv, dJ, e4⟩ := Kd.R_slice br.out; subst e4; obtain ⟨dw, dK, e5⟩ := Kd.R_slice bu.out; subst e5) | ((with_reducible refine gate_callee (f := 74) rfl ?_); refine gM (args := #[.pointer (some ⟨a7, 0, none⟩), .agg #[.slice dv cq.length dJ, .slice dw cr.length dK]]) (some 9) Try.func74 (spec_l15AnyCommand.calls k a7 bp bM bN _ _ cq _ _ cr cM cN cO cP cQ cR d8 d9 w _ B33x7_ (Ae2 HB (IsS107.gf aX) bq) (Kd.C_foot_own (IsS107.apart (show IsS107 w _ a7 bp bM bN from B33x7_) (Ar br) (by decide)) (fun _ h_ => h_.2)) ((Kd.R_reads' br.out).2.1) (Kd.C_foot_own (IsS107.apart (show IsS107 w _ a7 bp bM bN from B33x7_) (Ar bu) (by decide)) (fun _ h_ => h_.2)) ((Kd.R_reads' bu.out).2.1) A4.out) ?_; rintro fa ⟨hi, hb, hk⟩; replace au := kA hk au dc; replace br := am (Kd.R_mono (Kd.R_keep (IsS107.apart (show IsS107 w _ a7 bp bM bN from B33x7_) (Ar br) (by decide)) hk (fun _ h => h.2)) (fun _ h => h.1)); replace bu := am (Kd.R_mono (Kd.R_keep (IsS107.apart (show IsS107 w _ a7 bp bM bN from B33x7_) (Ar bu) (by decide)) hk (fun _ h => h.2)) (fun _ h => h.1)); replace HB := am hb; replace aX := am hi; have fs := dc.out; have fS := dC.out; obtain ⟨g3, g4, g5, g6, g7, g8, hs, ht, hu, hv, hx, hz⟩ := cf6 au) | ((with_reducible refine gate_store (t := 59) (p := 2) rfl ?_); refine store_event (t := 59) (p := 2) (v := ?vo_w13) (w1 := ((((((fa.setCell ⟨bi, 0, none⟩ (.int .i64 cM)).setCell ⟨bi, 1, none⟩ (.int .i64 cN)).setCell ⟨bi, 2, none⟩ (.int .i64 cO)).setCell ⟨bi, 3, none⟩ (.string cP)).setCell ⟨bi, 4, none⟩ (.string cQ)).setCell ⟨bi, 5, none⟩ (.int .i64 cR))) ?hg ?ho ?hn ?hr ?_; (case ho => rfl); (case hg => rfl); (case hn => rfl); (case hr => exact gs_); intro ct hw; replace br : Aside0 (Kd.R k83 83 ct w.heap.size (fun _ => True) (.slice dv cq.length dJ) cq) := ⟨wtfg br.out au.out (by decide)⟩; replace bu : Aside0 (Kd.R k81 81 ct w.heap.size (fun _ => True) (.slice dw cr.length dK) cr) := ⟨wtfg bu.out au.out (by decide)⟩; replace au : Hc ct bi #[.int .i64 cM, .int .i64 cN, .int .i64 cO, .string cP, .string cQ, .int .i64 cR] 59 := ⟨wAp0 au⟩; replace HB : Hb w ct := ⟨wAe2 HB (IsS107.gf aX) bq⟩; replace aX : Aside0 (IsS107 w ct a7 bp d8 d9) := ⟨(by rw [hw]; exact B33x7_)⟩; clear hw))
 refine bodyPost_ret (results_cell_row rfl _ _ bi 59 #[.int .i64 cM, .int .i64 cN, .int .i64 cO, .string cP, .string cQ, .int .i64 cR] (0, 0) _ rfl (Ab au) Try.underlying59 rfl gk_) rfl ?_
 exact ⟨B33x19_, (Ae2 HB (IsS107.gf aX) bq)⟩
attribute [local go_sem high] eqA59
theorem B34x5_ (h : p := by have := ev.out; first | omega | exact Nat.le_refl _) : p := h
mutual
def impl_CommandOk.j1 : Nat → Int → Int → Int → ByteArray → ByteArray → Int → Option (Bool)
 | 0, _, _, _, _, _, _ => none
 | k + 1, cV, cv, cw, cx, bU, bC => (impl_isIndex.f cv).bind fun eb => (if eb = true then ((impl_isIndex.f cw).bind fun ec => (if ec = true then ((impl_keyOk.f cx).bind fun ed => (if ed = true then ((impl_valOk.f bU).bind fun ds => (some ds)) else (some false))) else (some false))) else (some false))
def impl_CommandOk.j0 : Nat → Int → Bool → Int → Int → Int → ByteArray → ByteArray → Int → Option (Bool)
 | 0, _, _, _, _, _, _, _, _ => none
 | k + 1, x4, fc, cV, cv, cw, cx, bU, bC => if fc = true then (if bU.toList = ([] : List UInt8) then (if bC = 0 then (impl_CommandOk.j1 k cV cv cw cx bU bC) else (some false)) else (some false)) else (if x4 = 2 then (if bC = 0 then (impl_CommandOk.j1 k cV cv cw cx bU bC) else (some false)) else (if x4 = 5 then ((impl_within.f bC 1 1000000000).bind fun ea => (if ea = true then (impl_CommandOk.j1 k cV cv cw cx bU bC) else (some false))) else (some false)))
end
def impl_CommandOk.f (k : Nat) (aj : Int) (ar : Int) (aw : Int) (aA : ByteArray) (aD : ByteArray) (aC : Int) : Option (Bool) := if aj = 1 then (some (aj == 1 && (ar == 0 && (aw == 0 && (aA.toList == ([] : List UInt8) && (aD.toList == ([] : List UInt8) && (aC == 0))))))) else (if aj = 3 then (impl_CommandOk.j0 k aj (aj == 3) aj ar aw aA aD aC) else (impl_CommandOk.j0 k aj (aj == 4) aj ar aw aA aD aC))
theorem impl_CommandOk.calls (k : Nat) (aj : Int) (ar : Int) (aw : Int) (aA : ByteArray) (aD : ByteArray) (aC : Int) (r : Bool) (w : World) (h : impl_CommandOk.f k aj ar aw aA aD aC = some r) :
  Calls Try.prog 76 #[.agg #[.int .i64 aj, .int .i64 ar, .int .i64 aw, .string aA, .string aD, .int .i64 aC]] w fun e w' => e = .returned (.bool r) ∧ Below w.heap.size w w' := by
 have dQ := Try.underlying59
 have HB := am (Below.refl w.heap.size w)
 have Y := h
 clear h
 unfold impl_CommandOk.f at Y
 replace Y := am Y
 go_enter Try.func76, Try.ntmps76
 go_upto_block 0 with (first | ((with_reducible refine gate_dst (N := 1) rfl ?_); refine bx (N := 1) (cs := #[.int .i64 aj, .int .i64 ar, .int .i64 aw, .string aA, .string aD, .int .i64 aC]) (t := 59) ?_; intro dL hg w3 hbox hb; have af := am hbox; have ap := gA hg HB; replace HB := hA HB hb; clear hb hbox hg; obtain ⟨aH, aI, aJ, aK, aM, aN, aQ, aR, aT, aU, aV, aW⟩ := cf6 af))
 (try simp only [Act.put, List.setIfInBounds_toArray, List.set_cons_zero, List.set_cons_succ])
 go_cut [] (fun wc => ∃ (kq : Nat), Aside0 (impl_CommandOk.j1 kq aj ar aw aA aD aC = some r) ∧ Aside0 (kq ≤ k) ∧ Hc wc dL #[.int .i64 aj, .int .i64 ar, .int .i64 aw, .string aA, .string aD, .int .i64 aC] 59 ∧ Hb w wc)
 case first =>
  replace Y := Y.out
  obtain ⟨c5, Z⟩ | ⟨c5, Z⟩ := sp Y
  ·obtain ⟨bB, dI⟩ := yE c5; clear c5
   (first | rw [bB] | (simp only [i64_w, i32_w]; rw [bB]) | skip)
   obtain rfl := Option.some.inj Z; clear Z Y; obtain ⟨aH, aI, aJ, aK, aM, aN, aQ, aR, aT, aU, aV, aW⟩ := cf6 af
   go_wp2
   go_ret; exact D10x1_
  ·obtain ⟨bB, dI⟩ := nE c5
   (first | rw [bB] | (simp only [i64_w, i32_w]; rw [bB]) | skip)
   replace Z := am Z; clear Y
   go_upto_if 10 with (fail)
   go_cut [10] (fun e9 wc => ∃ (kq : Nat) (dt : Bool), e9 = .bool dt ∧ Aside0 (impl_CommandOk.j0 kq aj dt aj ar aw aA aD aC = some r) ∧ Aside0 (kq ≤ k) ∧ Hc wc dL #[.int .i64 aj, .int .i64 ar, .int .i64 aw, .string aA, .string aD, .int .i64 aC] 59 ∧ Hb w wc)
   case first =>
    replace Z := Z.out
    obtain ⟨c8, J⟩ | ⟨c8, J⟩ := sp Z
    ·obtain ⟨b9, eU⟩ := yE c8; clear c8
     (first | rw [b9] | (simp only [i64_w, i32_w]; rw [b9]) | skip)
     replace J := am J; clear Z
     go_wp2
     go_meet
     case rel => exact ⟨_, ((aj == 3)), be_, J, ⟨gl_⟩, Cb af, Ce1 HB ap⟩
    ·obtain ⟨b9, eU⟩ := nE c8
     (first | rw [b9] | (simp only [i64_w, i32_w]; rw [b9]) | skip)
     replace J := am J; clear Z
     go_wp2
     go_meet
     case rel => exact ⟨_, ((aj == 4)), be_, J, ⟨gl_⟩, Cb af, Ce1 HB ap⟩
   case rest =>
    clear Z
    try clear c5
    try clear bB
    try clear dI
    obtain ⟨kq, dt, rfl, K, ev, af, HB⟩ := hcut
    cases kq with
    | zero => exact absurd K.out (by simp [impl_CommandOk.j0])
    | succ gr => ?_
    replace K := K.out; simp only [impl_CommandOk.j0] at K
    obtain ⟨rfl, ak⟩ | ⟨rfl, ak⟩ := sb K
    ·obtain ⟨c10, aa⟩ | ⟨c10, aa⟩ := sp ak
     ·obtain ⟨eD, eE⟩ := yE c10; clear c10
      obtain ⟨cE, a0⟩ | ⟨cE, a0⟩ := sp aa
      ·obtain ⟨eF, eG⟩ := yE cE; clear cE; replace a0 := am a0; clear K ak aa; obtain ⟨aH, aI, aJ, aK, aM, aN, aQ, aR, aT, aU, aV, aW⟩ := cf6 af
       go_wp2
       go_meet
       case rel => exact ⟨_, a0, ⟨B34x5_⟩, Cb af, Ce1 HB ap⟩
      ·obtain ⟨eF, eG⟩ := nE cE; obtain rfl := Option.some.inj a0; clear a0 K ak aa; obtain ⟨aH, aI, aJ, aK, aM, aN, aQ, aR, aT, aU, aV, aW⟩ := cf6 af
       go_wp2
       go_ret; exact D10x1_
     ·obtain ⟨eD, eE⟩ := nE c10; obtain rfl := Option.some.inj aa; clear aa K ak; obtain ⟨aH, aI, aJ, aK, aM, aN, aQ, aR, aT, aU, aV, aW⟩ := cf6 af
      go_wp2
      go_ret; exact D10x1_
    ·obtain ⟨cF, ai⟩ | ⟨cF, ai⟩ := sp ak
     ·obtain ⟨eH, eI⟩ := yE cF; clear cF
      obtain ⟨cG, a1⟩ | ⟨cG, a1⟩ := sp ai
      ·obtain ⟨eJ, eK⟩ := yE cG; clear cG; replace a1 := am a1; clear K ak ai; obtain ⟨aH, aI, aJ, aK, aM, aN, aQ, aR, aT, aU, aV, aW⟩ := cf6 af
       go_wp2
       go_meet
       case rel => exact ⟨_, a1, ⟨B34x5_⟩, Cb af, Ce1 HB ap⟩
      ·obtain ⟨eJ, eK⟩ := nE cG; obtain rfl := Option.some.inj a1; clear a1 K ak ai; obtain ⟨aH, aI, aJ, aK, aM, aN, aQ, aR, aT, aU, aV, aW⟩ := cf6 af
       go_wp2
       go_ret; exact D10x1_
     ·obtain ⟨eH, eI⟩ := nE cF
      obtain ⟨a6, al⟩ | ⟨a6, al⟩ := sp ai
      ·obtain ⟨bz, dj⟩ := yE a6; clear a6; obtain ⟨ea, cy, ba⟩ := bsi al; (try dsimp only at ba)
       obtain ⟨rfl, aY⟩ | ⟨rfl, aY⟩ := sb ba
       ·replace aY := am aY; clear K ak ai al ba; obtain ⟨aH, aI, aJ, aK, aM, aN, aQ, aR, aT, aU, aV, aW⟩ := cf6 af
        go_wp2_with (first | ((with_reducible refine gate_callee (f := 45) rfl ?_); refine gM (some 30) Try.func45 (impl_within.calls aC 1 1000000000 true _ cy.out) ?_; rintro w' ⟨nd, rfl⟩))
        go_meet
        case rel => exact ⟨_, aY, ⟨B34x5_⟩, Cb af, Ce1 HB ap⟩
       ·obtain rfl := Option.some.inj aY; clear aY K ak ai al ba; obtain ⟨aH, aI, aJ, aK, aM, aN, aQ, aR, aT, aU, aV, aW⟩ := cf6 af
        go_wp2_with (first | ((with_reducible refine gate_callee (f := 45) rfl ?_); refine gM (some 30) Try.func45 (impl_within.calls aC 1 1000000000 false _ cy.out) ?_; rintro w' ⟨nd, rfl⟩))
        go_ret; exact D10x1_
      ·obtain ⟨bz, dj⟩ := nE a6; obtain rfl := Option.some.inj al; clear al K ak ai
       go_wp2
       go_ret; exact D10x1_
 case rest =>
  clear Y; obtain ⟨kq, ah, fn, af, HB⟩ := hcut
  cases kq with
  | zero => exact absurd ah.out (by simp [impl_CommandOk.j1])
  | succ gp => ?_
  replace ah := ah.out; simp only [impl_CommandOk.j1] at ah; obtain ⟨eb, cz, aZ⟩ := bsi ah; (try dsimp only at aZ)
  obtain ⟨rfl, av⟩ | ⟨rfl, av⟩ := sb aZ
  ·obtain ⟨ec, cW, b7⟩ := bsi av; (try dsimp only at b7)
   obtain ⟨rfl, bI⟩ | ⟨rfl, bI⟩ := sb b7
   ·obtain ⟨ed, du, cA⟩ := bsi bI; (try dsimp only at cA)
    obtain ⟨rfl, b8⟩ | ⟨rfl, b8⟩ := sb cA
    ·obtain ⟨ds, ej, da⟩ := bsi b8; (try dsimp only at da); obtain rfl := Option.some.inj da; clear da ah aZ av b7 bI cA b8; obtain ⟨aH, aI, aJ, aK, aM, aN, aQ, aR, aT, aU, aV, aW⟩ := cf6 af
     go_wp2_with (first | ((with_reducible refine gate_callee (f := 54) rfl ?_); refine gM (some 34) Try.func54 (impl_isIndex.calls ar true _ cz.out) ?_; rintro w' ⟨nd, rfl⟩) | (go_at_call 54; refine (impl_isIndex.calls aw true _ cW.out).mono ?_; rintro e w' ⟨rfl, ⟨nd, rfl⟩⟩) | (go_at_call 90; refine (impl_keyOk.calls aA true _ du.out).mono ?_; rintro e w' ⟨rfl, ⟨nd, rfl⟩⟩) | (go_at_call 91; refine (impl_valOk.calls aD ds _ ej.out).mono ?_; rintro e w' ⟨rfl, ⟨nd, rfl⟩⟩))
     go_ret; exact D10x1_
    ·obtain rfl := Option.some.inj b8; clear b8 ah aZ av b7 bI cA; obtain ⟨aH, aI, aJ, aK, aM, aN, aQ, aR, aT, aU, aV, aW⟩ := cf6 af
     go_wp2_with (first | ((with_reducible refine gate_callee (f := 54) rfl ?_); refine gM (some 34) Try.func54 (impl_isIndex.calls ar true _ cz.out) ?_; rintro w' ⟨nd, rfl⟩) | (go_at_call 54; refine (impl_isIndex.calls aw true _ cW.out).mono ?_; rintro e w' ⟨rfl, ⟨nd, rfl⟩⟩) | (go_at_call 90; refine (impl_keyOk.calls aA false _ du.out).mono ?_; rintro e w' ⟨rfl, ⟨nd, rfl⟩⟩))
     go_ret; exact D10x1_
   ·obtain rfl := Option.some.inj bI; clear bI ah aZ av b7; obtain ⟨aH, aI, aJ, aK, aM, aN, aQ, aR, aT, aU, aV, aW⟩ := cf6 af
    go_wp2_with (first | ((with_reducible refine gate_callee (f := 54) rfl ?_); refine gM (some 34) Try.func54 (impl_isIndex.calls ar true _ cz.out) ?_; rintro w' ⟨nd, rfl⟩) | (go_at_call 54; refine (impl_isIndex.calls aw false _ cW.out).mono ?_; rintro e w' ⟨rfl, ⟨nd, rfl⟩⟩))
    go_ret; exact D10x1_
  ·obtain rfl := Option.some.inj av; clear av ah aZ; obtain ⟨aH, aI, aJ, aK, aM, aN, aQ, aR, aT, aU, aV, aW⟩ := cf6 af
   go_wp2_with (first | ((with_reducible refine gate_callee (f := 54) rfl ?_); refine gM (some 34) Try.func54 (impl_isIndex.calls ar false _ cz.out) ?_; rintro w' ⟨nd, rfl⟩))
   go_ret; exact D10x1_

def impl_byteTexts.l0 : Nat → List Int → List Int → Int → Int → Option (ByteArray)
 | 0, _, _, _, _ => none
 | k + 1, x3, x7, x8, x9 => if x9 < x8 then (if 0 ≤ x9 then (if x9 < (x7.length : Int) then (if x3.length < 140737488355328 then (impl_byteTexts.l0 k (x3 ++ [(rd x7 x9) % 256]) x7 x8 (wrap64 (x9 + 1))) else (none)) else (none)) else (none)) else (some (strOfNums x3))
def impl_byteTexts.f (k : Nat) (l0 : List Int) : Option (ByteArray) := impl_byteTexts.l0 k (([] : List Int)) l0 (l0.length : Int) 0
theorem impl_byteTexts.calls (k : Nat) (A0 : Option Addr) (c0 : Nat) (l0 : List Int) (r : ByteArray) (w : World) (ch : Kd.C (Kd.int .i64) w A0 l0.length l0) (ca : l0.length ≤ c0) (h : impl_byteTexts.f k l0 = some r) :
  Calls Try.prog 77 #[.slice A0 l0.length c0] w fun e w' => e = .returned (.string r) ∧ Below w.heap.size w w' := by
 have cY := am ch
 have dx := am ca
 clear ch ca
 have HB := am (Below.refl w.heap.size w)
 have Y := h
 clear h
 unfold impl_byteTexts.f at Y
 obtain ⟨fl, cm⟩ : ∃ y_ : List Int, y_ = (([] : List Int)) := ⟨_, rfl⟩
 (first | with_reducible replace Y := hq cm Y | rw [← cm] at Y | simp only [← cm] at Y)
 have dH := am cm
 clear cm
 replace Y := am Y
 go_enter Try.func77, Try.ntmps77
 go_wp2_with (first | ((with_reducible refine gate_dst (N := 6) rfl ?_); refine Kd.R_lit (Kd.int .u8) _ 5 ?hg (N := 6) ?hd (xs := ([] : List Int)) (inner := []) (ok := fun _ => True) (okp := fun _ => True) ?hr ?hp (fun _ hk => hk) trivial (Below.refl _ _) (Nat.le_refl _) (by simp) ?_; (case hd => rfl); (case hg => rfl); (case hr => first | (go_simp; done) | (go_simp; rfl)); (case hp => exact (Reps.none _ _)); intro gB w2 cd hb hg_ hnew_; clear hg_ hnew_; (first | rw [← dH.out] at cd | (simp only [Int.reduceToNat] at cd; rw [← dH.out] at cd)); have ew := am (Kd.R_lower cd (below_size (Ae0 HB))); replace HB := hA HB hb; clear hb cd))
 go_loopg [3, 9] k (fun kq v3 v9 w' => ∃ (cu : List Int) (a5 : Int), v9 = .int .i64 a5 ∧ Aside0 (impl_byteTexts.l0 kq cu l0 (l0.length : Int) a5 = some r) ∧ Aside0 (kq ≤ k) ∧ Aside0 (Kd.R (Kd.int .u8) 5 w' w.heap.size (fun _ => True) v3 cu) ∧ Aside0 (Below w.heap.size w w'))
 case atStart => exact ⟨(fl), 0, be_, Y, ⟨Nat.le_refl _⟩, Cr ew, Ce0 HB⟩
 case round =>
  clear Y; obtain ⟨cu, a5, rfl, Z, dy, cX, HB⟩ := hrel
  cases gk with
  | zero => exact absurd Z.out (by simp [impl_byteTexts.l0])
  | succ k1 => ?_
  replace Z := Z.out; simp only [impl_byteTexts.l0] at Z
  obtain ⟨eR, J⟩ | ⟨eR, J⟩ := sd Z
  ·obtain ⟨bB, K⟩ := yd J; obtain ⟨fq, ak⟩ := yd K; obtain ⟨eB, aa⟩ := ya ak; obtain ⟨fm, cn⟩ : ∃ y_ : List Int, y_ = (cu ++ [(rd l0 a5) % 256]) := ⟨_, rfl⟩
   (first | with_reducible replace aa := hq cn aa | rw [← cn] at aa | simp only [← cn] at aa)
   have eC := am cn; clear cn; replace aa := am aa; clear Z J K ak
   have dn : 0 ≤ (a5 : Int) := dga
   have dp : a5 < (l0.length : Int) := dga
   obtain ⟨fp, eZ, dm⟩ := Kd.at_int cY.out a5 dn dp; cases eZ; replace dm := (hbc HB dm).trans dm; replace dn := eq_true dn; replace dp := eq_true dp
   go_wp2_with (first | ((with_reducible refine gate_builtin (b := .append) (xs := #[.tmp 13, .tmp 16]) rfl ?_); at_builtin; refine Kd.R_append (Kd.int .u8) (w0 := w) w.heap.size rfl (.tmp 13) (.tmp 16) 22 5 (.int .u8 0) 1 rfl Try.underlying22 info5 rfl (by decide) (by omega) u3 cu ((rd l0 a5) % 256) [.int .u8 ((rd l0 a5) % 256)] (fun _ => True) (fun _ => False) rfl rfl ?aP (fun _ hk => hk.elim) ?aF ?aO ?aB ?aS ?aL ?_; (case aP => exact rfl); (case aB => exact (Ae0 HB)); (case aF => exact (fun _ _ => trivial)); (case aO => (with_reducible repeat (first | apply Kd.R_alloc | apply Kd.R_drewN | apply Kd.R_drew)); exact cX.out); (case aS => exact (below_size (Ae0 HB))); (case aL => have := eB.out; omega); intro gC w8 ho hb hg hat; rw [← eC.out] at ho; replace HB := am hb; have ex := am ho; clear cX; clear ho hb hg hat))
   go_roundg k1
   case measure => have := dy.out; omega
   case rel => exact ⟨(fm), (wrap64 (a5 + 1)), be_, aa, ⟨(by have := dy.out; omega)⟩, Cr ex, Ce0 HB⟩
  obtain rfl := Option.some.inj J; clear J Z; have fr := own_string (P := Try.prog) Try.underlying22 Try.underlying5 Try.underlying9 (Kd.own_of_R cX.out)
  go_wp2
  go_ret; exact ⟨B33x19_, (Ae0 HB)⟩
end
end Go.Proofs.Ytgffdijodnpolaa.QFnKeepTexts
