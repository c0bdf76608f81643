/- Functions that a law reaches, as functions of Lean, and the walks that show that the calls come to their answers. No condition. -/
import Derived.Test.YtfikaimmclgajaaGreatDoorQFnSnapsx0
import Derived.Test.YtfikaimmclgajaaGreatDoorQFnSnapsx1
import Derived.Test.YtfikaimmclgajaaGreatDoorQFnSnapsx7
import Derived.Test.YtfikaimmclgajaaGreatDoorQFnSnapsx8
import Derived.Test.YtfikaimmclgajaaGreatDoorVFnSnapsShort3
import Derived.Test.YtfikaimmclgajaaGreatDoorVFnSnapsShort2
import Derived.Test.YtfikaimmclgajaaGreatDoorVFnSnapsShort
import Derived.Test.YtfikaimmclgajaaGreatDoorVFnSnapsShort8
namespace Go.Proofs.YtfikaimmclgajaaGreatDoor.QFnSnaps
open Go.RowKit Go.Proofs.YtfikaimmclgajaaGreatDoorW.PrintWords Go.Proofs.YtfikaimmclgajaaGreatDoorW.PrintLast Go.Proofs.YtfikaimmclgajaaGreatDoorW.PrintMore Go.Proofs.YtfikaimmclgajaaGreatDoor.Short
set_option linter.unusedVariables false
set_option linter.unusedSimpArgs false
set_option maxHeartbeats 8000000
set_option maxRecDepth 100000
variable {p : Prop}
theorem D9x0_ (h : p := by exact ⟨bc M 0, ((hbc HB aK).trans aK), ((hbc HB aM).trans aM), ((hbc HB aN).trans aN), ((hbc HB aP).trans aP)⟩) : p := h
theorem D9x1_ (h : p := by exact ⟨⟨B31x21_⟩, ⟨tfg bq.out bp.out (by decide)⟩, ⟨tfg cY.out bp.out (by decide)⟩, Cp1 ae cI, Cp1 ak cJ, Cp1 av cK, Cp1 bB cL, Cp0 bp, Ce5 HB aT aX a6 ch dy⟩) : p := h
theorem D9x2_ (h : p := by exact ⟨Cp1 z bj, Cp1 B aC, Cp1 D aY, Cp1 Z aD, Cp0 ah, Ce5 HB ac af ag ax aG⟩) : p := h
theorem D9x3_ (h : p := by exact ⟨⟨gl_⟩, Cb z, Cb B, Cb D, Ce3 HB ac af ag⟩) : p := h
theorem D9x4_ (h : p := by exact ⟨bc z 0, bc B 0, bc B 1, bc B 2, bc B 3, bc Z 0, bc Z 1, bc Z 2⟩) : p := h
theorem D9x5_ (h : p := by exact ⟨B29x20_, gn_, (Ae5 HB ac af ag ax aG)⟩) : p := h
section
attribute [local go_sem] max2_int min2_int max_two min_two max_three min_three max_four min_four
theorem B29x20_ (h : p := by first | rfl | (simp [errW_none, errW_some] <;> rfl) | (simp [*, errW_none, errW_some] <;> rfl)) : p := h
theorem B29x21_ (h : p := by have := fa.out; have := fA.out; first | omega | exact Nat.le_refl _) : p := h
theorem B29x26_ (h : p := by first | (rw [add_block]; exact hn761_0) | (show (Addr.add _ _).block ≠ _; rw [add_block]; exact hn761_0) | exact hn761_0) : p := h
theorem B29x27_ (h : p := by first | (rw [add_block]; exact hn761_1) | (show (Addr.add _ _).block ≠ _; rw [add_block]; exact hn761_1) | exact hn761_1) : p := h
theorem B29x28_ (h : p := by first | (rw [add_block]; exact hn761_2) | (show (Addr.add _ _).block ≠ _; rw [add_block]; exact hn761_2) | exact hn761_2) : p := h
theorem B29x32_ (h : p := by have := World.block_lt_of_cell? _ _ cn; first | rwa [add_block] at this | exact this) : p := h
theorem B29x33_ (h : p := by repeat (first | exact (Kd.R_reads' ci.out).2.2 | (with_reducible refine Kd.C_alloc ?_ _) | (with_reducible refine Kd.C_drewN ?_ _) | (with_reducible refine Kd.C_drew ?_))) : p := h
theorem B29x36_ (h : p := by exact Kd.C_below br.out (Ae5 HB ac af ag ax aG)) : p := h
theorem B29x37_ (h : p := by have := fa.out; first | omega | exact Nat.le_refl _) : p := h
mutual
def spec_DoAct.j0 : Nat → Bool → List (S57) → Int → ByteArray → ByteArray → ByteArray → Option ((List (S57)) × Bool)
 | 0, _, _, _, _, _, _ => none
 | k + 1, i5, bH, cg, b8, cC, cp => if i5 = true then (some (([] : List (S57)), false)) else ((spec_l03At.f k bH b8).bind fun aQ => (if aQ ≥ 0 then (if 0 ≤ aQ then (if aQ < (bH.length : Int) then (spec_DoAct.j1 k aQ bH cg b8 cC cp ((rd_T57 bH aQ).f0) ((rd_T57 bH aQ).f1) ((rd_T57 bH aQ).f2)) else (none)) else (none)) else (spec_DoAct.j1 k aQ bH cg b8 cC cp b8 (⟨#[]⟩ : ByteArray) 0)))
def spec_DoAct.j1 : Nat → Int → List (S57) → Int → ByteArray → ByteArray → ByteArray → ByteArray → ByteArray → Int → Option ((List (S57)) × Bool)
 | 0, _, _, _, _, _, _, _, _, _ => none
 | k + 1, x6, bH, cg, b8, cC, cp, dG, cq, dk => if cg = 1 then (if cq.size + cC.size ≤ 9223372036854775807 then ((spec_l03Put.f k bH dG (cq ++ cC) dk).bind fun ef => (spec_DoAct.j3 k ef)) else (none)) else (if x6 < 0 then (some (([] : List (S57)), false)) else (if cg = 2 then ((spec_l03Put.f k bH dG cq (cq.size : Int)).bind fun eg => (spec_DoAct.j3 k eg)) else (if cg = 3 then (if dk < (cq.size : Int) then (spec_DoAct.j2 k true bH cg b8 cC cp dG cq dk) else (if cp.toList = b8.toList then (spec_DoAct.j2 k true bH cg b8 cC cp dG cq dk) else ((spec_l03Name.f cp).bind fun e3 => (spec_DoAct.j2 k (!e3) bH cg b8 cC cp dG cq dk)))) else (if cg = 4 then ((spec_l03Without.f k bH b8).bind fun ej => (spec_DoAct.j3 k ej)) else (some (([] : List (S57)), false))))))
def spec_DoAct.j3 : Nat → List (S57) → Option ((List (S57)) × Bool)
 | 0, _ => none
 | k + 1, gw => (spec_DiskOk.f k gw).bind fun gj => (if gj = true then (some (gw, true)) else (some (([] : List (S57)), false)))
def spec_DoAct.j2 : Nat → Bool → List (S57) → Int → ByteArray → ByteArray → ByteArray → ByteArray → ByteArray → Int → Option ((List (S57)) × Bool)
 | 0, _, _, _, _, _, _, _, _, _ => none
 | k + 1, i4, bH, cg, b8, cC, cp, dG, cq, dk => if i4 = true then (some (([] : List (S57)), false)) else ((spec_l03Without.f k bH b8).bind fun eh => ((spec_l03Put.f k eh cp cq dk).bind fun ei => (spec_DoAct.j3 k ei)))
end
def spec_DoAct.f (k : Nat) (l : List (S57)) (aE : Int) (aj : ByteArray) (ar : ByteArray) (au : ByteArray) : Option ((List (S57)) × Bool) := (spec_DiskOk.f k l).bind fun gh => (if gh = true then ((spec_l03Name.f aj).bind fun gi => (if gi = true then (if aE = 3 then (if aE = 1 then (spec_DoAct.j0 k false l aE aj ar au) else (spec_DoAct.j0 k (ar.toList != ([] : List UInt8)) l aE aj ar au)) else (if au.toList = ([] : List UInt8) then (if aE = 1 then (spec_DoAct.j0 k false l aE aj ar au) else (spec_DoAct.j0 k (ar.toList != ([] : List UInt8)) l aE aj ar au)) else (spec_DoAct.j0 k true l aE aj ar au))) else (spec_DoAct.j0 k true l aE aj ar au))) else (spec_DoAct.j0 k true l aE aj ar au))
theorem spec_DoAct.calls (k : Nat) (U : Option Addr) (J : Nat) (l : List (S57)) (aE : Int) (aj : ByteArray) (ar : ByteArray) (au : ByteArray) (r1 : List (S57)) (r2 : Bool) (w : World) (cO : Kd.C k57 w U l.length l) (cN : l.length ≤ J) (h : spec_DoAct.f k l aE aj ar au = some (r1, r2)) :
  Calls Tryz.prog 37 #[.agg #[.slice U l.length J], .agg #[.int .i64 aE, .string aj, .string ar, .string au]] w fun e w' => ∃ el : Value, e = .returned (.tuple #[.agg #[el], .bool r2]) ∧ Kd.R k57 57 w' w.heap.size (fun _ => True) el r1 ∧ Below w.heap.size w w' := by
 have f8 := Tryz.underlying26
 have iP := Tryz.underlying74
 have iO := Tryz.underlying57
 have br := am cO
 have bC := am cN
 clear cO cN
 have HB := am (Below.refl w.heap.size w)
 have aA := h
 clear h
 unfold spec_DoAct.f at aA
 replace aA := am aA
 go_enter Tryz.func37, Tryz.ntmps37
 go_upto_region 1 with (first | ((with_reducible refine gate_dst (N := 2) rfl ?_); refine bx (N := 2) (cs := #[.slice U l.length J]) (t := 26) ?_; intro aZ hg w4 hbox hb; have z := am hbox; have ac := gA hg HB; replace HB := hA HB hb; clear hb hbox hg) | ((with_reducible refine gate_dst (N := 3) rfl ?_); refine bx (N := 3) (cs := #[.int .i64 aE, .string aj, .string ar, .string au]) (t := 74) ?_; intro b4 hg w5 hbox hb; have B := am hbox; have af := gA hg HB; replace HB := De1 HB ac hb; have bh := nA hg z; have bk := mA hg z; replace z := bA z hb; clear hb hbox hg) | ((with_reducible refine gate_dst (N := 4) rfl ?_); refine bx (N := 4) (cs := #[.slice none 0 0]) (t := 26) ?_; intro a4 hg w6 hbox hb; have D := am hbox; have ag := gA hg HB; replace HB := De2 HB ac af hb; have bi := nA hg z; have bl := mA hg z; replace z := bA z hb; have a7 := nA hg B; have a8 := mA hg B; replace B := bA B hb; clear hb hbox hg))
 (try simp only [Act.put, List.setIfInBounds_toArray, List.set_cons_zero, List.set_cons_succ])
 go_cut [37] (fun iT wc => ∃ (kq : Nat) (fo : Bool), iT = .bool fo ∧ Aside0 (spec_DoAct.j0 kq fo l aE aj ar au = some (r1, r2)) ∧ Aside0 (kq ≤ k) ∧ Hc wc aZ #[(.slice U l.length J)] 26 ∧ Hc wc b4 #[.int .i64 aE, .string aj, .string ar, .string au] 74 ∧ Hc wc a4 #[(.slice none 0 0)] 26 ∧ Hb w wc)
 case first =>
  replace aA := aA.out; obtain ⟨gh, A7, aW⟩ := bsi aA; (try dsimp only at aW)
  obtain ⟨rfl, az⟩ | ⟨rfl, az⟩ := sb aW
  ·obtain ⟨gi, A9, aU⟩ := bsi az; (try dsimp only at aU)
   obtain ⟨rfl, a3⟩ | ⟨rfl, a3⟩ := sb aU
   ·obtain ⟨eQ, bF⟩ | ⟨eQ, bF⟩ := sp a3
    ·obtain ⟨dN, he⟩ := yE eQ; clear eQ
     (first | rw [dN] | (simp only [i64_w, i32_w]; rw [dN]) | skip)
     obtain ⟨eR, bv⟩ | ⟨eR, bv⟩ := sp bF
     ·obtain ⟨hf, hh⟩ := yE eR; clear eR; replace bv := am bv; clear aA aW az aU a3 bF; obtain ⟨h3, ir, h4, iu⟩ := o4_ bh bk bi bl
      have jc : w6.cell? ⟨aZ, 0, none⟩ = some (.slice U l.length J) := bc z 0
      have ji := blk_frozen z.out 0
      go_wp2_with (first | ((with_reducible refine gate_callee (f := 62) rfl ?_); refine goesL_ (some 10) rfl rfl Tryz.func62 gk_ rfl #[.agg #[.slice U l.length J]] rfl gm_ ?_; refine (spec_DiskOk.calls k _ _ l true _ (tc (Kd.C_below br.out HB.out)) bC.out A7.out).mono ?_; rintro e oV ⟨rfl, hb⟩; refine ⟨_, rfl, ?_⟩; replace z := bA z hb; replace B := bA B hb; replace D := bA D hb; replace HB := De3 HB ac af ag hb; have kE := a7.out; have mV := a8.out; obtain ⟨bI, bJ, bK, bL, bM, bN, bO, bP⟩ := cf4 B) | (go_at_call 63; refine (spec_l03Name.calls aj true _ A9.out).mono ?_; rintro e w' ⟨rfl, ⟨nd, rfl⟩⟩))
      go_meet
      case rel => exact ⟨_, false, be_, bv, D9x3_⟩
     obtain ⟨hf, hh⟩ := nE eR; replace bv := am bv; clear aA aW az aU a3 bF; obtain ⟨kQ, m7, kU, nb⟩ := o4_ bh bk bi bl
     have pp : w6.cell? ⟨aZ, 0, none⟩ = some (.slice U l.length J) := bc z 0
     have pV := blk_frozen z.out 0
     go_wp2_with (first | ((with_reducible refine gate_callee (f := 62) rfl ?_); refine goesL_ (some 10) rfl rfl Tryz.func62 gk_ rfl #[.agg #[.slice U l.length J]] rfl gm_ ?_; refine (spec_DiskOk.calls k _ _ l true _ (tc (Kd.C_below br.out HB.out)) bC.out A7.out).mono ?_; rintro e gn ⟨rfl, hb⟩; refine ⟨_, rfl, ?_⟩; replace z := bA z hb; replace B := bA B hb; replace D := bA D hb; replace HB := De3 HB ac af ag hb; have h5 := a7.out; have iv := a8.out; obtain ⟨bI, bJ, bK, bL, bM, bN, bO, bP⟩ := cf4 B) | (go_at_call 63; refine (spec_l03Name.calls aj true _ A9.out).mono ?_; rintro e w' ⟨rfl, ⟨nd, rfl⟩⟩))
     go_meet
     case rel => exact ⟨_, ((ar.toList != ([] : List UInt8))), be_, bv, D9x3_⟩
    obtain ⟨dN, he⟩ := nE eQ
    (first | rw [dN] | (simp only [i64_w, i32_w]; rw [dN]) | skip)
    obtain ⟨eU, b9⟩ | ⟨eU, b9⟩ := sp bF
    ·obtain ⟨ht, hu⟩ := yE eU; clear eU
     obtain ⟨eV, bd⟩ | ⟨eV, bd⟩ := sp b9
     ·obtain ⟨hv, hx⟩ := yE eV; clear eV; replace bd := am bd; clear aA aW az aU a3 bF b9; obtain ⟨h6, iw, h7, ix⟩ := o4_ bh bk bi bl
      have px : w6.cell? ⟨aZ, 0, none⟩ = some (.slice U l.length J) := bc z 0
      have p1 := blk_frozen z.out 0
      go_wp2_with (first | ((with_reducible refine gate_callee (f := 62) rfl ?_); refine goesL_ (some 10) rfl rfl Tryz.func62 gk_ rfl #[.agg #[.slice U l.length J]] rfl gm_ ?_; refine (spec_DiskOk.calls k _ _ l true _ (tc (Kd.C_below br.out HB.out)) bC.out A7.out).mono ?_; rintro e o3 ⟨rfl, hb⟩; refine ⟨_, rfl, ?_⟩; replace z := bA z hb; replace B := bA B hb; replace D := bA D hb; replace HB := De3 HB ac af ag hb; have fZ := a7.out; have f3 := a8.out; obtain ⟨bI, bJ, bK, bL, bM, bN, bO, bP⟩ := cf4 B) | (go_at_call 63; refine (spec_l03Name.calls aj true _ A9.out).mono ?_; rintro e w' ⟨rfl, ⟨nd, rfl⟩⟩))
      go_meet
      case rel => exact ⟨_, false, be_, bd, D9x3_⟩
     obtain ⟨hv, hx⟩ := nE eV; replace bd := am bd; clear aA aW az aU a3 bF b9; obtain ⟨lu, nO, lv, nP⟩ := o4_ bh bk bi bl
     have pA : w6.cell? ⟨aZ, 0, none⟩ = some (.slice U l.length J) := bc z 0
     have p7 := blk_frozen z.out 0
     go_wp2_with (first | ((with_reducible refine gate_callee (f := 62) rfl ?_); refine goesL_ (some 10) rfl rfl Tryz.func62 gk_ rfl #[.agg #[.slice U l.length J]] rfl gm_ ?_; refine (spec_DiskOk.calls k _ _ l true _ (tc (Kd.C_below br.out HB.out)) bC.out A7.out).mono ?_; rintro e gq ⟨rfl, hb⟩; refine ⟨_, rfl, ?_⟩; replace z := bA z hb; replace B := bA B hb; replace D := bA D hb; replace HB := De3 HB ac af ag hb; have lw := a7.out; have nQ := a8.out; obtain ⟨bI, bJ, bK, bL, bM, bN, bO, bP⟩ := cf4 B) | (go_at_call 63; refine (spec_l03Name.calls aj true _ A9.out).mono ?_; rintro e w' ⟨rfl, ⟨nd, rfl⟩⟩))
     go_meet
     case rel => exact ⟨_, ((ar.toList != ([] : List UInt8))), be_, bd, D9x3_⟩
    obtain ⟨ht, hu⟩ := nE eU; replace b9 := am b9; clear aA aW az aU a3 bF; obtain ⟨ia, iA, ib, iB⟩ := o4_ bh bk bi bl
    have pB : w6.cell? ⟨aZ, 0, none⟩ = some (.slice U l.length J) := bc z 0
    have p8 := blk_frozen z.out 0
    go_wp2_with (first | ((with_reducible refine gate_callee (f := 62) rfl ?_); refine goesL_ (some 10) rfl rfl Tryz.func62 gk_ rfl #[.agg #[.slice U l.length J]] rfl gm_ ?_; refine (spec_DiskOk.calls k _ _ l true _ (tc (Kd.C_below br.out HB.out)) bC.out A7.out).mono ?_; rintro e o5 ⟨rfl, hb⟩; refine ⟨_, rfl, ?_⟩; replace z := bA z hb; replace B := bA B hb; replace D := bA D hb; replace HB := De3 HB ac af ag hb; have f0 := a7.out; have f4 := a8.out; obtain ⟨bI, bJ, bK, bL, bM, bN, bO, bP⟩ := cf4 B) | (go_at_call 63; refine (spec_l03Name.calls aj true _ A9.out).mono ?_; rintro e w' ⟨rfl, ⟨nd, rfl⟩⟩))
    go_meet
    case rel => exact ⟨_, true, be_, b9, D9x3_⟩
   replace a3 := am a3; clear aA aW az aU; obtain ⟨f1, f5, ie, iD⟩ := o4_ bh bk bi bl
   have jd : w6.cell? ⟨aZ, 0, none⟩ = some (.slice U l.length J) := bc z 0
   have jj := blk_frozen z.out 0
   go_wp2_with (first | ((with_reducible refine gate_callee (f := 62) rfl ?_); refine goesL_ (some 10) rfl rfl Tryz.func62 gk_ rfl #[.agg #[.slice U l.length J]] rfl gm_ ?_; refine (spec_DiskOk.calls k _ _ l true _ (tc (Kd.C_below br.out HB.out)) bC.out A7.out).mono ?_; rintro e o6 ⟨rfl, hb⟩; refine ⟨_, rfl, ?_⟩; replace z := bA z hb; replace B := bA B hb; replace D := bA D hb; replace HB := De3 HB ac af ag hb; have f2 := a7.out; have f6 := a8.out; obtain ⟨bI, bJ, bK, bL, bM, bN, bO, bP⟩ := cf4 B) | (go_at_call 63; refine (spec_l03Name.calls aj false _ A9.out).mono ?_; rintro e w' ⟨rfl, ⟨nd, rfl⟩⟩))
   go_meet
   case rel => exact ⟨_, true, be_, a3, D9x3_⟩
  replace az := am az; clear aA aW; obtain ⟨lC, nW, ih, iF⟩ := o4_ bh bk bi bl
  have je : w6.cell? ⟨aZ, 0, none⟩ = some (.slice U l.length J) := bc z 0
  have jk := blk_frozen z.out 0
  go_wp2_with (first | ((with_reducible refine gate_callee (f := 62) rfl ?_); refine goesL_ (some 10) rfl rfl Tryz.func62 gk_ rfl #[.agg #[.slice U l.length J]] rfl gm_ ?_; refine (spec_DiskOk.calls k _ _ l false _ (tc (Kd.C_below br.out HB.out)) bC.out A7.out).mono ?_; rintro e o7 ⟨rfl, hb⟩; refine ⟨_, rfl, ?_⟩; replace z := bA z hb; replace B := bA B hb; replace D := bA D hb; replace HB := De3 HB ac af ag hb))
  go_meet
  case rel => exact ⟨_, true, be_, az, D9x3_⟩
 clear aA
 obtain ⟨kq, fo, rfl, bD, fa, z, B, D, HB⟩ := hcut
 cases kq with
 | zero => exact absurd bD.out (by simp [spec_DoAct.j0])
 | succ gb => ?_
 replace bD := bD.out
 simp only [spec_DoAct.j0] at bD
 obtain ⟨rfl, bX⟩ | ⟨rfl, bX⟩ := sb bD
 ·obtain ⟨rfl, rfl⟩ := s2 bX; clear bX bD; obtain ⟨ii, iG, lG, n0⟩ := o4_ bl bi a8 a7
  have pE : wc.cell? ⟨a4, 0, none⟩ = some (.slice none 0 0) := bc D 0
  have qb := blk_frozen D.out 0
  go_wp2
  refine bodyPost_ret (results_ct rfl _ _ a4 26 #[.slice none 0 0] (0, 0) _ rfl (Ap0 D) Tryz.underlying26 rfl gk_) rfl ?_; exact ⟨_, B29x20_, gn_, (Ae3 HB ac af ag)⟩
 obtain ⟨aQ, gR, bu⟩ := bsi bX
 (try dsimp only at bu)
 replace bu := am bu
 clear bD bX
 obtain ⟨lK, oa, lM, ob⟩ := o4_ bh bk bi bl
 have pF : wc.cell? ⟨aZ, 0, none⟩ = some (.slice U l.length J) := bc z 0
 have qc := blk_frozen z.out 0
 obtain ⟨ij, iH⟩ := o2_ a7 a8
 obtain ⟨bI, bJ, bK, bL, bM, bN, bO, bP⟩ := cf4 B
 go_upto_if 47 with (first | ((with_reducible refine gate_callee (f := 64) rfl ?_); refine goesL_ (some 42) rfl rfl Tryz.func64 gk_ rfl #[.agg #[.slice U l.length J], .string aj] rfl gm_ ?_; refine (spec_l03At.calls gb _ _ l aj aQ _ (tc (Kd.C_below br.out HB.out)) bC.out gR.out).mono ?_; rintro e o8 ⟨rfl, hb⟩; refine ⟨_, rfl, ?_⟩; replace z := bA z hb; replace B := bA B hb; replace D := bA D hb; replace HB := De3 HB ac af ag hb; obtain ⟨bI, bJ, bK, bL, bM, bN, bO, bP⟩ := cf4 B) | ((with_reducible refine gate_dst (N := 7) rfl ?_); refine bx (N := 7) (cs := #[.string (⟨#[]⟩ : ByteArray), .string (⟨#[]⟩ : ByteArray), .int .i64 0]) (t := 57) ?_; intro ao hg gr hbox hb; have Z := am hbox; have e9 := gA hg HB; have ax := gA hg HB; replace HB := De3 HB ac af ag hb; have bU := nA hg z; have cv := mA hg z; replace z := bA z hb; have bw := nA hg B; have b5 := mA hg B; replace B := bA B hb; have bm := nA hg D; have bZ := mA hg D; replace D := bA D hb; clear hb hbox hg; have ik := cv.out; have iI := bU.out; have lR := b5.out; have oh := bw.out; have il := bZ.out; have iJ := bm.out; obtain ⟨dq, dr, dt, du, dv, dw⟩ := cf3 Z))
 (try simp only [Act.put, List.setIfInBounds_toArray, List.set_cons_zero, List.set_cons_succ])
 go_cut [] (fun wc => ∃ (kq : Nat) (bo : ByteArray) (aw : ByteArray) (a9 : Int), Aside0 (spec_DoAct.j1 kq aQ l aE aj ar au bo aw a9 = some (r1, r2)) ∧ Aside0 (kq ≤ gb) ∧ Hc wc aZ #[(.slice U l.length J)] 26 ∧ Hc wc b4 #[.int .i64 aE, .string aj, .string ar, .string au] 74 ∧ Hc wc a4 #[(.slice none 0 0)] 26 ∧ Hc wc ao #[.string bo, .string aw, .int .i64 a9] 57 ∧ Hb w wc)
 case first =>
  replace bu := bu.out
  obtain ⟨dT, bT⟩ | ⟨dT, bT⟩ := sp bu
  ·have dU : decide (0 ≤ aQ) = true := decide_eq_true dT
   clear dT
   (first | rw [dU] | (simp only [i64_w, i32_w]; rw [dU]) | skip)
   obtain ⟨jw, cj⟩ := yd bT; obtain ⟨jx, ct⟩ := yd cj; replace ct := am ct; clear bu bT cj; obtain ⟨lT, oi, im, iK, io, iL⟩ := o6_ bh bk bi bl bU cv
   have pG : gr.cell? ⟨aZ, 0, none⟩ = some (.slice U l.length J) := bc z 0
   have qd := blk_frozen z.out 0
   have fk : 0 ≤ (aQ : Int) := dga
   have fl : aQ < (l.length : Int) := dga
   obtain ⟨eP, hR, cn, cz, cA⟩ := at_T57 br.out aQ fk fl; cases hR
   have hn761_0 : eP.block ≠ ao := Nat.ne_of_lt (Nat.lt_of_lt_of_le B29x32_ e9.out)
   have hn761_1 : eP.block ≠ ao := Nat.ne_of_lt (Nat.lt_of_lt_of_le B29x32_ e9.out)
   have hn761_2 : eP.block ≠ ao := Nat.ne_of_lt (Nat.lt_of_lt_of_le B29x32_ e9.out)
   replace cn := (hbc HB cn).trans cn; replace cz := (hbc HB cz).trans cz; replace cA := (hbc HB cA).trans cA; replace cn := (cell_far (p := ⟨ao, 0, none⟩) B29x26_ (.string aj)).trans cn; replace cz := (cell_far (p := ⟨ao, 0, none⟩) B29x26_ (.string aj)).trans cz; replace cA := (cell_far (p := ⟨ao, 0, none⟩) B29x26_ (.string aj)).trans cA; replace cn := (cell_far (p := ⟨ao, 1, none⟩) B29x27_ (.string (⟨#[]⟩ : ByteArray))).trans cn; replace cz := (cell_far (p := ⟨ao, 1, none⟩) B29x27_ (.string (⟨#[]⟩ : ByteArray))).trans cz; replace cA := (cell_far (p := ⟨ao, 1, none⟩) B29x27_ (.string (⟨#[]⟩ : ByteArray))).trans cA; replace cn := (cell_far (p := ⟨ao, 2, none⟩) B29x28_ (.int .i64 0)).trans cn; replace cz := (cell_far (p := ⟨ao, 2, none⟩) B29x28_ (.int .i64 0)).trans cz; replace cA := (cell_far (p := ⟨ao, 2, none⟩) B29x28_ (.int .i64 0)).trans cA; clear hn761_0; clear hn761_1; clear hn761_2; replace fk := eq_true fk; replace fl := eq_true fl; obtain ⟨iq, iN, lU, oj⟩ := o4_ b5 bw bZ bm; obtain ⟨dq, dr, dt, du, dv, dw⟩ := cf3 Z
   go_wp2_with (first | ((with_reducible refine gate_store (t := 57) (p := 7) rfl ?_); refine store_event (t := 57) (p := 7) (v := ?vo_w83) (w1 := ((((((gr.setCell ⟨ao, 0, none⟩ (.string aj)).setCell ⟨ao, 1, none⟩ (.string (⟨#[]⟩ : ByteArray))).setCell ⟨ao, 2, none⟩ (.int .i64 0)).setCell ⟨ao, 0, none⟩ (.string ((rd_T57 l aQ).f0))).setCell ⟨ao, 1, none⟩ (.string ((rd_T57 l aQ).f1))).setCell ⟨ao, 2, none⟩ (.int .i64 ((rd_T57 l aQ).f2)))) ?hg ?ho ?hn ?hr ?_; (case ho => rfl); (case hg => rfl); (case hn => rfl); (case hr => exact gs_); intro em hw; replace z : Hc em aZ #[.slice (some eP) l.length J] 26 := ⟨wAp1 z bU⟩; replace B : Hc em b4 #[.int .i64 aE, .string aj, .string ar, .string au] 74 := ⟨wAp1 B bw⟩; replace D : Hc em a4 #[.slice none 0 0] 26 := ⟨wAp1 D bm⟩; replace Z : Hc em ao #[.string ((rd_T57 l aQ).f0), .string ((rd_T57 l aQ).f1), .int .i64 ((rd_T57 l aQ).f2)] 57 := ⟨wAp0 Z⟩; replace HB : Hb w em := ⟨wAe4 HB ac af ag ax⟩; clear hw))
   go_meet
   case rel => exact ⟨_, ((rd_T57 l aQ).f0), ((rd_T57 l aQ).f1), ((rd_T57 l aQ).f2), ct, ⟨B29x37_⟩, Cb z, Cb B, Cb D, Cb Z, Ce4 HB ac af ag ax⟩
  have dU : decide (0 ≤ aQ) = false := decide_eq_false dT
  clear dT
  (first | rw [dU] | (simp only [i64_w, i32_w]; rw [dU]) | skip)
  replace bT := am bT; clear bu
  go_wp2
  go_meet
  case rel => exact ⟨_, aj, ((⟨#[]⟩ : ByteArray)), 0, bT, ⟨B29x37_⟩, Cp1 z bU, Cp1 B bw, Cp1 D bm, Cp0 Z, Ce4 HB ac af ag ax⟩
 clear bu
 try clear hC
 obtain ⟨kq, bo, aw, a9, bE, fA, z, B, D, Z, HB⟩ := hcut
 cases kq with
 | zero => exact absurd bE.out (by simp [spec_DoAct.j1])
 | succ ee => ?_
 replace bE := bE.out
 simp only [spec_DoAct.j1] at bE
 replace bE := am bE
 go_upto_block 0 with (first | ((with_reducible refine gate_dst (N := 8) rfl ?_); refine bx (N := 8) (cs := #[.slice none 0 0]) (t := 26) ?_; intro a0 hg dF hbox hb; have ah := am hbox; have aG := gA hg HB; replace HB := De4 HB ac af ag ax hb; have bj := nA hg z; have dd := mA hg z; replace z := bA z hb; have aC := nA hg B; have b0 := mA hg B; replace B := bA B hb; have aY := nA hg D; have ck := mA hg D; replace D := bA D hb; have aD := nA hg Z; have bV := mA hg Z; replace Z := bA Z hb; clear hb hbox hg; have lV := dd.out; have ol := bj.out; have lW := b0.out; have om := aC.out; have lX := ck.out; have oo := aY.out; have lY := bV.out; have oq := aD.out; have pI : dF.cell? ⟨a0, 0, none⟩ = some (.slice none 0 0) := bc ah 0; have qf := blk_frozen ah.out 0))
 (try simp only [Act.put, List.setIfInBounds_toArray, List.set_cons_zero, List.set_cons_succ])
 go_cut [] (fun wc => ∃ (kq : Nat) (gs : ByteArray) (gu : ByteArray) (gv : Int) (cD : List (S57)) (ek : Value), Aside0 (spec_DoAct.j3 kq cD = some (r1, r2)) ∧ Aside0 (kq ≤ ee) ∧ Aside0 (Kd.R k57 57 wc w.heap.size (fun k_ => k_ ≠ ao) ek cD) ∧ Hc wc aZ #[(.slice U l.length J)] 26 ∧ Hc wc b4 #[.int .i64 aE, .string aj, .string ar, .string au] 74 ∧ Hc wc a4 #[(.slice none 0 0)] 26 ∧ Hc wc ao #[.string gs, .string gu, .int .i64 gv] 57 ∧ Hc wc a0 #[ek] 26 ∧ Hb w wc)
 case first =>
  replace bE := bE.out
  obtain ⟨dV, cu⟩ | ⟨dV, cu⟩ := sp bE
  ·obtain ⟨dD, fS⟩ := yE dV; clear dV
   (first | rw [dD] | (simp only [i64_w, i32_w]; rw [dD]) | skip)
   obtain ⟨fg, fG⟩ := yn cu; have jy := eq_true fg; have jz := decide_eq_true fg
   try have hE : (9223372036854775807 < aw.size + ar.size) = False := eq_false (Nat.not_lt.2 fg)
   try (have hF := hE; simp only [ByteArray.size_append] at hF)
   obtain ⟨ef, gU, eC⟩ := bsi fG; (try dsimp only at eC); replace eC := am eC; clear bE cu fG; obtain ⟨lZ, ot, l2, ou, l3, ov, l4, ow⟩ := o8_ bk bh a7 a8 bw b5 aC b0; obtain ⟨bI, bJ, bK, bL, bM, bN, bO, bP⟩ := cf4 B; obtain ⟨l5, ox, jP, l7, jQ, l8⟩ := o6_ cv bU bZ bm aD bV; obtain ⟨dq, dr, dt, du, dv, dw⟩ := cf3 Z; obtain ⟨jR, l9, jS, ma⟩ := o4_ bi bl bj dd
   have pc : dF.cell? ⟨aZ, 0, none⟩ = some (.slice U l.length J) := bc z 0
   have pK := blk_frozen z.out 0
   go_wp2_with (first | ((with_reducible refine gate_callee (f := 20) rfl ?_); refine goesL_ (some 67) rfl rfl Tryz.func20 gk_ rfl #[.agg #[.slice U l.length J], .agg #[.string bo, .string (aw ++ ar), .int .i64 a9]] rfl gm_ ?_; refine (spec_l03Put.calls ee _ _ l bo (aw ++ ar) a9 ef _ B29x36_ bC.out gU.out).mono ?_; rintro e iW ⟨oN, rfl, aV, hb⟩; refine ⟨_, rfl, ?_⟩; have fB := am (Kd.R_lower (Kd.R_newB aV (g := ao) (o := .cells #[.string bo, .string (aw ++ ar), .int .i64 a9] 57 (0, 0)) (Ap1 Z aD)) (below_size (Ae5 HB ac af ag ax aG))); replace z := am (blk_below (g := aZ) (o := .cells #[.slice U l.length J] 26 (0, 0)) (Ap2 z bU bj) hb); replace B := am (blk_below (g := b4) (o := .cells #[.int .i64 aE, .string aj, .string ar, .string au] 74 (0, 0)) (Ap2 B bw aC) hb); replace D := am (blk_below (g := a4) (o := .cells #[.slice none 0 0] 26 (0, 0)) (Ap2 D bm aY) hb); replace Z := am (blk_below (g := ao) (o := .cells #[.string bo, .string (aw ++ ar), .int .i64 a9] 57 (0, 0)) (Ap1 Z aD) hb); replace ah := am (blk_below (g := a0) (o := .cells #[.slice none 0 0] 26 (0, 0)) (Ap1 ah bV) hb); replace HB := De5 HB ac af ag ax aG hb; obtain ⟨gV, hG, hT⟩ := Kd.R_slice fB.out; subst hT; have jT := ck.out; have mb := aY.out; have pd : iW.cell? ⟨a0, 0, none⟩ = some (.slice none 0 0) := bc ah 0; have pL := blk_frozen ah.out 0))
   go_meet
   case rel => exact ⟨_, bo, (aw ++ ar), a9, ef, (.slice gV ef.length hG), eC, ⟨B29x21_⟩, ⟨tfg fB.out ah.out (by decide)⟩, D9x2_⟩
  obtain ⟨dD, fS⟩ := nE dV
  (first | rw [dD] | (simp only [i64_w, i32_w]; rw [dD]) | skip)
  obtain ⟨fM, cH⟩ | ⟨fM, cH⟩ := sd cu
  ·obtain ⟨rfl, rfl⟩ := s2 cH; clear cH bE cu; obtain ⟨jU, mc, jV, md, jW, me, jX, mf⟩ := o8_ bk bh a7 a8 bw b5 aC b0; obtain ⟨bI, bJ, bK, bL, bM, bN, bO, bP⟩ := cf4 B; obtain ⟨jY, mg, jZ, mh, j4, mi⟩ := o6_ bl bi bm bZ aY ck
   have pe : dF.cell? ⟨a4, 0, none⟩ = some (.slice none 0 0) := bc D 0
   have pM := blk_frozen D.out 0
   go_wp2
   refine bodyPost_ret (results_ct rfl _ _ a4 26 #[.slice none 0 0] (0, 0) _ rfl (Ap1 D aY) Tryz.underlying26 rfl gk_) rfl ?_; exact ⟨_, D9x5_⟩
  obtain ⟨dO, cZ⟩ | ⟨dO, cZ⟩ := sp cH
  ·obtain ⟨fN, fO⟩ := yE dO; clear dO; obtain ⟨eg, gI, eD⟩ := bsi cZ; (try dsimp only at eD); replace eD := am eD; clear bE cu cH cZ; obtain ⟨j5, mj, j6, ml, j7, mm, j8, mo⟩ := o8_ bk bh a7 a8 bw b5 aC b0; obtain ⟨bI, bJ, bK, bL, bM, bN, bO, bP⟩ := cf4 B; obtain ⟨j9, mp, ka, mq, kc, mr⟩ := o6_ cv bU bZ bm aD bV; obtain ⟨dq, dr, dt, du, dv, dw⟩ := cf3 Z; obtain ⟨kd, ms, ke, mt⟩ := o4_ bi bl bj dd
   have pg : dF.cell? ⟨aZ, 0, none⟩ = some (.slice U l.length J) := bc z 0
   have pO := blk_frozen z.out 0
   go_wp2_with (first | ((with_reducible refine gate_callee (f := 20) rfl ?_); refine goesL_ (some 82) rfl rfl Tryz.func20 gk_ rfl #[.agg #[.slice U l.length J], .agg #[.string bo, .string aw, .int .i64 (aw.size : Int)]] rfl gm_ ?_; refine (spec_l03Put.calls ee _ _ l bo aw (aw.size : Int) eg _ B29x36_ bC.out gI.out).mono ?_; rintro e iX ⟨oO, rfl, aV, hb⟩; refine ⟨_, rfl, ?_⟩; have fC := am (Kd.R_lower (Kd.R_newB aV (g := ao) (o := .cells #[.string bo, .string aw, .int .i64 (aw.size : Int)] 57 (0, 0)) (Ap1 Z aD)) (below_size (Ae5 HB ac af ag ax aG))); replace z := am (blk_below (g := aZ) (o := .cells #[.slice U l.length J] 26 (0, 0)) (Ap2 z bU bj) hb); replace B := am (blk_below (g := b4) (o := .cells #[.int .i64 aE, .string aj, .string ar, .string au] 74 (0, 0)) (Ap2 B bw aC) hb); replace D := am (blk_below (g := a4) (o := .cells #[.slice none 0 0] 26 (0, 0)) (Ap2 D bm aY) hb); replace Z := am (blk_below (g := ao) (o := .cells #[.string bo, .string aw, .int .i64 (aw.size : Int)] 57 (0, 0)) (Ap1 Z aD) hb); replace ah := am (blk_below (g := a0) (o := .cells #[.slice none 0 0] 26 (0, 0)) (Ap1 ah bV) hb); replace HB := De5 HB ac af ag ax aG hb; obtain ⟨gX, hI, hV⟩ := Kd.R_slice fC.out; subst hV; have kf := ck.out; have mw := aY.out; have pi : iX.cell? ⟨a0, 0, none⟩ = some (.slice none 0 0) := bc ah 0; have pP := blk_frozen ah.out 0))
   go_meet
   case rel => exact ⟨_, bo, aw, ((aw.size : Int)), eg, (.slice gX eg.length hI), eD, ⟨B29x21_⟩, ⟨tfg fC.out ah.out (by decide)⟩, D9x2_⟩
  obtain ⟨fN, fO⟩ := nE dO
  obtain ⟨dP, bY⟩ | ⟨dP, bY⟩ := sp cZ
  ·obtain ⟨fP, fQ⟩ := yE dP; clear dP; replace bY := am bY; clear bE cu cH cZ; obtain ⟨kg, my, kh, mz, ki, mB, kj, mC⟩ := o8_ bk bh a7 a8 bw b5 aC b0; obtain ⟨bI, bJ, bK, bL, bM, bN, bO, bP⟩ := cf4 B
   go_upto_region 18 with (fail)
   go_cut [105] (fun iR wc => ∃ (kq : Nat) (fn : Bool), iR = .bool fn ∧ Aside0 (spec_DoAct.j2 kq fn l aE aj ar au bo aw a9 = some (r1, r2)) ∧ Aside0 (kq ≤ ee) ∧ Hc wc aZ #[(.slice U l.length J)] 26 ∧ Hc wc b4 #[.int .i64 aE, .string aj, .string ar, .string au] 74 ∧ Hc wc a4 #[(.slice none 0 0)] 26 ∧ Hc wc ao #[.string bo, .string aw, .int .i64 a9] 57 ∧ Hc wc a0 #[(.slice none 0 0)] 26 ∧ Hb w wc)
   case first =>
    replace bY := bY.out
    obtain ⟨dQ, da⟩ | ⟨dQ, da⟩ := sd bY
    ·(first | rw [dQ] | (simp only [i64_w, i32_w]; rw [dQ]) | skip)
     replace da := am da; clear bY; obtain ⟨kk, mD, kl, mE, km, mF, kn, mG⟩ := o8_ cv bU b5 bw bZ bm aD bV; obtain ⟨dq, dr, dt, du, dv, dw⟩ := cf3 Z
     go_wp2
     go_meet
     case rel => exact ⟨_, true, be_, da, ⟨B29x21_⟩, D9x2_⟩
    (first | rw [dQ] | (simp only [i64_w, i32_w]; rw [dQ]) | skip)
    obtain ⟨eS, dz⟩ | ⟨eS, dz⟩ := sp da
    ·obtain ⟨hj, hl⟩ := yE eS; clear eS; replace dz := am dz; clear bY da; obtain ⟨ko, mH, kp, mI, kr, mJ, ks, mK⟩ := o8_ cv bU b5 bw bZ bm aD bV; obtain ⟨dq, dr, dt, du, dv, dw⟩ := cf3 Z; obtain ⟨kt, mL, ku, mM, kv, mN⟩ := o6_ bk bh a7 a8 aC b0; obtain ⟨bI, bJ, bK, bL, bM, bN, bO, bP⟩ := cf4 B
     go_wp2
     go_meet
     case rel => exact ⟨_, true, be_, dz, ⟨B29x21_⟩, D9x2_⟩
    obtain ⟨hj, hl⟩ := nE eS; obtain ⟨e3, gJ, eE⟩ := bsi dz; (try dsimp only at eE); replace eE := am eE; clear bY da dz; obtain ⟨kw, mO, kx, mP, ky, mQ, kz, mR⟩ := o8_ cv bU b5 bw bZ bm aD bV; obtain ⟨dq, dr, dt, du, dv, dw⟩ := cf3 Z; obtain ⟨kB, mS, kC, mT, kD, mU⟩ := o6_ bk bh a7 a8 aC b0; obtain ⟨bI, bJ, bK, bL, bM, bN, bO, bP⟩ := cf4 B
    go_wp2_with (first | (go_at_call 63; refine (spec_l03Name.calls au e3 _ gJ.out).mono ?_; rintro e w' ⟨rfl, ⟨nd, rfl⟩⟩))
    go_meet
    case rel => exact ⟨_, (!e3), be_, eE, ⟨B29x21_⟩, D9x2_⟩
   clear bY
   try clear hC
   try clear dV
   try clear dD
   try clear fS
   try clear jr
   try clear fM
   try clear dO
   try clear fN
   try clear fO
   try clear dP
   try clear fP
   try clear fQ
   obtain ⟨kq, fn, rfl, db, g5, z, B, D, Z, ah, HB⟩ := hcut
   cases kq with
   | zero => exact absurd db.out (by simp [spec_DoAct.j2])
   | succ f9 => ?_
   replace db := db.out; simp only [spec_DoAct.j2] at db
   obtain ⟨rfl, dI⟩ | ⟨rfl, dI⟩ := sb db
   ·obtain ⟨rfl, rfl⟩ := s2 dI; clear dI db; obtain ⟨kF, mW, kG, mX, kH, mY, kI, mZ⟩ := o8_ bl bi a8 a7 bm bZ aY ck
    have pk : wc.cell? ⟨a4, 0, none⟩ = some (.slice none 0 0) := bc D 0
    have pR := blk_frozen D.out 0
    go_wp2
    refine bodyPost_ret (results_ct rfl _ _ a4 26 #[.slice none 0 0] (0, 0) _ rfl (Ap0 D) Tryz.underlying26 rfl gk_) rfl ?_; exact ⟨_, D9x5_⟩
   obtain ⟨eh, gO, fb⟩ := bsi dI; (try dsimp only at fb); obtain ⟨ei, gP, eF⟩ := bsi fb; (try dsimp only at eF); replace eF := am eF; clear db dI fb; obtain ⟨kJ, m0, kK, m1, kL, m2, kM, m3⟩ := o8_ bk bh a7 a8 bw b5 aC b0; obtain ⟨bI, bJ, bK, bL, bM, bN, bO, bP⟩ := cf4 B; obtain ⟨kN, m4, kO, m5, kP, m6⟩ := o6_ cv bU bZ bm aD bV; obtain ⟨dq, dr, dt, du, dv, dw⟩ := cf3 Z
   try go_wp2
   generalize hw : (wc.setCell ⟨ao, 0, none⟩ (.string au)) = dj; replace hw := hw.symm
   replace z : Hc dj aZ #[.slice U l.length J] 26 := ⟨wAp1 z bU⟩
   replace B : Hc dj b4 #[.int .i64 aE, .string aj, .string ar, .string au] 74 := ⟨wAp1 B bw⟩
   replace D : Hc dj a4 #[.slice none 0 0] 26 := ⟨wAp1 D bm⟩
   replace Z : Hc dj ao #[.string au, .string aw, .int .i64 a9] 57 := ⟨wAp0 Z⟩
   replace ah : Hc dj a0 #[.slice none 0 0] 26 := ⟨wAp1 ah bV⟩
   replace HB : Hb w dj := ⟨wAe5 HB ac af ag ax aG⟩
   clear hw; replace z := dA z; replace B := dA B; replace D := dA D; replace Z := dA Z; replace ah := dA ah; replace HB := bdr HB; refine start_ (n := 7) (S := fun w' => w'.cell? ⟨aZ, 0, none⟩ = some (.slice U l.length J) ∧ w'.cell? ⟨b4, 0, none⟩ = some (.int .i64 aE) ∧ w'.cell? ⟨b4, 1, none⟩ = some (.string aj) ∧ w'.cell? ⟨b4, 2, none⟩ = some (.string ar) ∧ w'.cell? ⟨b4, 3, none⟩ = some (.string au) ∧ w'.cell? ⟨ao, 0, none⟩ = some (.string au) ∧ w'.cell? ⟨ao, 1, none⟩ = some (.string aw) ∧ w'.cell? ⟨ao, 2, none⟩ = some (.int .i64 a9)) (ds := []) #[false, false, false, false, false, false, false] gk_ rfl rfl D9x4_ (fun ad => ?_); generalize dj.drew = oW at z B D Z ah HB ad ⊢; refine pure_ (i := 1) (N := some 111) (v := ?_) (a' := ?_) #[false, true, false, false, false, false, false] rfl rfl gk_ (fun _ _ _ h => h) (Or.inl ⟨(by rfl), ?_⟩) ?_ ?_; rotate_left
   ·intro w'; go_simp; with_reducible rfl
   rotate_left
   ·simp only [Act.put, List.setIfInBounds_toArray, List.set_cons_zero, List.set_cons_succ, i64_w, i32_w]; rfl
   refine take_ (i := 0) (N := some 110) (v := ?_) (a' := ?_) #[true, true, false, false, false, false, false] rfl rfl gk_ (fun _ _ _ h => h) (Or.inl ⟨(by rfl), ?_⟩) ad ?_ ?_; rotate_left
   ·rintro w' ⟨s0, s1, s2, s3, s4, s5, s6, s7⟩; go_simp; with_reducible rfl
   rotate_left
   ·simp only [Act.put, List.setIfInBounds_toArray, List.set_cons_zero, List.set_cons_succ, i64_w, i32_w]; rfl
   refine take_ (i := 2) (N := some 112) (v := ?_) (a' := ?_) #[true, true, true, false, false, false, false] rfl rfl gk_ (fun _ _ _ h => h) (Or.inl ⟨(by rfl), ?_⟩) ad ?_ ?_; rotate_left
   ·rintro w' ⟨s0, s1, s2, s3, s4, s5, s6, s7⟩; go_simp; with_reducible rfl
   rotate_left
   ·simp only [Act.put, List.setIfInBounds_toArray, List.set_cons_zero, List.set_cons_succ, i64_w, i32_w]; rfl
   refine take_ (i := 4) (N := some 114) (v := ?_) (a' := ?_) #[true, true, true, false, true, false, false] rfl rfl gk_ (fun _ _ _ h => h) (Or.inl ⟨(by rfl), ?_⟩) ad ?_ ?_; rotate_left
   ·rintro w' ⟨s0, s1, s2, s3, s4, s5, s6, s7⟩; go_simp; with_reducible rfl
   rotate_left
   ·simp only [Act.put, List.setIfInBounds_toArray, List.set_cons_zero, List.set_cons_succ, i64_w, i32_w]; rfl
   refine one_ (i := 3) (N := some 113) #[true, true, true, true, true, false, false] rfl rfl gk_ (by decide) (fun K hK => ?_); refine goes_ Tryz.func65 gk_ rfl #[.agg #[.slice U l.length J], .string aj] (by rfl) rfl rfl gm_ ?_; refine (spec_l03Without.calls f9 _ _ l aj eh _ (tc (Kd.C_below br.out HB.out)) bC.out gO.out).mono ?_; rintro e oX ⟨oP, rfl, aV, hb⟩; refine ⟨_, rfl, ?_⟩; have ey := am (Kd.R_lower (Kd.R_newB aV (g := ao) (o := .cells #[.string au, .string aw, .int .i64 a9] 57 (0, 0)) (Ab Z)) (below_size (Ae5 HB ac af ag ax aG))); replace z := bA z hb; replace B := bA B hb; replace D := bA D hb; replace Z := bA Z hb; replace ah := bA ah hb; replace HB := De5 HB ac af ag ax aG hb; obtain ⟨gY, hJ, fT⟩ := Kd.R_slice ey.out
   (first | subst fT | (injection fT with f1_ f2_ f3_; have f4_ := f1_.symm; have f5_ := f3_.symm; clear f1_ f2_ f3_; subst f4_; subst f5_))
   refine hK.out _ _ D9x4_ (fun ad => nm_ ?_); clear hK K; refine one_ (i := 5) (N := some 115) #[true, true, true, true, true, true, false] rfl rfl gk_ (by decide) (fun K hK => ?_); refine goes_ Tryz.func20 gk_ rfl #[.agg #[.slice gY eh.length hJ], .agg #[.string au, .string aw, .int .i64 a9]] (by rfl) rfl rfl gm_ ?_
   with_reducible refine (spec_l03Put.calls f9 _ _ eh au aw a9 ei _ ?z1 ?z2 gP.out).mono ?_
   (case z1 => repeat (first | exact (Kd.R_reads' ey.out).2.2 | (with_reducible refine Kd.C_alloc ?_ _) | (with_reducible refine Kd.C_drewN ?_ _) | (with_reducible refine Kd.C_drew ?_)))
   (case z2 => exact (Kd.R_reads' ey.out).2.1)
   rintro e iY ⟨oQ, rfl, aV, hb⟩; refine ⟨_, rfl, ?_⟩; have fD := am (Kd.R_lower (Kd.R_newB (Kd.R_new' aV (Kd.R_lt (Ar ey))) (g := ao) (o := .cells #[.string au, .string aw, .int .i64 a9] 57 (0, 0)) (Ab Z)) (below_size (Ae5 HB ac af ag ax aG))); replace z := bA z hb; replace B := bA B hb; replace D := bA D hb; replace Z := bA Z hb; replace ah := bA ah hb; replace HB := De5 HB ac af ag ax aG hb; obtain ⟨gZ, hL, fU⟩ := Kd.R_slice fD.out
   (first | subst fU | (injection fU with f1_ f2_ f3_; have f4_ := f1_.symm; have f5_ := f3_.symm; clear f1_ f2_ f3_; subst f4_; subst f5_))
   refine hK.out _ _ D9x4_ (fun ad => nm_ ?_); clear hK K; refine one_ (i := 6) (N := none) #[true, true, true, true, true, true, true] rfl rfl gk_ (by decide) (fun K hK => ?_)
   have oI : iY.cell? ⟨a0, 0, none⟩ = some (.slice none 0 0) := bc ah 0
   have jB := blk_frozen ah.out 0; obtain ⟨oy, oz, oA, oB, jE, jF, jG, jH⟩ := o8_ bj aC aY aD dd b0 ck bV; refine skip_ (w1 := ?_) (by rfl) rfl ?_ ?_; rotate_left
   ·go_simp; rfl
   refine hK.out _ _ ⟨((cell_far (p := ⟨a0, _, none⟩) bj.out _).trans (ad.1)), ((cell_far (p := ⟨a0, _, none⟩) aC.out _).trans (ad.2.1)), ((cell_far (p := ⟨a0, _, none⟩) aC.out _).trans (ad.2.2.1)), ((cell_far (p := ⟨a0, _, none⟩) aC.out _).trans (ad.2.2.2.1)), ((cell_far (p := ⟨a0, _, none⟩) aC.out _).trans (ad.2.2.2.2.1)), ((cell_far (p := ⟨a0, _, none⟩) aD.out _).trans (ad.2.2.2.2.2.1)), ((cell_far (p := ⟨a0, _, none⟩) aD.out _).trans (ad.2.2.2.2.2.2.1)), ((cell_far (p := ⟨a0, _, none⟩) aD.out _).trans (ad.2.2.2.2.2.2.2))⟩ (fun ad => ?_); clear hK K; refine done_ gk_ ?_
   try go_wp2
   go_meet
   case rel => exact ⟨_, au, aw, a9, ei, (.slice gZ ei.length hL), eF, ⟨(by have := fa.out; have := fA.out; have := g5.out; first | omega | exact Nat.le_refl _)⟩, ⟨tfg fD.out ah.out (by decide)⟩, D9x2_⟩
  obtain ⟨fP, fQ⟩ := nE dP
  obtain ⟨eT, dJ⟩ | ⟨eT, dJ⟩ := sp bY
  ·obtain ⟨hp, hs⟩ := yE eT; clear eT; obtain ⟨ej, gQ, eG⟩ := bsi dJ; (try dsimp only at eG); replace eG := am eG; clear bE cu cH cZ bY dJ; obtain ⟨kR, m8, kS, m9, kT, na, kV, nc⟩ := o8_ bk bh a7 a8 bw b5 aC b0; obtain ⟨bI, bJ, bK, bL, bM, bN, bO, bP⟩ := cf4 B; obtain ⟨kW, nf, kX, nh, kY, ni⟩ := o6_ bi bl bU cv bj dd
   have pm : dF.cell? ⟨aZ, 0, none⟩ = some (.slice U l.length J) := bc z 0
   have pS := blk_frozen z.out 0
   go_wp2_with (first | ((with_reducible refine gate_callee (f := 65) rfl ?_); refine goesL_ (some 123) rfl rfl Tryz.func65 gk_ rfl #[.agg #[.slice U l.length J], .string aj] rfl gm_ ?_; refine (spec_l03Without.calls ee _ _ l aj ej _ B29x36_ bC.out gQ.out).mono ?_; rintro e iZ ⟨oR, rfl, aV, hb⟩; refine ⟨_, rfl, ?_⟩; have fE := am (Kd.R_lower (Kd.R_newB aV (g := ao) (o := .cells #[.string bo, .string aw, .int .i64 a9] 57 (0, 0)) (Ap1 Z aD)) (below_size (Ae5 HB ac af ag ax aG))); replace z := am (blk_below (g := aZ) (o := .cells #[.slice U l.length J] 26 (0, 0)) (Ap1 z bj) hb); replace B := am (blk_below (g := b4) (o := .cells #[.int .i64 aE, .string aj, .string ar, .string au] 74 (0, 0)) (Ap1 B aC) hb); replace D := am (blk_below (g := a4) (o := .cells #[.slice none 0 0] 26 (0, 0)) (Ap1 D aY) hb); replace Z := am (blk_below (g := ao) (o := .cells #[.string bo, .string aw, .int .i64 a9] 57 (0, 0)) (Ap1 Z aD) hb); replace ah := am (blk_below (g := a0) (o := .cells #[.slice none 0 0] 26 (0, 0)) (Ap0 ah) hb); replace HB := De5 HB ac af ag ax aG hb; obtain ⟨g0, hM, hX⟩ := Kd.R_slice fE.out; subst hX; have kZ := ck.out; have nj := aY.out; have k0 := bV.out; have nk := aD.out; have pn : iZ.cell? ⟨a0, 0, none⟩ = some (.slice none 0 0) := bc ah 0; have pT := blk_frozen ah.out 0))
   go_meet
   case rel => exact ⟨_, bo, aw, a9, ej, (.slice g0 ej.length hM), eG, ⟨B29x21_⟩, ⟨tfg fE.out ah.out (by decide)⟩, D9x2_⟩
  obtain ⟨hp, hs⟩ := nE eT; obtain ⟨rfl, rfl⟩ := s2 dJ; clear dJ bE cu cH cZ bY; obtain ⟨k3, nn, k4, np, k5, nr, k6, ns⟩ := o8_ bk bh a7 a8 bw b5 aC b0; obtain ⟨bI, bJ, bK, bL, bM, bN, bO, bP⟩ := cf4 B; obtain ⟨k7, nt, k8, nu, k9, nv⟩ := o6_ bl bi bm bZ aY ck
  have po : dF.cell? ⟨a4, 0, none⟩ = some (.slice none 0 0) := bc D 0
  have pU := blk_frozen D.out 0
  go_wp2
  refine bodyPost_ret (results_ct rfl _ _ a4 26 #[.slice none 0 0] (0, 0) _ rfl (Ap1 D aY) Tryz.underlying26 rfl gk_) rfl ?_; exact ⟨_, D9x5_⟩
 clear bE
 obtain ⟨kq, gs, gu, gv, cD, ek, dc, jq, ci, z, B, D, Z, ah, HB⟩ := hcut
 cases kq with
 | zero => exact absurd dc.out (by simp [spec_DoAct.j3])
 | succ gg => ?_
 replace dc := dc.out
 simp only [spec_DoAct.j3] at dc
 obtain ⟨gj, fz, eH⟩ := bsi dc
 (try dsimp only at eH)
 obtain ⟨rfl, dK⟩ | ⟨rfl, dK⟩ := sb eH
 ·obtain ⟨rfl, rfl⟩ := s2 dK; clear dK dc eH; obtain ⟨lc, nx, ld, ny, lf, nz, lg, nB⟩ := o8_ dd bj b0 aC ck aY bV aD
  have pq : wc.cell? ⟨a0, 0, none⟩ = some (ek) := bc ah 0
  have pW := blk_frozen ah.out 0; obtain ⟨e8, fh, hY⟩ := Kd.R_slice ci.out; subst hY
  go_wp2_with (first | ((with_reducible refine gate_callee (f := 62) rfl ?_); refine goesL_ (some 125) rfl rfl Tryz.func62 gk_ rfl #[.agg #[.slice e8 cD.length fh]] rfl gm_ ?_; refine (spec_DiskOk.calls gg _ _ cD true _ B29x33_ ((Kd.R_reads' ci.out).2.1) fz.out).mono ?_; rintro e gp ⟨rfl, hb⟩; refine ⟨_, rfl, ?_⟩; replace ci := rA ci hb; replace D := bA D hb; replace ah := bA ah hb; replace HB := De5 HB ac af ag ax aG hb; have pr : gp.cell? ⟨a0, 0, none⟩ = some (.slice e8 cD.length fh) := bc ah 0; have pX := blk_frozen ah.out 0; have lh := bl.out; have nC := bi.out; have li := a8.out; have nD := a7.out; have lj := bm.out; have nF := bZ.out; have pu : gp.cell? ⟨a4, 0, none⟩ = some (.slice none 0 0) := bc D 0; have pY := blk_frozen D.out 0))
  refine bodyPost_ret (results_ct rfl _ _ a4 26 #[.slice e8 cD.length fh] (0, 0) _ rfl (Ap0 D) Tryz.underlying26 rfl gk_) rfl ?_; exact ⟨_, B29x20_, (tfg ci.out D.out (by decide)), (Ae5 HB ac af ag ax aG)⟩
 obtain ⟨rfl, rfl⟩ := s2 dK
 clear dK dc eH
 obtain ⟨lk, nG, ll, nH, lm, nI, ln, nJ⟩ := o8_ dd bj b0 aC ck aY bV aD
 have pv : wc.cell? ⟨a0, 0, none⟩ = some (ek) := bc ah 0
 have pZ := blk_frozen ah.out 0
 obtain ⟨g1, hN, hZ⟩ := Kd.R_slice ci.out
 subst hZ
 go_wp2_with (first | ((with_reducible refine gate_callee (f := 62) rfl ?_); refine goesL_ (some 125) rfl rfl Tryz.func62 gk_ rfl #[.agg #[.slice g1 cD.length hN]] rfl gm_ ?_; refine (spec_DiskOk.calls gg _ _ cD false _ B29x33_ ((Kd.R_reads' ci.out).2.1) fz.out).mono ?_; rintro e i1 ⟨rfl, hb⟩; refine ⟨_, rfl, ?_⟩; replace ci := rA ci hb; replace D := bA D hb; replace HB := De5 HB ac af ag ax aG hb; have lp := bl.out; have nK := bi.out; have lq := a8.out; have nL := a7.out; have lr := bm.out; have nM := bZ.out; have pw : i1.cell? ⟨a4, 0, none⟩ = some (.slice none 0 0) := bc D 0; have p0 := blk_frozen D.out 0))
 refine bodyPost_ret (results_ct rfl _ _ a4 26 #[.slice none 0 0] (0, 0) _ rfl (Ap0 D) Tryz.underlying26 rfl gk_) rfl ?_
 exact ⟨_, D9x5_⟩
theorem B30x4_ (h : p := by first | exact Nat.ne_of_lt (Nat.lt_of_lt_of_le (by have := World.block_lt_of_cell? _ _ aK; first | rwa [add_block] at this | exact this) aJ.out) | (rw [add_block]; exact Nat.ne_of_lt (Nat.lt_of_lt_of_le (by have := World.block_lt_of_cell? _ _ aK; first | rwa [add_block] at this | exact this) aJ.out)) | (show (Addr.add _ _).block ≠ _; rw [add_block]; exact Nat.ne_of_lt (Nat.lt_of_lt_of_le (by have := World.block_lt_of_cell? _ _ aK; first | rwa [add_block] at this | exact this) aJ.out)) | (dsimp only; exact Nat.ne_of_lt (Nat.lt_of_lt_of_le (by have := World.block_lt_of_cell? _ _ aK; first | rwa [add_block] at this | exact this) aJ.out))) : p := h
theorem B30x5_ (h : p := by first | exact Nat.ne_of_lt (Nat.lt_of_lt_of_le (by have := World.block_lt_of_cell? _ _ aM; first | rwa [add_block] at this | exact this) aJ.out) | (rw [add_block]; exact Nat.ne_of_lt (Nat.lt_of_lt_of_le (by have := World.block_lt_of_cell? _ _ aM; first | rwa [add_block] at this | exact this) aJ.out)) | (show (Addr.add _ _).block ≠ _; rw [add_block]; exact Nat.ne_of_lt (Nat.lt_of_lt_of_le (by have := World.block_lt_of_cell? _ _ aM; first | rwa [add_block] at this | exact this) aJ.out)) | (dsimp only; exact Nat.ne_of_lt (Nat.lt_of_lt_of_le (by have := World.block_lt_of_cell? _ _ aM; first | rwa [add_block] at this | exact this) aJ.out))) : p := h
theorem B30x6_ (h : p := by first | exact Nat.ne_of_lt (Nat.lt_of_lt_of_le (by have := World.block_lt_of_cell? _ _ aN; first | rwa [add_block] at this | exact this) aJ.out) | (rw [add_block]; exact Nat.ne_of_lt (Nat.lt_of_lt_of_le (by have := World.block_lt_of_cell? _ _ aN; first | rwa [add_block] at this | exact this) aJ.out)) | (show (Addr.add _ _).block ≠ _; rw [add_block]; exact Nat.ne_of_lt (Nat.lt_of_lt_of_le (by have := World.block_lt_of_cell? _ _ aN; first | rwa [add_block] at this | exact this) aJ.out)) | (dsimp only; exact Nat.ne_of_lt (Nat.lt_of_lt_of_le (by have := World.block_lt_of_cell? _ _ aN; first | rwa [add_block] at this | exact this) aJ.out))) : p := h
theorem B30x7_ (h : p := by first | exact Nat.ne_of_lt (Nat.lt_of_lt_of_le (by have := World.block_lt_of_cell? _ _ aP; first | rwa [add_block] at this | exact this) aJ.out) | (rw [add_block]; exact Nat.ne_of_lt (Nat.lt_of_lt_of_le (by have := World.block_lt_of_cell? _ _ aP; first | rwa [add_block] at this | exact this) aJ.out)) | (show (Addr.add _ _).block ≠ _; rw [add_block]; exact Nat.ne_of_lt (Nat.lt_of_lt_of_le (by have := World.block_lt_of_cell? _ _ aP; first | rwa [add_block] at this | exact this) aJ.out)) | (dsimp only; exact Nat.ne_of_lt (Nat.lt_of_lt_of_le (by have := World.block_lt_of_cell? _ _ aP; first | rwa [add_block] at this | exact this) aJ.out))) : p := h
theorem B30x8_ (h : p := by repeat (first | exact (Kd.R_reads' al.out).2.2 | (with_reducible refine Kd.C_alloc ?_ _) | (with_reducible refine Kd.C_drewN ?_ _) | (with_reducible refine Kd.C_drew ?_))) : p := h
theorem B30x12_ (h : p := by (with_reducible repeat (first | apply Kd.R_alloc | apply Kd.R_drewN | apply Kd.R_drew)); exact Kd.R_mono al.out (fun _ hk => hk.2)) : p := h
theorem B30x13_ (h : p := by (with_reducible repeat (first | apply Kd.R_alloc | apply Kd.R_drewN | apply Kd.R_drew)); exact Kd.R_mono bW.out (fun _ hk => hk.2)) : p := h
theorem B30x16_ (h : p := by simp only [putAll, Act.put, List.setIfInBounds_toArray, List.set_cons_zero, List.set_cons_succ]) : p := h
def spec_DoActs.l0 : Nat → List (S74) → Int → List (S57) → Option ((List (S57)) × Int)
 | 0, _, _, _ => none
 | k + 1, x1, x7, fq => if x7 < (x1.length : Int) then (if 0 ≤ x7 then ((spec_DoAct.f k fq ((rd_T74 x1 x7).f0) ((rd_T74 x1 x7).f1) ((rd_T74 x1 x7).f2) ((rd_T74 x1 x7).f3)).bind fun fL => (if fL.2 = true then (spec_DoActs.l0 k x1 (wrap64 (x7 + 1)) fL.1) else (some (fq, x7)))) else (none)) else (some (fq, (x1.length : Int)))
def spec_DoActs.f (k : Nat) (l : List (S57)) (l1 : List (S74)) : Option ((List (S57)) × Int) := (some (([] : List (S57)) : List (S57))).bind fun en => (if en.length + l.length < 3518437208883 then (spec_DoActs.l0 k l1 0 (en ++ l)) else (none))
def spec_DoActs.T5 : Bool × List (List Nat × List Nat) := (true, [([], []), ([], []), ([], []), ([1, 2], [1, 2]), ([3], [3]), ([0, 4], [0, 4]), ([5], [5]), ([6], [6]), ([6], [6]), ([], []), ([9, 7, 5, 0, 1, 2, 3, 4, 5, 6, 7, 9], [7, 9]), ([8, 10, 0, 1, 2, 3, 4, 5, 6, 7, 8, 9, 10], [8])])
def spec_DoActs.B5 : List Nat := [0, 0, 0, 6, 14, 31, 63, 127, 127, 0, 767, 2047]
theorem spec_DoActs.tab5 : rtab .any (opsOf Tryz.f10 5) = spec_DoActs.T5 := by kernel_rfl
theorem spec_DoActs.bits5 : waitsOk spec_DoActs.T5.2 spec_DoActs.B5 = true := by kernel_rfl
theorem spec_DoActs.calls (k : Nat) (U : Option Addr) (J : Nat) (l : List (S57)) (A1 : Option Addr) (c1 : Nat) (l1 : List (S74)) (r1 : List (S57)) (r2 : Int) (w : World) (cO : Kd.C k57 w U l.length l) (cN : l.length ≤ J) (f7 : Kd.C k74 w A1 l1.length l1) (fY : l1.length ≤ c1) (h : spec_DoActs.f k l l1 = some (r1, r2)) :
  Calls Tryz.prog 10 #[.agg #[.slice U l.length J], .slice A1 l1.length c1] w fun e w' => ∃ el : Value, e = .returned (.tuple #[.agg #[el], .int .i64 r2]) ∧ Kd.R k57 57 w' w.heap.size (fun _ => True) el r1 ∧ Below w.heap.size w w' := by
 have f8 := Tryz.underlying26
 have iP := Tryz.underlying74
 have br := am cO
 have bC := am cN
 clear cO cN
 have fF := am f7
 have jp := am fY
 clear f7 fY
 have HB := am (Below.refl w.heap.size w)
 have aA := h
 clear h
 unfold spec_DoActs.f at aA
 obtain ⟨en, ec⟩ : ∃ y_ : List (S57), y_ = (([] : List (S57))) := ⟨_, rfl⟩
 (first | with_reducible replace aA := hq ec aA | rw [← ec] at aA | simp only [← ec] at aA)
 have fJ := am ec
 clear ec
 obtain ⟨g7, aW⟩ := ya aA
 obtain ⟨gx, ed⟩ : ∃ y_ : List (S57), y_ = (en ++ l) := ⟨_, rfl⟩
 (first | with_reducible replace aW := hq ed aW | rw [← ed] at aW | simp only [← ed] at aW)
 have ha := am ed
 clear ed
 replace aW := am aW
 clear aA
 go_enter Tryz.func10, Tryz.ntmps10
 go_wp2_with (first | ((with_reducible refine gate_dst (N := 2) rfl ?_); refine bx (N := 2) (cs := #[.slice U l.length J]) (t := 26) ?_; intro cM hg w4 hbox hb; have aa := am hbox; have aH := gA hg HB; replace HB := hA HB hb; clear hb hbox hg) | ((with_reducible refine gate_dst (N := 4) rfl ?_); refine bx (N := 4) (cs := #[.slice none 0 0]) (t := 26) ?_; intro ca hg w5 hbox hb; have Y := am hbox; have aI := gA hg HB; replace HB := De1 HB aH hb; have fc := nA hg aa; have fd := mA hg aa; replace aa := bA aa hb; clear hb hbox hg) | ((with_reducible refine gate_dst (N := 10) rfl ?_); refine lL k57 57 10 ([] : List (S57)) [] (Reps.none _ _) ?_; intro iV w6 eb hb; (first | rw [← fJ.out] at eb | (simp only [Int.reduceToNat] at eb; rw [← fJ.out] at eb)); have ez := am (Kd.R_lower eb (below_size (Ae2 HB aH aI))); replace aa := bA aa hb; replace Y := bA Y hb; replace HB := De2 HB aH aI hb; clear hb eb; have ip := fc.out; have iM := fd.out; have pJ : w6.cell? ⟨cM, 0, none⟩ = some (.slice U l.length J) := bc aa 0; have qg := blk_frozen aa.out 0) | ((with_reducible refine gate_builtin (b := .append) (xs := #[.tmp 10, .tmp 12]) rfl ?_); at_builtin; refine Kd.R_append_rows k57 (w0 := w) w.heap.size rfl (.tmp 10) (.tmp 12) 24 57 (.agg #[(.string ⟨#[]⟩), (.string ⟨#[]⟩), (.int .i64 0)]) 40 rfl Tryz.underlying24 info57 rfl (by decide) (by omega) iV en l _ _ _ (fun _ => True) (fun _ => False) rfl rfl ?aO ?aR (fun _ _ h => h) (fun _ h => h.elim) ?aF ?aB ?aS ?aL ?_; (case aR => repeat (first | exact (Kd.C_below br.out HB.out) | (with_reducible refine Kd.C_alloc ?_ _) | (with_reducible refine Kd.C_drewN ?_ _) | (with_reducible refine Kd.C_drew ?_))); (case aB => exact (Ae2 HB aH aI)); (case aF => exact (fun _ _ => trivial)); (case aO => (with_reducible repeat (first | apply Kd.R_alloc | apply Kd.R_drewN | apply Kd.R_drew)); exact ez.out); (case aS => exact (below_size (Ae2 HB aH aI))); (case aL => have := g7.out; omega); intro oS oU ho hb hg hat; rw [← ha.out] at ho; replace aa := bg aa hg (Kd.R_ne ez.out aa.out (by decide)); replace Y := bg Y hg (Kd.R_ne ez.out Y.out (by decide)); replace HB := am hb; have eB := am ho; clear ez; clear ho hb hg hat; obtain ⟨gW, hH, hU⟩ := Kd.R_slice eB.out; subst hU) | ((with_reducible refine gate_dst (N := 6) rfl ?_); refine bx (N := 6) (cs := #[.slice none 0 0]) (t := 26) ?_; intro bz hg fm hbox hb; replace eB := rA eB hb; have M := am hbox; have a5 := gA hg HB; replace HB := De2 HB aH aI hb; have dB := nA hg aa; have eI := mA hg aa; replace aa := bA aa hb; have dC := nA hg Y; have eJ := mA hg Y; replace Y := bA Y hb; clear hb hbox hg; have h3 := eI.out; have ir := dB.out; have h4 := eJ.out; have iu := dC.out; have jc : fm.cell? ⟨bz, 0, none⟩ = some (.slice none 0 0) := bc M 0; have ji := blk_frozen M.out 0))
 go_loopg [7] k (fun kq v7 w' => ∃ (q : Int) (ay : List (S57)) (e7 : Value), v7 = .int .i64 q ∧ Aside0 (spec_DoActs.l0 kq l1 q ay = some (r1, r2)) ∧ Aside0 (kq ≤ k) ∧ Aside0 (Kd.R k57 57 w' w.heap.size (fun _ => True) e7 ay) ∧ Aside0 (w'.heap[cM]? = some (.cells #[(.slice U l.length J)] 26 (0, 0))) ∧ Aside0 (w'.heap[ca]? = some (.cells #[(.slice none 0 0)] 26 (0, 0))) ∧ Aside0 (w'.heap[bz]? = some (.cells #[e7] 26 (0, 0))) ∧ Aside0 (Below w.heap.size w w'))
 case atStart => exact ⟨(0), gx, (.slice gW gx.length hH), be_, aW, ⟨Nat.le_refl _⟩, ⟨tfg eB.out M.out (by decide)⟩, Cp1 aa dB, Cp1 Y dC, Cp0 M, Ce3 HB aH aI a5⟩
 case round =>
  clear aW
  try clear c1
  try clear c3
  obtain ⟨q, ay, e7, rfl, az, cG, al, aa, Y, M, HB⟩ := hrel
  cases gk with
  | zero => exact absurd az.out (by simp [spec_DoActs.l0])
  | succ k1 => ?_
  replace az := az.out; simp only [spec_DoActs.l0] at az
  obtain ⟨ff, aU⟩ | ⟨ff, aU⟩ := sd az
  ·obtain ⟨jv, a3⟩ := yd aU; obtain ⟨⟨cP, oM⟩, dx, bF⟩ := bsi a3; (try dsimp only at bF)
   obtain ⟨rfl, bv⟩ | ⟨rfl, bv⟩ := sb bF
   ·replace bv := am bv; clear az aU a3 bF; obtain ⟨cr, cw, hW⟩ := Kd.R_slice al.out; subst hW
    try go_wp2
    replace al := eA al; replace aa := dA aa; replace Y := dA Y; replace M := dA M; replace HB := bdr HB
    have dh : 0 ≤ (q : Int) := dga
    have di : q < (l1.length : Int) := dga
    obtain ⟨ai, fi, cc, cd, ce, cf⟩ := at_T74 fF.out q dh di; have aP := cf; have aN := ce; have aM := cd; have aK := cc; cases fi; replace cc := (hbc HB cc).trans cc; replace cd := (hbc HB cd).trans cd; replace ce := (hbc HB ce).trans ce; replace cf := (hbc HB cf).trans cf; replace dh := eq_true dh; replace di := eq_true di; refine st_ 12 (fun w' => w'.cell? ⟨bz, 0, none⟩ = some (.slice cr ay.length cw) ∧ w'.cell? (ai.add ((q).toNat * 4)) = some (.int .i64 ((rd_T74 l1 q).f0)) ∧ w'.cell? ⟨(ai.add ((q).toNat * 4)).block, (ai.add ((q).toNat * 4)).off + 1, none⟩ = some (.string ((rd_T74 l1 q).f1)) ∧ w'.cell? ⟨(ai.add ((q).toNat * 4)).block, (ai.add ((q).toNat * 4)).off + 2, none⟩ = some (.string ((rd_T74 l1 q).f2)) ∧ w'.cell? ⟨(ai.add ((q).toNat * 4)).block, (ai.add ((q).toNat * 4)).off + 3, none⟩ = some (.string ((rd_T74 l1 q).f3))) [] spec_DoActs.tab5 spec_DoActs.bits5 D9x0_ (fun ad ap dH => ?_); generalize wr.drew = oZ at al aa Y M HB cc cd ce cf ad ⊢; refine pu_ 1 23 ap ?_; refine pu_ 2 24 ap ?_; refine pu_ 3 25 ap ?_; refine ta_ 0 22 ap dH ad ?_; refine ta_ 4 26 ap dH ad ?_; refine join_ (σ := Value × Nat) 2 #[true, true, true, true, true, true, true, true, true, true, false, false] (fun s_ => [(27, .tuple #[.agg #[s_.1], .bool true]), (8, .pointer (some ⟨s_.2, 0, none⟩)), (21, .tuple #[.agg #[s_.1], .bool true]), (28, .agg #[s_.1]), (29, .bool true)]) (fun s_ w' => (w'.cell? ⟨bz, 0, none⟩ = some (.slice cr ay.length cw) ∧ w'.cell? (ai.add ((q).toNat * 4)) = some (.int .i64 ((rd_T74 l1 q).f0)) ∧ w'.cell? ⟨(ai.add ((q).toNat * 4)).block, (ai.add ((q).toNat * 4)).off + 1, none⟩ = some (.string ((rd_T74 l1 q).f1)) ∧ w'.cell? ⟨(ai.add ((q).toNat * 4)).block, (ai.add ((q).toNat * 4)).off + 2, none⟩ = some (.string ((rd_T74 l1 q).f2)) ∧ w'.cell? ⟨(ai.add ((q).toNat * 4)).block, (ai.add ((q).toNat * 4)).off + 3, none⟩ = some (.string ((rd_T74 l1 q).f3))) ∧ (Kd.R k57 57 w' w.heap.size (fun k_ => some k_ ≠ (.slice cr ay.length cw : Value).ownBlock) s_.1 cP) ∧ (Kd.R k57 57 w' w.heap.size (fun k_ => some k_ ≠ (s_.1 : Value).ownBlock) (.slice cr ay.length cw) ay) ∧ (w'.heap[cM]? = some (.cells #[.slice U l.length J] 26 (0, 0))) ∧ (w'.heap[ca]? = some (.cells #[.slice none 0 0] 26 (0, 0))) ∧ (w'.heap[bz]? = some (.cells #[.slice cr ay.length cw] 26 (0, 0))) ∧ (w'.heap[s_.2]? = some (.cells #[.slice none 0 0] 26 (0, 0))) ∧ (w.heap.size ≤ s_.2) ∧ (w.heap.size ≤ s_.2) ∧ (cM ≠ s_.2) ∧ (s_.2 ≠ cM) ∧ (ca ≠ s_.2) ∧ (s_.2 ≠ ca) ∧ (bz ≠ s_.2) ∧ (s_.2 ≠ bz) ∧ (Below w.heap.size w w')) ?_ ?_; rotate_left
    ·intro ea; refine two_ (i := 5) (j := 9) (Ni := some 27) (Nj := some 8) #[true, true, true, true, true, true, false, false, false, false, false, false] #[true, true, true, true, true, false, false, false, false, true, false, false] rfl rfl rfl rfl (two_of ap.out gk_) (by decide) (by decide) (fun K hK => ?_) (fun K hK => ?_)
     ·skip
      refine goes_ Tryz.func37 gk_ rfl #[.agg #[.slice cr ay.length cw], .agg #[.int .i64 ((rd_T74 l1 q).f0), .string ((rd_T74 l1 q).f1), .string ((rd_T74 l1 q).f2), .string ((rd_T74 l1 q).f3)]] (by rfl) rfl rfl gm_ ?_; refine (spec_DoAct.calls k1 _ _ ay ((rd_T74 l1 q).f0) ((rd_T74 l1 q).f1) ((rd_T74 l1 q).f2) ((rd_T74 l1 q).f3) cP true _ B30x8_ ((Kd.R_reads' al.out).2.1) dx.out).mono ?_; rintro e gn ⟨cB, rfl, aV, hb⟩; refine ⟨_, rfl, ?_⟩; have bW := am (Kd.R_lower (Kd.R_new' aV (Kd.R_lt (Ar al))) (below_size (Ae3 HB aH aI a5))); replace al := am (Kd.R_elder' (Ar al) (Kd.R_base aV) hb); replace aa := bA aa hb; replace Y := bA Y hb; replace M := bA M hb; replace HB := De3 HB aH aI a5 hb; refine hK.out _ _ D9x0_ (fun ad => nm_ ?_); clear hK K; refine pu_ 6 21 ap ?_; refine pu_ 7 28 ap ?_; refine pu_ 8 29 ap ?_; refine on_ 9 (some 8) ap (fun K hK => ?_); refine box_step ?hg (N := 8) ?hd (cs := #[.slice none 0 0]) (t := 26) ?hr ?_; (case hd => rfl); (case hg => rfl); (case hr => exact gs_); intro a1 hg i0 hbox hb; replace al := rA al hb; replace bW := rA bW hb; have a2 := am hbox; have aJ := gA hg HB; have ba := gA hg HB; replace HB := De3 HB aH aI a5 hb; have b1 := nA hg aa; have b6 := mA hg aa; replace aa := bA aa hb; have bR := nA hg Y; have b2 := mA hg Y; replace Y := bA Y hb; have bG := nA hg M; have b3 := mA hg M; replace M := bA M hb; clear hb hbox hg; refine hK.out _ _ D9x0_ (fun ad => nm_ ?_); clear hK K; exact norm_ B30x16_ (ea (cB, a1) _ ⟨ad, B30x13_, B30x12_, (Ab aa), (Ab Y), (Ab M), (Ab a2), aJ.out, ba.out, b1.out, b6.out, bR.out, b2.out, bG.out, b3.out, (Ae4 HB aH aI a5 ba)⟩)
     refine box_step ?hg (N := 8) ?hd (cs := #[.slice none 0 0]) (t := 26) ?hr ?_; (case hd => rfl); (case hg => rfl); (case hr => exact gs_); intro a1 hg gn hbox hb; replace al := rA al hb; have a2 := am hbox; have aJ := gA hg HB; have ba := gA hg HB; replace HB := De3 HB aH aI a5 hb; have b1 := nA hg aa; have b6 := mA hg aa; replace aa := bA aa hb; have bR := nA hg Y; have b2 := mA hg Y; replace Y := bA Y hb; have bG := nA hg M; have b3 := mA hg M; replace M := bA M hb; clear hb hbox hg; refine hK.out _ _ D9x0_ (fun ad => nm_ ?_); clear hK K; refine on_ 5 (some 27) ap (fun K hK => ?_); refine goes_ Tryz.func37 gk_ rfl #[.agg #[.slice cr ay.length cw], .agg #[.int .i64 ((rd_T74 l1 q).f0), .string ((rd_T74 l1 q).f1), .string ((rd_T74 l1 q).f2), .string ((rd_T74 l1 q).f3)]] (by rfl) rfl rfl gm_ ?_; refine (spec_DoAct.calls k1 _ _ ay ((rd_T74 l1 q).f0) ((rd_T74 l1 q).f1) ((rd_T74 l1 q).f2) ((rd_T74 l1 q).f3) cP true _ B30x8_ ((Kd.R_reads' al.out).2.1) dx.out).mono ?_; rintro e i0 ⟨cB, rfl, aV, hb⟩; refine ⟨_, rfl, ?_⟩; have bW := am (Kd.R_lower (Kd.R_new' aV (Kd.R_lt (Ar al))) (below_size (Ae4 HB aH aI a5 ba))); replace al := am (Kd.R_elder' (Ar al) (Kd.R_base aV) hb); replace aa := bA aa hb; replace Y := bA Y hb; replace M := bA M hb; replace a2 := bA a2 hb; replace HB := De4 HB aH aI a5 ba hb; refine hK.out _ _ D9x0_ (fun ad => nm_ ?_); clear hK K; refine pu_ 6 21 ap ?_; refine pu_ 7 28 ap ?_; refine pu_ 8 29 ap ?_; exact norm_ B30x16_ (ea (cB, a1) _ ⟨ad, B30x13_, B30x12_, (Ab aa), (Ab Y), (Ab M), (Ab a2), aJ.out, ba.out, b1.out, b6.out, bR.out, b2.out, bG.out, b3.out, (Ae4 HB aH aI a5 ba)⟩)
    rintro ⟨cB, a1⟩ cT ⟨hS_, dW, d2, eX, d3, d4, d5, d6, d7, d8, d9, dX, dY, dZ, d0, d1⟩; replace bW := am dW; replace al := am d2; replace aa := am eX; replace Y := am d3; replace M := am d4; replace a2 := am d5; replace aJ := am d6; replace ba := am d7; replace b1 := am d8; replace b6 := am d9; replace bR := am dX; replace b2 := am dY; replace bG := am dZ; replace b3 := am d0; replace HB := am d1; clear dW d2 eX d3 d4 d5 d6 d7 d8 d9 dX dY dZ d0 d1
    have ad : cT.cell? ⟨bz, 0, none⟩ = some (.slice cr ay.length cw) ∧ cT.cell? (ai.add ((q).toNat * 4)) = some (.int .i64 ((rd_T74 l1 q).f0)) ∧ cT.cell? ⟨(ai.add ((q).toNat * 4)).block, (ai.add ((q).toNat * 4)).off + 1, none⟩ = some (.string ((rd_T74 l1 q).f1)) ∧ cT.cell? ⟨(ai.add ((q).toNat * 4)).block, (ai.add ((q).toNat * 4)).off + 2, none⟩ = some (.string ((rd_T74 l1 q).f2)) ∧ cT.cell? ⟨(ai.add ((q).toNat * 4)).block, (ai.add ((q).toNat * 4)).off + 3, none⟩ = some (.string ((rd_T74 l1 q).f3)) := hS_
    obtain ⟨g2, hO, fV⟩ := Kd.R_slice bW.out
    (first | subst fV | (injection fV with f1_ f2_ f3_; have f4_ := f1_.symm; have f5_ := f3_.symm; clear f1_ f2_ f3_; subst f4_; subst f5_))
    refine norm_ (a' := ?_) ?_ ?_; rotate_left
    ·simp only [putAll, Act.put, List.setIfInBounds_toArray, List.set_cons_zero, List.set_cons_succ]; rfl
    refine on_ 10 none ap (fun K hK => ?_)
    have oJ : cT.cell? ⟨a1, 0, none⟩ = some (.slice none 0 0) := bc a2 0
    have jC := blk_frozen a2.out 0; obtain ⟨oC, oD, oE, jI, jJ, jK⟩ := o6_ b1 bR bG b6 b2 b3; refine skip_ (w1 := ?_) (by rfl) rfl ?_ ?_; rotate_left
    ·go_simp; rfl
    refine hK.out _ _ ⟨((cell_far (p := ⟨a1, _, none⟩) bG.out _).trans (ad.1)), ((cell_far (p := ⟨a1, _, none⟩) B30x4_ _).trans (ad.2.1)), ((cell_far (p := ⟨a1, _, none⟩) B30x5_ _).trans (ad.2.2.1)), ((cell_far (p := ⟨a1, _, none⟩) B30x6_ _).trans (ad.2.2.2.1)), ((cell_far (p := ⟨a1, _, none⟩) B30x7_ _).trans (ad.2.2.2.2))⟩ (fun ad => ?_); clear hK K; refine pu_ 11 9 ap ?_; refine done_ (done_of ap.out gk_) ?_; obtain ⟨h6, iw, h7, ix, h8, iy⟩ := o6_ b6 b1 b2 bR b3 bG
    have py : cT.cell? ⟨a1, 0, none⟩ = some (.slice none 0 0) := bc a2 0
    have p5 := blk_frozen a2.out 0; obtain ⟨fZ, f3, h9, iz⟩ := o4_ eI dB eJ dC
    have pz : cT.cell? ⟨bz, 0, none⟩ = some (.slice cr ay.length cw) := bc M 0
    have p6 := blk_frozen M.out 0
    try go_wp2
    go_roundg k1
    case measure => have := cG.out; omega
    case rel => exact ⟨(wrap64 (q + 1)), cP, (.slice g2 cP.length hO), be_, bv, ⟨(by have := cG.out; omega)⟩, ⟨tfh bW.out a2.out (by decide) M.out (by decide)⟩, Cp2 aa dB b1, Cp2 Y dC bR, Cp1 M bG, Ce4 HB aH aI a5 ba⟩
   obtain ⟨rfl, rfl⟩ := s2 bv; clear bv az aU a3 bF; obtain ⟨bQ, bS, fj⟩ := Kd.R_slice al.out; subst fj
   try go_wp2
   replace al := eA al; replace aa := dA aa; replace Y := dA Y; replace M := dA M; replace HB := bdr HB
   have dh : 0 ≤ (q : Int) := dga
   have di : q < (l1.length : Int) := dga
   obtain ⟨ai, fi, cc, cd, ce, cf⟩ := at_T74 fF.out q dh di; have aP := cf; have aN := ce; have aM := cd; have aK := cc; cases fi; replace cc := (hbc HB cc).trans cc; replace cd := (hbc HB cd).trans cd; replace ce := (hbc HB ce).trans ce; replace cf := (hbc HB cf).trans cf; replace dh := eq_true dh; replace di := eq_true di; refine st_ 12 (fun w' => w'.cell? ⟨bz, 0, none⟩ = some (.slice bQ ay.length bS) ∧ w'.cell? (ai.add ((q).toNat * 4)) = some (.int .i64 ((rd_T74 l1 q).f0)) ∧ w'.cell? ⟨(ai.add ((q).toNat * 4)).block, (ai.add ((q).toNat * 4)).off + 1, none⟩ = some (.string ((rd_T74 l1 q).f1)) ∧ w'.cell? ⟨(ai.add ((q).toNat * 4)).block, (ai.add ((q).toNat * 4)).off + 2, none⟩ = some (.string ((rd_T74 l1 q).f2)) ∧ w'.cell? ⟨(ai.add ((q).toNat * 4)).block, (ai.add ((q).toNat * 4)).off + 3, none⟩ = some (.string ((rd_T74 l1 q).f3))) [] spec_DoActs.tab5 spec_DoActs.bits5 D9x0_ (fun ad ap dH => ?_); generalize wr.drew = o4 at al aa Y M HB cc cd ce cf ad ⊢; refine pu_ 1 23 ap ?_; refine pu_ 2 24 ap ?_; refine pu_ 3 25 ap ?_; refine ta_ 0 22 ap dH ad ?_; refine ta_ 4 26 ap dH ad ?_; refine join_ (σ := Value × Nat) 2 #[true, true, true, true, true, true, true, true, true, true, false, false] (fun s_ => [(27, .tuple #[.agg #[s_.1], .bool false]), (8, .pointer (some ⟨s_.2, 0, none⟩)), (21, .tuple #[.agg #[s_.1], .bool false]), (28, .agg #[s_.1]), (29, .bool false)]) (fun s_ w' => (w'.cell? ⟨bz, 0, none⟩ = some (.slice bQ ay.length bS) ∧ w'.cell? (ai.add ((q).toNat * 4)) = some (.int .i64 ((rd_T74 l1 q).f0)) ∧ w'.cell? ⟨(ai.add ((q).toNat * 4)).block, (ai.add ((q).toNat * 4)).off + 1, none⟩ = some (.string ((rd_T74 l1 q).f1)) ∧ w'.cell? ⟨(ai.add ((q).toNat * 4)).block, (ai.add ((q).toNat * 4)).off + 2, none⟩ = some (.string ((rd_T74 l1 q).f2)) ∧ w'.cell? ⟨(ai.add ((q).toNat * 4)).block, (ai.add ((q).toNat * 4)).off + 3, none⟩ = some (.string ((rd_T74 l1 q).f3))) ∧ (Kd.R k57 57 w' w.heap.size (fun k_ => some k_ ≠ (.slice bQ ay.length bS : Value).ownBlock) s_.1 cP) ∧ (Kd.R k57 57 w' w.heap.size (fun k_ => some k_ ≠ (s_.1 : Value).ownBlock) (.slice bQ ay.length bS) ay) ∧ (w'.heap[cM]? = some (.cells #[.slice U l.length J] 26 (0, 0))) ∧ (w'.heap[ca]? = some (.cells #[.slice none 0 0] 26 (0, 0))) ∧ (w'.heap[bz]? = some (.cells #[.slice bQ ay.length bS] 26 (0, 0))) ∧ (w'.heap[s_.2]? = some (.cells #[.slice none 0 0] 26 (0, 0))) ∧ (w.heap.size ≤ s_.2) ∧ (w.heap.size ≤ s_.2) ∧ (cM ≠ s_.2) ∧ (s_.2 ≠ cM) ∧ (ca ≠ s_.2) ∧ (s_.2 ≠ ca) ∧ (bz ≠ s_.2) ∧ (s_.2 ≠ bz) ∧ (Below w.heap.size w w')) ?_ ?_; rotate_left
   ·intro ea; refine two_ (i := 5) (j := 9) (Ni := some 27) (Nj := some 8) #[true, true, true, true, true, true, false, false, false, false, false, false] #[true, true, true, true, true, false, false, false, false, true, false, false] rfl rfl rfl rfl (two_of ap.out gk_) (by decide) (by decide) (fun K hK => ?_) (fun K hK => ?_)
    ·skip
     refine goes_ Tryz.func37 gk_ rfl #[.agg #[.slice bQ ay.length bS], .agg #[.int .i64 ((rd_T74 l1 q).f0), .string ((rd_T74 l1 q).f1), .string ((rd_T74 l1 q).f2), .string ((rd_T74 l1 q).f3)]] (by rfl) rfl rfl gm_ ?_; refine (spec_DoAct.calls k1 _ _ ay ((rd_T74 l1 q).f0) ((rd_T74 l1 q).f1) ((rd_T74 l1 q).f2) ((rd_T74 l1 q).f3) cP false _ B30x8_ ((Kd.R_reads' al.out).2.1) dx.out).mono ?_; rintro e gq ⟨cB, rfl, aV, hb⟩; refine ⟨_, rfl, ?_⟩; have bW := am (Kd.R_lower (Kd.R_new' aV (Kd.R_lt (Ar al))) (below_size (Ae3 HB aH aI a5))); replace al := am (Kd.R_elder' (Ar al) (Kd.R_base aV) hb); replace aa := bA aa hb; replace Y := bA Y hb; replace M := bA M hb; replace HB := De3 HB aH aI a5 hb; refine hK.out _ _ D9x0_ (fun ad => nm_ ?_); clear hK K; refine pu_ 6 21 ap ?_; refine pu_ 7 28 ap ?_; refine pu_ 8 29 ap ?_; refine on_ 9 (some 8) ap (fun K hK => ?_); refine box_step ?hg (N := 8) ?hd (cs := #[.slice none 0 0]) (t := 26) ?hr ?_; (case hd => rfl); (case hg => rfl); (case hr => exact gs_); intro a1 hg i2 hbox hb; replace al := rA al hb; replace bW := rA bW hb; have a2 := am hbox; have aJ := gA hg HB; have ba := gA hg HB; replace HB := De3 HB aH aI a5 hb; have b1 := nA hg aa; have b6 := mA hg aa; replace aa := bA aa hb; have bR := nA hg Y; have b2 := mA hg Y; replace Y := bA Y hb; have bG := nA hg M; have b3 := mA hg M; replace M := bA M hb; clear hb hbox hg; refine hK.out _ _ D9x0_ (fun ad => nm_ ?_); clear hK K; exact norm_ B30x16_ (ea (cB, a1) _ ⟨ad, B30x13_, B30x12_, (Ab aa), (Ab Y), (Ab M), (Ab a2), aJ.out, ba.out, b1.out, b6.out, bR.out, b2.out, bG.out, b3.out, (Ae4 HB aH aI a5 ba)⟩)
    refine box_step ?hg (N := 8) ?hd (cs := #[.slice none 0 0]) (t := 26) ?hr ?_; (case hd => rfl); (case hg => rfl); (case hr => exact gs_); intro a1 hg gq hbox hb; replace al := rA al hb; have a2 := am hbox; have aJ := gA hg HB; have ba := gA hg HB; replace HB := De3 HB aH aI a5 hb; have b1 := nA hg aa; have b6 := mA hg aa; replace aa := bA aa hb; have bR := nA hg Y; have b2 := mA hg Y; replace Y := bA Y hb; have bG := nA hg M; have b3 := mA hg M; replace M := bA M hb; clear hb hbox hg; refine hK.out _ _ D9x0_ (fun ad => nm_ ?_); clear hK K; refine on_ 5 (some 27) ap (fun K hK => ?_); refine goes_ Tryz.func37 gk_ rfl #[.agg #[.slice bQ ay.length bS], .agg #[.int .i64 ((rd_T74 l1 q).f0), .string ((rd_T74 l1 q).f1), .string ((rd_T74 l1 q).f2), .string ((rd_T74 l1 q).f3)]] (by rfl) rfl rfl gm_ ?_; refine (spec_DoAct.calls k1 _ _ ay ((rd_T74 l1 q).f0) ((rd_T74 l1 q).f1) ((rd_T74 l1 q).f2) ((rd_T74 l1 q).f3) cP false _ B30x8_ ((Kd.R_reads' al.out).2.1) dx.out).mono ?_; rintro e i2 ⟨cB, rfl, aV, hb⟩; refine ⟨_, rfl, ?_⟩; have bW := am (Kd.R_lower (Kd.R_new' aV (Kd.R_lt (Ar al))) (below_size (Ae4 HB aH aI a5 ba))); replace al := am (Kd.R_elder' (Ar al) (Kd.R_base aV) hb); replace aa := bA aa hb; replace Y := bA Y hb; replace M := bA M hb; replace a2 := bA a2 hb; replace HB := De4 HB aH aI a5 ba hb; refine hK.out _ _ D9x0_ (fun ad => nm_ ?_); clear hK K; refine pu_ 6 21 ap ?_; refine pu_ 7 28 ap ?_; refine pu_ 8 29 ap ?_; exact norm_ B30x16_ (ea (cB, a1) _ ⟨ad, B30x13_, B30x12_, (Ab aa), (Ab Y), (Ab M), (Ab a2), aJ.out, ba.out, b1.out, b6.out, bR.out, b2.out, bG.out, b3.out, (Ae4 HB aH aI a5 ba)⟩)
   rintro ⟨cB, a1⟩ cU ⟨hS_, dW, d2, eX, d3, d4, d5, d6, d7, d8, d9, dX, dY, dZ, d0, d1⟩; replace bW := am dW; replace al := am d2; replace Y := am d3; replace M := am d4; replace a2 := am d5; replace aJ := am d6; replace ba := am d7; replace b1 := am d8; replace b6 := am d9; replace bR := am dX; replace b2 := am dY; replace bG := am dZ; replace b3 := am d0; replace HB := am d1; clear dW d2 eX d3 d4 d5 d6 d7 d8 d9 dX dY dZ d0 d1
   have ad : cU.cell? ⟨bz, 0, none⟩ = some (.slice bQ ay.length bS) ∧ cU.cell? (ai.add ((q).toNat * 4)) = some (.int .i64 ((rd_T74 l1 q).f0)) ∧ cU.cell? ⟨(ai.add ((q).toNat * 4)).block, (ai.add ((q).toNat * 4)).off + 1, none⟩ = some (.string ((rd_T74 l1 q).f1)) ∧ cU.cell? ⟨(ai.add ((q).toNat * 4)).block, (ai.add ((q).toNat * 4)).off + 2, none⟩ = some (.string ((rd_T74 l1 q).f2)) ∧ cU.cell? ⟨(ai.add ((q).toNat * 4)).block, (ai.add ((q).toNat * 4)).off + 3, none⟩ = some (.string ((rd_T74 l1 q).f3)) := hS_
   obtain ⟨jo, jA, fW⟩ := Kd.R_slice bW.out
   (first | subst fW | (injection fW with f1_ f2_ f3_; have f4_ := f1_.symm; have f5_ := f3_.symm; clear f1_ f2_ f3_; subst f4_; subst f5_))
   refine norm_ (a' := ?_) ?_ ?_; rotate_left
   ·simp only [putAll, Act.put, List.setIfInBounds_toArray, List.set_cons_zero, List.set_cons_succ]; rfl
   refine on_ 10 none ap (fun K hK => ?_)
   have oK : cU.cell? ⟨a1, 0, none⟩ = some (.slice none 0 0) := bc a2 0
   have jD := blk_frozen a2.out 0; obtain ⟨oF, oG, oH, jL, jM, jN⟩ := o6_ b1 bR bG b6 b2 b3; refine skip_ (w1 := ?_) (by rfl) rfl ?_ ?_; rotate_left
   ·go_simp; rfl
   refine hK.out _ _ ⟨((cell_far (p := ⟨a1, _, none⟩) bG.out _).trans (ad.1)), ((cell_far (p := ⟨a1, _, none⟩) B30x4_ _).trans (ad.2.1)), ((cell_far (p := ⟨a1, _, none⟩) B30x5_ _).trans (ad.2.2.1)), ((cell_far (p := ⟨a1, _, none⟩) B30x6_ _).trans (ad.2.2.2.1)), ((cell_far (p := ⟨a1, _, none⟩) B30x7_ _).trans (ad.2.2.2.2))⟩ (fun ad => ?_); clear hK K; refine pu_ 11 9 ap ?_; refine done_ (done_of ap.out gk_) ?_; obtain ⟨ic, iC, ly, nS, f0, f4⟩ := o6_ eI dB eJ dC bG b3
   have pC : cU.cell? ⟨bz, 0, none⟩ = some (.slice bQ ay.length bS) := bc M 0
   have p9 := blk_frozen M.out 0; obtain ⟨f1, f5, ie, iD⟩ := o4_ fd fc bR b2
   have jd : cU.cell? ⟨ca, 0, none⟩ = some (.slice none 0 0) := bc Y 0
   have jj := blk_frozen Y.out 0
   try go_wp2
   refine bodyPost_ret (results_ct rfl _ _ ca 26 #[.slice bQ ay.length bS] (0, 0) _ rfl (Ap1 Y bR) Tryz.underlying26 rfl gk_) rfl ?_; exact ⟨_, B29x20_, (tfh al.out a2.out (by decide) Y.out (by decide)), (Ae4 HB aH aI a5 ba)⟩
  obtain ⟨rfl, rfl⟩ := s2 aU; clear aU az; obtain ⟨ig, iE, f2, f6⟩ := o4_ eI dB eJ dC
  have pD : wr.cell? ⟨bz, 0, none⟩ = some (e7) := bc M 0
  have qa := blk_frozen M.out 0; obtain ⟨g3, hP, h0⟩ := Kd.R_slice al.out; subst h0; obtain ⟨ih, iF⟩ := o2_ fd fc
  have je : wr.cell? ⟨ca, 0, none⟩ = some (.slice none 0 0) := bc Y 0
  have jk := blk_frozen Y.out 0
  go_wp2
  refine bodyPost_ret (results_ct rfl _ _ ca 26 #[.slice g3 ay.length hP] (0, 0) _ rfl (Ap0 Y) Tryz.underlying26 rfl gk_) rfl ?_; exact ⟨_, B29x20_, (tfg al.out Y.out (by decide)), (Ae3 HB aH aI a5)⟩
theorem B31x21_ (h : p := by have := cG.out; first | omega | exact Nat.le_refl _) : p := h
mutual
def impl_NewestSnap.l0 : Nat → List (S57) → Int → Int → Int → Int → List Int → ByteArray → Option (Int × Int × List Int × ByteArray × Bool)
 | 0, _, _, _, _, _, _, _ => none
 | k + 1, co, cV, b7, cE, dl, dm, dp => if b7 < cV then (if 0 ≤ b7 then (if b7 < (co.length : Int) then ((impl_numberOf.f k ((rd_T57 co b7).f0) (⟨#[115]⟩ : ByteArray) 1000000).bind fun cQ => ((impl_ReadSnap.f k ((rd_T57 co b7).f1)).bind fun bn => (if cQ ≥ 0 then (if bn.2.2.2.2 = true then (if bn.1 = cQ then (impl_NewestSnap.j1 k co cV b7 (decide (cQ > cE)) cE dl dm dp bn.1 bn.2.1 bn.2.2.1 bn.2.2.2.1) else (impl_NewestSnap.j1 k co cV b7 false cE dl dm dp bn.1 bn.2.1 bn.2.2.1 bn.2.2.2.1)) else (impl_NewestSnap.j1 k co cV b7 false cE dl dm dp bn.1 bn.2.1 bn.2.2.1 bn.2.2.2.1)) else (impl_NewestSnap.j1 k co cV b7 false cE dl dm dp bn.1 bn.2.1 bn.2.2.1 bn.2.2.2.1)))) else (none)) else (none)) else (if cE < 0 then (some (0, 0, ([] : List Int), (⟨#[]⟩ : ByteArray), false)) else (some (cE, dl, dm, dp, true)))
def impl_NewestSnap.j1 : Nat → List (S57) → Int → Int → Bool → Int → Int → List Int → ByteArray → Int → Int → List Int → ByteArray → Option (Int × Int × List Int × ByteArray × Bool)
 | 0, _, _, _, _, _, _, _, _, _, _, _, _ => none
 | k + 1, co, cV, b7, i6, cE, dl, dm, dp, i7, i9, ja, jb => if i6 = true then (impl_NewestSnap.l0 k co cV (wrap64 (b7 + 1)) i7 i9 ja jb) else (impl_NewestSnap.l0 k co cV (wrap64 (b7 + 1)) cE dl dm dp)
end
def impl_NewestSnap.f (k : Nat) (l : List (S57)) : Option (Int × Int × List Int × ByteArray × Bool) := (impl_DiskOk.f k l).bind fun gl => (if gl = true then (impl_NewestSnap.l0 k l (l.length : Int) 0 (-1) 0 ([] : List Int) (⟨#[]⟩ : ByteArray)) else (some (0, 0, ([] : List Int), (⟨#[]⟩ : ByteArray), false)))
theorem impl_NewestSnap.calls (k : Nat) (U : Option Addr) (J : Nat) (l : List (S57)) (r1 : Int) (r2 : Int) (r3 : List Int) (r4 : ByteArray) (r5 : Bool) (w : World) (cO : Kd.C k57 w U l.length l) (cN : l.length ≤ J) (h : impl_NewestSnap.f k l = some (r1, r2, r3, r4, r5)) :
  Calls Tryz.prog 11 #[.agg #[.slice U l.length J]] w fun e w' => ∃ gm : Value, e = .returned (.tuple #[.agg #[.int .i64 r1, .int .i64 r2, gm, .string r4], .bool r5]) ∧ Kd.R (Kd.int .i64) 3 w' w.heap.size (fun _ => True) gm r3 ∧ Below w.heap.size w w' := by
 have f8 := Tryz.underlying26
 have oL := Tryz.underlying29
 have iO := Tryz.underlying57
 have br := am cO
 have bC := am cN
 clear cO cN
 have HB := am (Below.refl w.heap.size w)
 have aA := h
 clear h
 unfold impl_NewestSnap.f at aA
 obtain ⟨gl, A2, aW⟩ := bsi aA
 (try dsimp only at aW)
 obtain ⟨rfl, az⟩ | ⟨rfl, az⟩ := sb aW
 ·replace az := am az; clear aA aW; go_enter Tryz.func11, Tryz.ntmps11
  go_wp2_with (first | ((with_reducible refine gate_dst (N := 1) rfl ?_); refine bx (N := 1) (cs := #[.slice U l.length J]) (t := 26) ?_; intro cx hg w4 hbox hb; have ae := am hbox; have aT := gA hg HB; replace HB := hA HB hb; clear hb hbox hg) | ((with_reducible refine gate_dst (N := 2) rfl ?_); refine bx (N := 2) (cs := #[.int .i64 0, .int .i64 0, .slice none 0 0, .string (⟨#[]⟩ : ByteArray)]) (t := 29) ?_; intro cy hg w5 hbox hb; have ak := am hbox; have aX := gA hg HB; replace HB := De1 HB aT hb; have dL := nA hg ae; have dM := mA hg ae; replace ae := bA ae hb; clear hb hbox hg) | ((with_reducible refine gate_dst (N := 4) rfl ?_); refine bx (N := 4) (cs := #[.int .i64 0, .int .i64 0, .slice none 0 0, .string (⟨#[]⟩ : ByteArray)]) (t := 29) ?_; intro dE hg w6 hbox hb; have av := am hbox; have a6 := gA hg HB; replace HB := De2 HB aT aX hb; have cl := nA hg ae; have de := mA hg ae; replace ae := bA ae hb; have cm := nA hg ak; have df := mA hg ak; replace ak := bA ak hb; clear hb hbox hg; have lQ := de.out; have og := cl.out; have ip := df.out; have iM := cm.out; obtain ⟨eo, ep, eq, er, et, eu, ev, ew⟩ := cf4 av; have jO := dL.out; have l6 := dM.out; have pf : w6.cell? ⟨cx, 0, none⟩ = some (.slice U l.length J) := bc ae 0; have pN := blk_frozen ae.out 0) | ((with_reducible refine gate_callee (f := 34) rfl ?_); refine goesL_ (some 12) rfl rfl Tryz.func34 gk_ rfl #[.agg #[.slice U l.length J]] rfl gm_ ?_; refine (impl_DiskOk.calls k _ _ l true _ (Kd.C_below br.out (Ae3 HB aT aX a6)) bC.out A2.out).mono ?_; rintro e fm ⟨rfl, hb⟩; refine ⟨_, rfl, ?_⟩; replace ae := am (blk_below (g := cx) (o := .cells #[.slice U l.length J] 26 (0, 0)) (Ap1 ae cl) hb); replace ak := am (blk_below (g := cy) (o := .cells #[.int .i64 0, .int .i64 0, .slice none 0 0, .string (⟨#[]⟩ : ByteArray)] 29 (0, 0)) (Ap1 ak cm) hb); replace av := am (blk_below (g := dE) (o := .cells #[.int .i64 (-1), .int .i64 0, .slice none 0 0, .string (⟨#[]⟩ : ByteArray)] 29 (0, 0)) (Ap0 av) hb); replace HB := De3 HB aT aX a6 hb; have pj : fm.cell? ⟨cx, 0, none⟩ = some (.slice U l.length J) := bc ae 0; have pQ := blk_frozen ae.out 0))
  go_loopg [18] k (fun kq iS w' => ∃ (be : Int) (cF : Int) (cW : Int) (dn : List Int) (cX : ByteArray) (cS : Value), iS = .int .i64 be ∧ Aside0 (impl_NewestSnap.l0 kq l (l.length : Int) be cF cW dn cX = some (r1, r2, r3, r4, r5)) ∧ Aside0 (kq ≤ k) ∧ Aside0 (Kd.R (Kd.int .i64) 3 w' w.heap.size (fun _ => True) cS dn) ∧ Aside0 (w'.heap[cx]? = some (.cells #[(.slice U l.length J)] 26 (0, 0))) ∧ Aside0 (w'.heap[cy]? = some (.cells #[.int .i64 0, .int .i64 0, (.slice none 0 0), .string (⟨#[]⟩ : ByteArray)] 29 (0, 0))) ∧ Aside0 (w'.heap[dE]? = some (.cells #[.int .i64 cF, .int .i64 cW, cS, .string cX] 29 (0, 0))) ∧ Aside0 (Below w.heap.size w w'))
  case atStart => exact ⟨(0), ((-1)), 0, (([] : List Int)), ((⟨#[]⟩ : ByteArray)), (.slice none 0 0), be_, az, ⟨Nat.le_refl _⟩, ⟨gn_⟩, Cb ae, Cb ak, Cb av, Ce3 HB aT aX a6⟩
  case round =>
   clear az
   try clear c3
   obtain ⟨be, cF, cW, dn, cX, cS, rfl, aU, cG, bq, ae, ak, av, HB⟩ := hrel
   cases gk with
   | zero => exact absurd aU.out (by simp [impl_NewestSnap.l0])
   | succ k1 => ?_
   replace aU := aU.out; simp only [impl_NewestSnap.l0] at aU
   obtain ⟨fR, a3⟩ | ⟨fR, a3⟩ := sd aU
   ·obtain ⟨hm, bF⟩ := yd a3; obtain ⟨ff, bv⟩ := yd bF; obtain ⟨cQ, gN, b9⟩ := bsi bv; (try dsimp only at b9); obtain ⟨⟨e4, e5, cR, e6, iQ⟩, dx, bd⟩ := bsi b9; (try dsimp only at bd); replace bd := am bd; clear aU a3 bF bv b9
    have e1 : 0 ≤ (be : Int) := dga
    have e2 : be < (l.length : Int) := dga
    obtain ⟨fK, hS, eY, eZ, e0⟩ := at_T57 br.out be e1 e2; cases hS; replace eY := (hbc HB eY).trans eY; replace eZ := (hbc HB eZ).trans eZ; replace e0 := (hbc HB e0).trans e0; replace e1 := eq_true e1; replace e2 := eq_true e2
    go_upto_region 9 with (first | ((with_reducible refine gate_dst (N := 6) rfl ?_); refine bx (N := 6) (cs := #[.string (⟨#[]⟩ : ByteArray), .string (⟨#[]⟩ : ByteArray), .int .i64 0]) (t := 57) ?_; intro fX hg oY hbox hb; replace bq := rA bq hb; have bB := am hbox; have ch := gA hg HB; replace HB := De3 HB aT aX a6 hb; have fH := nA hg ae; have g8 := mA hg ae; replace ae := bA ae hb; have fI := nA hg ak; have g9 := mA hg ak; replace ak := bA ak hb; have eK := nA hg av; have fe := mA hg av; replace av := bA av hb; clear hb hbox hg; have k2 := g8.out; have nm := fH.out; have lb := g9.out; have nw := fI.out; have h5 := fe.out; have iv := eK.out; obtain ⟨jf, jg, jh, jl, jm, jn⟩ := cf3 bB) | ((with_reducible refine gate_callee (f := 38) rfl ?_); refine goesL_ (some 24) rfl rfl Tryz.func38 gk_ rfl #[.string ((rd_T57 l be).f0), .string (⟨#[115]⟩ : ByteArray), .int .i64 1000000] rfl gm_ ?_; refine (impl_numberOf.calls k1 ((rd_T57 l be).f0) (⟨#[115]⟩ : ByteArray) 1000000 cQ _ gN.out).mono ?_; rintro e o0 ⟨rfl, hb⟩; refine ⟨_, rfl, ?_⟩; replace bq := am (Kd.R_below (tfg bq.out bB.out (by decide)) hb); replace ae := am (blk_below (g := cx) (o := .cells #[.slice (some fK) l.length J] 26 (0, 0)) (Ap1 ae fH) hb); replace ak := am (blk_below (g := cy) (o := .cells #[.int .i64 0, .int .i64 0, .slice none 0 0, .string (⟨#[]⟩ : ByteArray)] 29 (0, 0)) (Ap1 ak fI) hb); replace av := am (blk_below (g := dE) (o := .cells #[.int .i64 cF, .int .i64 cW, cS, .string cX] 29 (0, 0)) (Ap1 av eK) hb); replace bB := am (blk_below (g := fX) (o := .cells #[.string ((rd_T57 l be).f0), .string ((rd_T57 l be).f1), .int .i64 ((rd_T57 l be).f2)] 57 (0, 0)) (Ap0 bB) hb); replace HB := De4 HB aT aX a6 ch hb; obtain ⟨jf, jg, jh, jl, jm, jn⟩ := cf3 bB) | ((with_reducible refine gate_callee (f := 7) rfl ?_); refine goesL_ (some 28) rfl rfl Tryz.func7 gk_ rfl #[.string ((rd_T57 l be).f1)] rfl gm_ ?_; refine (impl_ReadSnap.calls k1 ((rd_T57 l be).f1) e4 e5 cR e6 iQ _ dx.out).mono ?_; rintro e o1 ⟨oT, rfl, aV, hb⟩; refine ⟨_, rfl, ?_⟩; have cY := am (Kd.R_lower (Kd.R_new' aV (Kd.R_lt (Ar bq))) (below_size (Ae4 HB aT aX a6 ch))); replace bq := am (Kd.R_elder' (Ar bq) (Kd.R_base aV) hb); replace ae := bA ae hb; replace ak := bA ak hb; replace av := bA av hb; replace bB := bA bB hb; replace HB := De4 HB aT aX a6 ch hb) | ((with_reducible refine gate_dst (N := 8) rfl ?_); refine bx (N := 8) (cs := #[.int .i64 0, .int .i64 0, .slice none 0 0, .string (⟨#[]⟩ : ByteArray)]) (t := 29) ?_; intro h2 hg o2 hbox hb; replace bq := rA bq hb; replace cY := rA cY hb; have bp := am hbox; have dy := gA hg HB; replace HB := De4 HB aT aX a6 ch hb; have cI := nA hg ae; have eL := mA hg ae; replace ae := bA ae hb; have cJ := nA hg ak; have eM := mA hg ak; replace ak := bA ak hb; have cK := nA hg av; have eN := mA hg av; replace av := bA av hb; have cL := nA hg bB; have eO := mA hg bB; replace bB := bA bB hb; clear hb hbox hg; have h8 := eL.out; have iy := cI.out; have ls := eM.out; have nN := cJ.out; have fZ := eN.out; have f3 := cK.out; have h9 := eO.out; have iz := cL.out; obtain ⟨fr, fs, ft, fu, fv, fw, fx, fy⟩ := cf4 bp; obtain ⟨bQ, bS, fj⟩ := Kd.R_slice cY.out; subst fj))
    (try simp only [Act.put, List.setIfInBounds_toArray, List.set_cons_zero, List.set_cons_succ])
    go_cut [47] (fun iU wc => ∃ (kq : Nat) (fp : Bool), iU = .bool fp ∧ Aside0 (impl_NewestSnap.j1 kq l (l.length : Int) be fp cF cW dn cX e4 e5 cR e6 = some (r1, r2, r3, r4, r5)) ∧ Aside0 (kq ≤ k1) ∧ Aside0 (Kd.R (Kd.int .i64) 3 wc w.heap.size (fun k_ => some k_ ≠ ((.slice bQ cR.length bS) : Value).ownBlock) cS dn) ∧ Aside0 (Kd.R (Kd.int .i64) 3 wc w.heap.size (fun k_ => some k_ ≠ (cS : Value).ownBlock) (.slice bQ cR.length bS) cR) ∧ Hc wc cx #[(.slice (some fK) l.length J)] 26 ∧ Hc wc cy #[.int .i64 0, .int .i64 0, (.slice none 0 0), .string (⟨#[]⟩ : ByteArray)] 29 ∧ Hc wc dE #[.int .i64 cF, .int .i64 cW, cS, .string cX] 29 ∧ Hc wc fX #[.string ((rd_T57 l be).f0), .string ((rd_T57 l be).f1), .int .i64 ((rd_T57 l be).f2)] 57 ∧ Hc wc h2 #[.int .i64 e4, .int .i64 e5, (.slice bQ cR.length bS), .string e6] 29 ∧ Hb w wc)
    case first =>
     replace bd := bd.out
     obtain ⟨dR, bD⟩ | ⟨dR, bD⟩ := sp bd
     ·have dS : decide (0 ≤ cQ) = true := decide_eq_true dR
      clear dR
      (first | rw [dS] | (simp only [i64_w, i32_w]; rw [dS]) | skip)
      obtain ⟨rfl, bX⟩ | ⟨rfl, bX⟩ := sb bD
      ·obtain ⟨eW, bu⟩ | ⟨eW, bu⟩ := sp bX
       ·obtain ⟨hz, hB⟩ := yE eW; clear eW; replace bu := am bu; clear bd bD bX; obtain ⟨lx, nR, ia, iA, ib, iB, ic, iC⟩ := o8_ eL cI eM cJ eN cK eO cL; obtain ⟨fr, fs, ft, fu, fv, fw, fx, fy⟩ := cf4 bp; obtain ⟨f0, f4, lz, nT, f1, f5⟩ := o6_ de cl df cm eK fe; obtain ⟨eo, ep, eq, er, et, eu, ev, ew⟩ := cf4 av
        go_wp2
        go_meet
        case rel => exact ⟨_, (decide (cQ > cF)), be_, bu, D9x1_⟩
       obtain ⟨hz, hB⟩ := nE eW; replace bu := am bu; clear bd bD bX; obtain ⟨lA, nU, ig, iE, f2, f6, lB, nV⟩ := o8_ eL cI eM cJ eN cK eO cL; obtain ⟨fr, fs, ft, fu, fv, fw, fx, fy⟩ := cf4 bp
       go_wp2
       go_meet
       case rel => exact ⟨_, false, be_, bu, D9x1_⟩
      replace bX := am bX; clear bd bD
      go_wp2
      go_meet
      case rel => exact ⟨_, false, be_, bX, D9x1_⟩
     have dS : decide (0 ≤ cQ) = false := decide_eq_false dR
     clear dR
     (first | rw [dS] | (simp only [i64_w, i32_w]; rw [dS]) | skip)
     replace bD := am bD; clear bd
     go_wp2
     go_meet
     case rel => exact ⟨_, false, be_, bD, D9x1_⟩
    clear bd
    try clear c3
    try clear js
    try clear fR
    try clear jt
    try clear hm
    try clear ju
    try clear ff
    try clear eY
    try clear eZ
    try clear e0
    try clear e1
    try clear e2
    obtain ⟨kq, fp, rfl, bT, ex, bq, g6, ae, ak, av, bB, bp, HB⟩ := hcut
    cases kq with
    | zero => exact absurd bT.out (by simp [impl_NewestSnap.j1])
    | succ ga => ?_
    replace bT := bT.out; simp only [impl_NewestSnap.j1] at bT
    obtain ⟨rfl, cj⟩ | ⟨rfl, cj⟩ := sb bT
    ·replace cj := am cj; clear bT; obtain ⟨lD, nX, lE, nY, lF, nZ, ii, iG⟩ := o8_ eL cI eM cJ eN cK eO cL; obtain ⟨fr, fs, ft, fu, fv, fw, fx, fy⟩ := cf4 bp; obtain ⟨lH, n1, lI, n2, lJ, n3⟩ := o6_ de cl df cm eK fe; obtain ⟨eo, ep, eq, er, et, eu, ev, ew⟩ := cf4 av
     go_wp2
     go_roundg ga
     case measure => have := cG.out; have := ex.out; omega
     case rel => exact ⟨(wrap64 (be + 1)), e4, e5, cR, e6, (.slice bQ cR.length bS), be_, cj, ⟨(by have := cG.out; have := ex.out; omega)⟩, ⟨tfg g6.out av.out (by decide)⟩, Cp1 ae cl, Cp1 ak cm, Cp0 av, Ce5 HB aT aX a6 ch dy⟩
    replace cj := am cj; clear bT
    go_wp2
    go_roundg ga
    case measure => have := cG.out; have := ex.out; omega
    case rel => exact ⟨(wrap64 (be + 1)), cF, cW, dn, cX, cS, be_, cj, ⟨(by have := cG.out; have := ex.out; omega)⟩, ⟨(by (with_reducible repeat (first | apply Kd.R_alloc | apply Kd.R_drewN | apply Kd.R_drew)); exact Kd.R_mono bq.out (fun _ hk => trivial))⟩, Cb ae, Cb ak, Cb av, Ce5 HB aT aX a6 ch dy⟩
   obtain ⟨hD, ct⟩ | ⟨hD, ct⟩ := sd a3
   ·obtain ⟨rfl, rfl, rfl, rfl, rfl⟩ := s5 ct; clear ct aU a3; obtain ⟨lN, oc, ij, iH⟩ := o4_ de cl df cm; obtain ⟨eo, ep, eq, er, et, eu, ev, ew⟩ := cf4 av; obtain ⟨lO, od⟩ := o2_ dM dL; obtain ⟨gy, gB, gC, gD, gE, gF, gG, gH⟩ := cf4 ak
    go_wp2
    refine bodyPost_ret (results_ct rfl _ _ cy 29 #[.int .i64 0, .int .i64 0, .slice none 0 0, .string (⟨#[]⟩ : ByteArray)] (0, 0) _ rfl (Ap0 ak) Tryz.underlying29 rfl gk_) rfl ?_; exact ⟨_, B29x20_, gn_, (Ae3 HB aT aX a6)⟩
   obtain ⟨rfl, rfl, rfl, rfl, rfl⟩ := s5 ct; clear ct aU a3; obtain ⟨lP, oe, ik, iI⟩ := o4_ de cl df cm; obtain ⟨eo, ep, eq, er, et, eu, ev, ew⟩ := cf4 av; obtain ⟨il, iJ⟩ := o2_ dM dL; obtain ⟨gy, gB, gC, gD, gE, gF, gG, gH⟩ := cf4 ak; obtain ⟨g4, hQ, h1⟩ := Kd.R_slice bq.out; subst h1
   go_wp2
   refine bodyPost_ret (results_ct rfl _ _ cy 29 #[.int .i64 cF, .int .i64 cW, .slice g4 dn.length hQ, .string cX] (0, 0) _ rfl (Ap0 ak) Tryz.underlying29 rfl gk_) rfl ?_; exact ⟨_, B29x20_, (tfg bq.out ak.out (by decide)), (Ae3 HB aT aX a6)⟩
 obtain ⟨rfl, rfl, rfl, rfl, rfl⟩ := s5 az
 clear az aA aW
 go_enter Tryz.func11, Tryz.ntmps11
 go_wp2_with (first | ((with_reducible refine gate_dst (N := 1) rfl ?_); refine bx (N := 1) (cs := #[.slice U l.length J]) (t := 26) ?_; intro cx hg o9 hbox hb; have ae := am hbox; have aT := gA hg HB; replace HB := hA HB hb; clear hb hbox hg) | ((with_reducible refine gate_dst (N := 2) rfl ?_); refine bx (N := 2) (cs := #[.int .i64 0, .int .i64 0, .slice none 0 0, .string (⟨#[]⟩ : ByteArray)]) (t := 29) ?_; intro cy hg pa hbox hb; have ak := am hbox; have aX := gA hg HB; replace HB := De1 HB aT hb; have dL := nA hg ae; have dM := mA hg ae; replace ae := bA ae hb; clear hb hbox hg) | ((with_reducible refine gate_dst (N := 4) rfl ?_); refine bx (N := 4) (cs := #[.int .i64 0, .int .i64 0, .slice none 0 0, .string (⟨#[]⟩ : ByteArray)]) (t := 29) ?_; intro dE hg i3 hbox hb; have av := am hbox; have a6 := gA hg HB; replace HB := De2 HB aT aX hb; have cl := nA hg ae; have de := mA hg ae; replace ae := bA ae hb; have cm := nA hg ak; have df := mA hg ak; replace ak := bA ak hb; clear hb hbox hg; have im := de.out; have iK := cl.out; have io := df.out; have iL := cm.out; obtain ⟨eo, ep, eq, er, et, eu, ev, ew⟩ := cf4 av; have iq := dL.out; have iN := dM.out; have pH : i3.cell? ⟨cx, 0, none⟩ = some (.slice U l.length J) := bc ae 0; have qe := blk_frozen ae.out 0) | ((with_reducible refine gate_callee (f := 34) rfl ?_); refine goesL_ (some 12) rfl rfl Tryz.func34 gk_ rfl #[.agg #[.slice U l.length J]] rfl gm_ ?_; refine (impl_DiskOk.calls k _ _ l false _ (Kd.C_below br.out (Ae3 HB aT aX a6)) bC.out A2.out).mono ?_; rintro e pb ⟨rfl, hb⟩; refine ⟨_, rfl, ?_⟩; replace ae := am (blk_below (g := cx) (o := .cells #[.slice U l.length J] 26 (0, 0)) (Ap1 ae cl) hb); replace ak := am (blk_below (g := cy) (o := .cells #[.int .i64 0, .int .i64 0, .slice none 0 0, .string (⟨#[]⟩ : ByteArray)] 29 (0, 0)) (Ap1 ak cm) hb); replace av := am (blk_below (g := dE) (o := .cells #[.int .i64 (-1), .int .i64 0, .slice none 0 0, .string (⟨#[]⟩ : ByteArray)] 29 (0, 0)) (Ap0 av) hb); replace HB := De3 HB aT aX a6 hb; obtain ⟨gy, gB, gC, gD, gE, gF, gG, gH⟩ := cf4 ak))
 refine bodyPost_ret (results_ct rfl _ _ cy 29 #[.int .i64 0, .int .i64 0, .slice none 0 0, .string (⟨#[]⟩ : ByteArray)] (0, 0) _ rfl (Ap0 ak) Tryz.underlying29 rfl gk_) rfl ?_
 exact ⟨_, B29x20_, gn_, (Ae3 HB aT aX a6)⟩
end
end Go.Proofs.YtfikaimmclgajaaGreatDoor.QFnSnaps
