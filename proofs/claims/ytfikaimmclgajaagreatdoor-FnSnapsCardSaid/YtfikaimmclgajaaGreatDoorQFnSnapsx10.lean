/- Functions that a law reaches, as functions of Lean, and the walks that show that the calls come to their answers. No condition. -/
import Derived.Test.YtfikaimmclgajaaGreatDoorQFnSnapsx0
import Derived.Test.YtfikaimmclgajaaGreatDoorQFnSnapsx6
import Derived.Test.YtfikaimmclgajaaGreatDoorQFnSnapsx7
import Derived.Test.YtfikaimmclgajaaGreatDoorQFnSnapsx8
import Derived.Test.YtfikaimmclgajaaGreatDoorQFnSnapsx9
import Derived.Test.YtfikaimmclgajaaGreatDoorVFnSnapsShort3
import Derived.Test.YtfikaimmclgajaaGreatDoorVFnSnapsShort2
import Derived.Test.YtfikaimmclgajaaGreatDoorVFnSnapsShort
import Derived.Test.YtfikaimmclgajaaGreatDoorVFnSnapsShort8
namespace Go.Proofs.YtfikaimmclgajaaGreatDoor.QFnSnaps
open Go.RowKit Go.Proofs.YtfikaimmclgajaaGreatDoorW.PrintWords Go.Proofs.YtfikaimmclgajaaGreatDoorW.PrintLast Go.Proofs.YtfikaimmclgajaaGreatDoorW.PrintMore Go.Proofs.YtfikaimmclgajaaGreatDoor.Short
set_option linter.unusedVariables false
set_option linter.unusedSimpArgs false
set_option maxHeartbeats 8000000
set_option maxRecDepth 100000
variable {p : Prop}
theorem D10x0_ (h : p := by exact ⟨⟨gl_⟩, ⟨tfg ax.out J.out (by decide)⟩, ⟨tfg ah.out J.out (by decide)⟩, ⟨tfg ba.out J.out (by decide)⟩, Cp1 M a1, Cp1 U a2, Cp0 J, Ce3 HB ae ag aw⟩) : p := h
theorem D10x1_ (h : p := by exact ⟨⟨B32x19_⟩, Cr Z, Cr aa, Cb q, Cb z, Cb D, Ce3 HB ac av aX⟩) : p := h
theorem D10x2_ (h : p := by exact ⟨bc D 0, bc D 1, bc D 2, bc z 0, bc z 1, bc z 2, bc z 3⟩) : p := h
section
attribute [local go_sem] max2_int min2_int max_two min_two max_three min_three max_four min_four
theorem B32x19_ (h : p := by have := b0.out; first | omega | exact Nat.le_refl _) : p := h
theorem B32x21_ (h : p := by first | rfl | (simp [errW_none, errW_some] <;> rfl) | (simp [*, errW_none, errW_some] <;> rfl)) : p := h
mutual
def impl_ShedActs.l0 : Nat → List (S74) → List (S57) → Int → Int → Int → Int → List Int → ByteArray → Option ((List (S74)))
 | 0, _, _, _, _, _, _, _, _ => none
 | k + 1, x3, ai, bG, ad, bH, bX, bY, bZ => if ad < bG then (if 0 ≤ ad then (if ad < (ai.length : Int) then (if ((rd_T57 ai ad).f0).toList = ([115, 43] : List UInt8) then (impl_ShedActs.j1 k x3 ai bG ad true bH bX bY bZ ((rd_T57 ai ad).f0) ((rd_T57 ai ad).f1) ((rd_T57 ai ad).f2)) else ((impl_isSnap.f k ((rd_T57 ai ad).f0) ((rd_T57 ai ad).f1) ((rd_T57 ai ad).f2)).bind fun dC => (if dC = true then ((impl_SnapName.f bH).bind fun cA => (impl_ShedActs.j1 k x3 ai bG ad (((rd_T57 ai ad).f0).toList != cA.toList) bH bX bY bZ ((rd_T57 ai ad).f0) ((rd_T57 ai ad).f1) ((rd_T57 ai ad).f2))) else (impl_ShedActs.j1 k x3 ai bG ad false bH bX bY bZ ((rd_T57 ai ad).f0) ((rd_T57 ai ad).f1) ((rd_T57 ai ad).f2))))) else (none)) else (none)) else (some x3)
def impl_ShedActs.j1 : Nat → List (S74) → List (S57) → Int → Int → Bool → Int → Int → List Int → ByteArray → ByteArray → ByteArray → Int → Option ((List (S74)))
 | 0, _, _, _, _, _, _, _, _, _, _, _, _ => none
 | k + 1, x3, ai, bG, ad, eW, bH, bX, bY, bZ, eY, gQ, gR => if eW = true then (if x3.length < 2513169434916 then (impl_ShedActs.l0 k (x3 ++ [(⟨4, eY, (⟨#[]⟩ : ByteArray), (⟨#[]⟩ : ByteArray)⟩ : S74)]) ai bG (wrap64 (ad + 1)) bH bX bY bZ) else (none)) else (impl_ShedActs.l0 k x3 ai bG (wrap64 (ad + 1)) bH bX bY bZ)
end
def impl_ShedActs.f (k : Nat) (j : List (S57)) : Option ((List (S74))) := (some (([] : List (S74)) : List (S74))).bind fun cI => ((impl_NewestSnap.f k j).bind fun b4 => (if b4.2.2.2.2 = true then (impl_ShedActs.l0 k cI j (j.length : Int) 0 b4.1 b4.2.1 b4.2.2.1 b4.2.2.2.1) else (some cI)))
def impl_ShedActs.T8 : Bool × List (List Nat × List Nat) := (true, [([], []), ([0], [0]), ([1], [1]), ([2], [2]), ([3], [3]), ([4, 3, 3], [3, 4]), ([5, 5, 3], [3, 5]), ([6], [6]), ([7, 6], [6, 7]), ([6], [6]), ([9, 6], [6, 9]), ([10, 6, 6], [6, 10]), ([8, 11, 6], [6, 8, 11]), ([6, 12, 3], [3, 6, 12]), ([3, 13], [3, 13])])
def impl_ShedActs.B8 : List Nat := [0, 1, 3, 7, 15, 31, 63, 127, 255, 127, 639, 1663, 4095, 8191, 16383]
theorem impl_ShedActs.tab8 : rtab .any (opsOf Tryz.f12 8) = impl_ShedActs.T8 := by kernel_rfl
theorem impl_ShedActs.bits8 : waitsOk impl_ShedActs.T8.2 impl_ShedActs.B8 = true := by kernel_rfl
theorem impl_ShedActs.calls (k : Nat) (bj : Option Addr) (aH : Nat) (j : List (S57)) (r : List (S74)) (w : World) (dz : Kd.C k57 w bj j.length j) (dy : j.length ≤ aH) (h : impl_ShedActs.f k j = some r) :
  Calls Tryz.prog 12 #[.agg #[.slice bj j.length aH]] w fun e w' => ∃ dH : Value, e = .returned (dH) ∧ Kd.R k74 74 w' w.heap.size (fun _ => True) dH r ∧ Below w.heap.size w w' := by
 have eG := Tryz.underlying26
 have eH := Tryz.underlying29
 have gj := Tryz.underlying57
 have gl := Tryz.underlying74
 have cU := am dz
 have dl := am dy
 clear dz dy
 have HB := am (Below.refl w.heap.size w)
 have aN := h
 clear h
 unfold impl_ShedActs.f at aN
 obtain ⟨cI, ce⟩ : ∃ y_ : List (S74), y_ = (([] : List (S74))) := ⟨_, rfl⟩
 (first | with_reducible replace aN := hq ce aN | rw [← ce] at aN | simp only [← ce] at aN)
 have ck := am ce
 clear ce
 obtain ⟨⟨a4, bl, ao, bm, gm⟩, A2, bp⟩ := bsi aN
 (try dsimp only at bp)
 obtain ⟨rfl, aR⟩ | ⟨rfl, aR⟩ := sb bp
 ·replace aR := am aR; clear aN bp; go_enter Tryz.func12, Tryz.ntmps12
  go_wp2_with (first | ((with_reducible refine gate_dst (N := 1) rfl ?_); refine bx (N := 1) (cs := #[.slice bj j.length aH]) (t := 26) ?_; intro br hg w4 hbox hb; have q := am hbox; have ac := gA hg HB; replace HB := hA HB hb; clear hb hbox hg) | ((with_reducible refine gate_dst (N := 8) rfl ?_); refine lL k74 74 8 ([] : List (S74)) [] (Reps.none _ _) ?_; intro eP w5 cd hb; (first | rw [← ck.out] at cd | (simp only [Int.reduceToNat] at cd; rw [← ck.out] at cd)); have a9 := am (Kd.R_lower cd (below_size (Ae1 HB ac))); replace q := bA q hb; replace HB := De1 HB ac hb; clear hb cd; have gY : w5.cell? ⟨br, 0, none⟩ = some (.slice bj j.length aH) := bc q 0; have g8 := blk_frozen q.out 0) | ((with_reducible refine gate_callee (f := 11) rfl ?_); refine goesL_ (some 11) rfl rfl Tryz.func11 gk_ rfl #[.agg #[.slice bj j.length aH]] rfl gm_ ?_; refine (impl_NewestSnap.calls k _ _ j a4 bl ao bm true _ (tc (Kd.C_below cU.out HB.out)) dl.out A2.out).mono ?_; rintro e w8 ⟨eQ, rfl, al, hb⟩; refine ⟨_, rfl, ?_⟩; replace a9 := rA a9 hb; have bw := am (Kd.R_lower al (below_size (Ae1 HB ac))); replace q := bA q hb; replace HB := De1 HB ac hb) | ((with_reducible refine gate_dst (N := 4) rfl ?_); refine bx (N := 4) (cs := #[.int .i64 0, .int .i64 0, .slice none 0 0, .string (⟨#[]⟩ : ByteArray)]) (t := 29) ?_; intro bk hg w9 hbox hb; replace a9 := rA a9 hb; replace bw := rA bw hb; have z := am hbox; have av := gA hg HB; replace HB := De1 HB ac hb; have cj := nA hg q; have cY := mA hg q; replace q := bA q hb; clear hb hbox hg; have fr := cY.out; have fQ := cj.out; obtain ⟨e3, e4, e5, e6, fb, fc, fd, fe⟩ := cf4 z; obtain ⟨a6, bh, eo⟩ := Kd.R_slice bw.out; subst eo; have e2 : w9.cell? ⟨br, 0, none⟩ = some (.slice bj j.length aH) := bc q 0; have fa := blk_frozen q.out 0))
  go_loopg [3, 20] k (fun kq v3 eM w' => ∃ (bi : List (S74)) (l : Int), eM = .int .i64 l ∧ Aside0 (impl_ShedActs.l0 kq bi j (j.length : Int) l a4 bl ao bm = some r) ∧ Aside0 (kq ≤ k) ∧ Aside0 (Kd.R k74 74 w' w.heap.size (fun _ => True) v3 bi) ∧ Aside0 (Kd.R (Kd.int .i64) 3 w' w.heap.size (fun _ => True) (.slice a6 ao.length bh) ao) ∧ Aside0 (w'.heap[br]? = some (.cells #[(.slice bj j.length aH)] 26 (0, 0))) ∧ Aside0 (w'.heap[bk]? = some (.cells #[.int .i64 a4, .int .i64 bl, (.slice a6 ao.length bh), .string bm] 29 (0, 0))) ∧ Aside0 (Below w.heap.size w w'))
  case atStart => exact ⟨(cI), 0, be_, aR, ⟨Nat.le_refl _⟩, ⟨tfg a9.out z.out (by decide)⟩, ⟨tfg bw.out z.out (by decide)⟩, Cp1 q cj, Cp0 z, Ce2 HB ac av⟩
  case round =>
   clear aR
   try clear c3
   obtain ⟨bi, l, rfl, be, b0, Z, aa, q, z, HB⟩ := hrel
   cases gk with
   | zero => exact absurd be.out (by simp [impl_ShedActs.l0])
   | succ k1 => ?_
   replace be := be.out; simp only [impl_ShedActs.l0] at be
   obtain ⟨dx, bq⟩ | ⟨dx, bq⟩ := sd be
   ·obtain ⟨d4, aA⟩ := yd bq; obtain ⟨d5, ak⟩ := yd aA; replace ak := am ak; clear be bq aA
    have cy : 0 ≤ (l : Int) := dga
    have cz : l < (j.length : Int) := dga
    obtain ⟨cl, em, cu, cv, cw⟩ := at_T57 cU.out l cy cz; cases em; replace cu := (hbc HB cu).trans cu; replace cv := (hbc HB cv).trans cv; replace cw := (hbc HB cw).trans cw; replace cy := eq_true cy; replace cz := eq_true cz
    go_upto_region 8 with (first | ((with_reducible refine gate_dst (N := 7) rfl ?_); refine bx (N := 7) (cs := #[.string (⟨#[]⟩ : ByteArray), .string (⟨#[]⟩ : ByteArray), .int .i64 0]) (t := 57) ?_; intro af hg cH hbox hb; replace Z := rA Z hb; replace aa := rA aa hb; have D := am hbox; have aX := gA hg HB; replace HB := De2 HB ac av hb; have b2 := nA hg q; have dm := mA hg q; replace q := bA q hb; have b3 := nA hg z; have dn := mA hg z; replace z := bA z hb; clear hb hbox hg; have ey := dm.out; have eC := b2.out; have ez := dn.out; have eD := b3.out; obtain ⟨e7, e8, e9, ff, fg, fh⟩ := cf3 D))
    (try simp only [Act.put, List.setIfInBounds_toArray, List.set_cons_zero, List.set_cons_succ])
    go_cut [38] (fun eN wc => ∃ (kq : Nat) (dh : Bool), eN = .bool dh ∧ Aside0 (impl_ShedActs.j1 kq bi j (j.length : Int) l dh a4 bl ao bm ((rd_T57 j l).f0) ((rd_T57 j l).f1) ((rd_T57 j l).f2) = some r) ∧ Aside0 (kq ≤ k1) ∧ Aside0 (Kd.R k74 74 wc w.heap.size (fun _ => True) u3 bi) ∧ Aside0 (Kd.R (Kd.int .i64) 3 wc w.heap.size (fun _ => True) (.slice a6 ao.length bh) ao) ∧ Hc wc br #[(.slice (some cl) j.length aH)] 26 ∧ Hc wc bk #[.int .i64 a4, .int .i64 bl, (.slice a6 ao.length bh), .string bm] 29 ∧ Hc wc af #[.string ((rd_T57 j l).f0), .string ((rd_T57 j l).f1), .int .i64 ((rd_T57 j l).f2)] 57 ∧ Hb w wc)
    case first =>
     replace ak := ak.out
     obtain ⟨cm, ay⟩ | ⟨cm, ay⟩ := sp ak
     ·obtain ⟨b6, d6⟩ := yE cm; clear cm
      (first | rw [b6] | (simp only [i64_w, i32_w]; rw [b6]) | skip)
      replace ay := am ay; clear ak
      try go_wp2
      generalize hw : (((cH.setCell ⟨af, 0, none⟩ (.string ((rd_T57 j l).f0))).setCell ⟨af, 1, none⟩ (.string ((rd_T57 j l).f1))).setCell ⟨af, 2, none⟩ (.int .i64 ((rd_T57 j l).f2))) = bD; replace hw := hw.symm
      replace Z : Aside0 (Kd.R k74 74 bD w.heap.size (fun _ => True) u3 bi) := ⟨wtfg Z.out D.out (by decide)⟩
      replace aa : Aside0 (Kd.R (Kd.int .i64) 3 bD w.heap.size (fun _ => True) (.slice a6 ao.length bh) ao) := ⟨wtfg aa.out D.out (by decide)⟩
      replace q : Hc bD br #[.slice (some cl) j.length aH] 26 := ⟨wAp1 q b2⟩
      replace z : Hc bD bk #[.int .i64 a4, .int .i64 bl, .slice a6 ao.length bh, .string bm] 29 := ⟨wAp1 z b3⟩
      replace D : Hc bD af #[.string ((rd_T57 j l).f0), .string ((rd_T57 j l).f1), .int .i64 ((rd_T57 j l).f2)] 57 := ⟨wAp0 D⟩
      replace HB : Hb w bD := ⟨wAe3 HB ac av aX⟩
      clear hw; replace Z := eA Z; replace aa := eA aa; replace q := dA q; replace z := dA z; replace D := dA D; replace HB := bdr HB; refine st_ 15 (fun w' => w'.cell? ⟨af, 0, none⟩ = some (.string ((rd_T57 j l).f0)) ∧ w'.cell? ⟨af, 1, none⟩ = some (.string ((rd_T57 j l).f1)) ∧ w'.cell? ⟨af, 2, none⟩ = some (.int .i64 ((rd_T57 j l).f2))) [] impl_ShedActs.tab8 impl_ShedActs.bits8 ⟨bc D 0, bc D 1, bc D 2⟩ (fun aD B bo => ?_); generalize bD.drew = gB at Z aa q z D HB aD ⊢; refine pu_ 0 24 B ?_; refine ta_ 1 25 B bo aD ?_; refine pu_ 2 26 B ?_; refine pu_ 3 27 B ?_; refine of_ 4 28 B ?_; refine of_ 5 29 B ?_; refine of_ 6 30 B ?_; refine of_ 7 31 B ?_; refine of_ 8 32 B ?_; refine of_ 9 33 B ?_; refine of_ 10 34 B ?_; refine of_ 11 35 B ?_; refine of_ 12 36 B ?_; refine of_ 13 37 B ?_; refine pu_ 14 38 B ?_; refine done_ (done_of B.out gk_) ?_
      try go_wp2
      go_meet
      case rel => exact ⟨_, true, be_, ay, D10x1_⟩
     obtain ⟨b6, d6⟩ := nE cm
     (first | rw [b6] | (simp only [i64_w, i32_w]; rw [b6]) | skip)
     obtain ⟨dC, dk, aT⟩ := bsi ay; (try dsimp only at aT)
     obtain ⟨rfl, aG⟩ | ⟨rfl, aG⟩ := sb aT
     ·obtain ⟨cA, dK, bd⟩ := bsi aG; (try dsimp only at bd); replace bd := am bd; clear ak ay aT aG
      try go_wp2
      generalize hw : (((cH.setCell ⟨af, 0, none⟩ (.string ((rd_T57 j l).f0))).setCell ⟨af, 1, none⟩ (.string ((rd_T57 j l).f1))).setCell ⟨af, 2, none⟩ (.int .i64 ((rd_T57 j l).f2))) = bE; replace hw := hw.symm
      replace Z : Aside0 (Kd.R k74 74 bE w.heap.size (fun _ => True) u3 bi) := ⟨wtfg Z.out D.out (by decide)⟩
      replace aa : Aside0 (Kd.R (Kd.int .i64) 3 bE w.heap.size (fun _ => True) (.slice a6 ao.length bh) ao) := ⟨wtfg aa.out D.out (by decide)⟩
      replace q : Hc bE br #[.slice (some cl) j.length aH] 26 := ⟨wAp1 q b2⟩
      replace z : Hc bE bk #[.int .i64 a4, .int .i64 bl, .slice a6 ao.length bh, .string bm] 29 := ⟨wAp1 z b3⟩
      replace D : Hc bE af #[.string ((rd_T57 j l).f0), .string ((rd_T57 j l).f1), .int .i64 ((rd_T57 j l).f2)] 57 := ⟨wAp0 D⟩
      replace HB : Hb w bE := ⟨wAe3 HB ac av aX⟩
      clear hw; replace Z := eA Z; replace aa := eA aa; replace q := dA q; replace z := dA z; replace D := dA D; replace HB := bdr HB; refine st_ 15 (fun w' => w'.cell? ⟨af, 0, none⟩ = some (.string ((rd_T57 j l).f0)) ∧ w'.cell? ⟨af, 1, none⟩ = some (.string ((rd_T57 j l).f1)) ∧ w'.cell? ⟨af, 2, none⟩ = some (.int .i64 ((rd_T57 j l).f2)) ∧ w'.cell? ⟨bk, 0, none⟩ = some (.int .i64 a4) ∧ w'.cell? ⟨bk, 1, none⟩ = some (.int .i64 bl) ∧ w'.cell? ⟨bk, 2, none⟩ = some (.slice a6 ao.length bh) ∧ w'.cell? ⟨bk, 3, none⟩ = some (.string bm)) [] impl_ShedActs.tab8 impl_ShedActs.bits8 D10x2_ (fun aD B bo => ?_); generalize bE.drew = gC at Z aa q z D HB aD ⊢; refine pu_ 0 24 B ?_; refine ta_ 1 25 B bo aD ?_; refine pu_ 2 26 B ?_; refine pu_ 3 27 B ?_; refine ta_ 4 28 B bo aD ?_; refine on_ 5 (some 29) B (fun K hK => ?_); refine goes_ Tryz.func36 gk_ rfl #[.agg #[.string ((rd_T57 j l).f0), .string ((rd_T57 j l).f1), .int .i64 ((rd_T57 j l).f2)]] (by rfl) rfl rfl gm_ ?_; refine (impl_isSnap.calls k1 ((rd_T57 j l).f0) ((rd_T57 j l).f1) ((rd_T57 j l).f2) true _ dk.out).mono ?_; rintro e gD ⟨rfl, hb⟩; refine ⟨_, rfl, ?_⟩; replace Z := rA Z hb; replace aa := rA aa hb; replace q := bA q hb; replace z := bA z hb; replace D := bA D hb; replace HB := De3 HB ac av aX hb; refine hK.out _ _ D10x2_ (fun aD => nm_ ?_); clear hK K; refine pu_ 6 30 B ?_; refine pu_ 7 31 B ?_; refine pu_ 9 33 B ?_; refine ta_ 8 32 B bo aD ?_; refine ta_ 10 34 B bo aD ?_; refine on_ 11 (some 35) B (fun K hK => ?_); refine goes_ Tryz.func13 gk_ rfl #[.int .i64 a4] (by rfl) rfl rfl gm_ ?_; refine (impl_SnapName.calls a4 cA _ dK.out).mono ?_; rintro e w' ⟨rfl, ⟨nd, rfl⟩⟩; refine ⟨_, rfl, ?_⟩; refine hK.out _ _ D10x2_ (fun aD => nm_ ?_); clear hK K; refine pu_ 12 36 B ?_; refine pu_ 13 37 B ?_; refine pu_ 14 38 B ?_; refine done_ (done_of B.out gk_) ?_
      try go_wp2
      go_meet
      case rel => exact ⟨_, ((((rd_T57 j l).f0).toList != cA.toList)), be_, bd, D10x1_⟩
     replace aG := am aG; clear ak ay aT
     try go_wp2
     generalize hw : (((cH.setCell ⟨af, 0, none⟩ (.string ((rd_T57 j l).f0))).setCell ⟨af, 1, none⟩ (.string ((rd_T57 j l).f1))).setCell ⟨af, 2, none⟩ (.int .i64 ((rd_T57 j l).f2))) = bF; replace hw := hw.symm
     replace Z : Aside0 (Kd.R k74 74 bF w.heap.size (fun _ => True) u3 bi) := ⟨wtfg Z.out D.out (by decide)⟩
     replace aa : Aside0 (Kd.R (Kd.int .i64) 3 bF w.heap.size (fun _ => True) (.slice a6 ao.length bh) ao) := ⟨wtfg aa.out D.out (by decide)⟩
     replace q : Hc bF br #[.slice (some cl) j.length aH] 26 := ⟨wAp1 q b2⟩
     replace z : Hc bF bk #[.int .i64 a4, .int .i64 bl, .slice a6 ao.length bh, .string bm] 29 := ⟨wAp1 z b3⟩
     replace D : Hc bF af #[.string ((rd_T57 j l).f0), .string ((rd_T57 j l).f1), .int .i64 ((rd_T57 j l).f2)] 57 := ⟨wAp0 D⟩
     replace HB : Hb w bF := ⟨wAe3 HB ac av aX⟩
     clear hw; replace Z := eA Z; replace aa := eA aa; replace q := dA q; replace z := dA z; replace D := dA D; replace HB := bdr HB; refine st_ 15 (fun w' => w'.cell? ⟨af, 0, none⟩ = some (.string ((rd_T57 j l).f0)) ∧ w'.cell? ⟨af, 1, none⟩ = some (.string ((rd_T57 j l).f1)) ∧ w'.cell? ⟨af, 2, none⟩ = some (.int .i64 ((rd_T57 j l).f2))) [] impl_ShedActs.tab8 impl_ShedActs.bits8 ⟨bc D 0, bc D 1, bc D 2⟩ (fun aD B bo => ?_); generalize bF.drew = gE at Z aa q z D HB aD ⊢; refine pu_ 0 24 B ?_; refine ta_ 1 25 B bo aD ?_; refine pu_ 2 26 B ?_; refine pu_ 3 27 B ?_; refine ta_ 4 28 B bo aD ?_; refine on_ 5 (some 29) B (fun K hK => ?_); refine goes_ Tryz.func36 gk_ rfl #[.agg #[.string ((rd_T57 j l).f0), .string ((rd_T57 j l).f1), .int .i64 ((rd_T57 j l).f2)]] (by rfl) rfl rfl gm_ ?_; refine (impl_isSnap.calls k1 ((rd_T57 j l).f0) ((rd_T57 j l).f1) ((rd_T57 j l).f2) false _ dk.out).mono ?_; rintro e gF ⟨rfl, hb⟩; refine ⟨_, rfl, ?_⟩; replace Z := rA Z hb; replace aa := rA aa hb; replace q := bA q hb; replace z := bA z hb; replace D := bA D hb; replace HB := De3 HB ac av aX hb; refine hK.out _ _ ⟨bc D 0, bc D 1, bc D 2⟩ (fun aD => nm_ ?_); clear hK K; refine pu_ 6 30 B ?_; refine of_ 7 31 B ?_; refine of_ 8 32 B ?_; refine of_ 9 33 B ?_; refine of_ 10 34 B ?_; refine of_ 11 35 B ?_; refine of_ 12 36 B ?_; refine pu_ 13 37 B ?_; refine pu_ 14 38 B ?_; refine done_ (done_of B.out gk_) ?_
     try go_wp2
     go_meet
     case rel => exact ⟨_, false, be_, aG, D10x1_⟩
    clear ak
    try clear c3
    try clear fl
    try clear dx
    try clear fm
    try clear d4
    try clear fn
    try clear d5
    try clear cu
    try clear cv
    try clear cw
    try clear cy
    try clear cz
    obtain ⟨kq, dh, rfl, aY, ci, Z, aa, q, z, D, HB⟩ := hcut
    cases kq with
    | zero => exact absurd aY.out (by simp [impl_ShedActs.j1])
    | succ dB => ?_
    replace aY := aY.out; simp only [impl_ShedActs.j1] at aY
    obtain ⟨rfl, aQ⟩ | ⟨rfl, aQ⟩ := sb aY
    ·obtain ⟨dV, aZ⟩ := ya aQ; obtain ⟨e1, cf⟩ : ∃ y_ : List (S74), y_ = (bi ++ [(⟨4, ((rd_T57 j l).f0), (⟨#[]⟩ : ByteArray), (⟨#[]⟩ : ByteArray)⟩ : S74)]) := ⟨_, rfl⟩
     (first | with_reducible replace aZ := hq cf aZ | rw [← cf] at aZ | simp only [← cf] at aZ)
     have d3 := am cf; clear cf; replace aZ := am aZ; clear aY aQ; obtain ⟨fy, fX, eB, eE⟩ := o4_ dm b2 dn b3; obtain ⟨e7, e8, e9, ff, fg, fh⟩ := cf3 D
     go_wp2_with (first | ((with_reducible refine gate_builtin (b := .append) (xs := #[.tmp 39, .tmp 43]) rfl ?_); at_builtin; refine Kd.R_append k74 (w0 := w) w.heap.size rfl (.tmp 39) (.tmp 43) 37 74 (.agg #[(.int .i64 0), (.string ⟨#[]⟩), (.string ⟨#[]⟩), (.string ⟨#[]⟩)]) 56 rfl Tryz.underlying37 info74 rfl (by decide) (by omega) u3 bi (⟨4, ((rd_T57 j l).f0), (⟨#[]⟩ : ByteArray), (⟨#[]⟩ : ByteArray)⟩ : S74) [.int .i64 4, .string ((rd_T57 j l).f0), .string (⟨#[]⟩ : ByteArray), .string (⟨#[]⟩ : ByteArray)] (fun _ => True) (fun _ => False) rfl rfl ?aP (fun _ hk => hk.elim) ?aF ?aO ?aB ?aS ?aL ?_; (case aP => exact k74_mkM _ _ _ (⟨4, ((rd_T57 j l).f0), (⟨#[]⟩ : ByteArray), (⟨#[]⟩ : ByteArray)⟩ : S74)); (case aB => exact (Ae3 HB ac av aX)); (case aF => exact (fun _ _ => trivial)); (case aO => exact (Ar Z)); (case aS => exact (below_size (Ae3 HB ac av aX))); (case aL => have := dV.out; omega); intro gn gG ho hb hg hat; rw [← d3.out] at ho; replace aa := am (Kd.R_over' (Ar aa) (Kd.R_typed (Ar Z)) (by decide) hg); replace q := bg q hg (Kd.R_ne Z.out q.out (by decide)); replace z := bg z hg (Kd.R_ne Z.out z.out (by decide)); replace HB := am hb; have dT := am ho; clear Z; clear ho hb hg hat))
     go_roundg dB
     case measure => have := b0.out; have := ci.out; omega
     case rel => exact ⟨(e1), (wrap64 (l + 1)), be_, aZ, ⟨(by have := b0.out; have := ci.out; omega)⟩, Cr dT, Cr aa, Cb q, Cb z, Ce3 HB ac av aX⟩
    replace aQ := am aQ; clear aY
    go_wp2
    go_roundg dB
    case measure => have := b0.out; have := ci.out; omega
    case rel => exact ⟨(bi), (wrap64 (l + 1)), be_, aQ, ⟨(by have := b0.out; have := ci.out; omega)⟩, Cr Z, Cr aa, Cb q, Cb z, Ce3 HB ac av aX⟩
   obtain rfl := Option.some.inj bq; clear bq be
   go_wp2
   go_ret; exact ⟨_, B32x21_, (Ar Z), (Ae2 HB ac av)⟩
 obtain rfl := Option.some.inj aR
 clear aR aN bp
 go_enter Tryz.func12, Tryz.ntmps12
 go_wp2_with (first | ((with_reducible refine gate_dst (N := 1) rfl ?_); refine bx (N := 1) (cs := #[.slice bj j.length aH]) (t := 26) ?_; intro br hg gH hbox hb; have q := am hbox; have ac := gA hg HB; replace HB := hA HB hb; clear hb hbox hg) | ((with_reducible refine gate_dst (N := 8) rfl ?_); refine lL k74 74 8 ([] : List (S74)) [] (Reps.none _ _) ?_; intro eP eS cc hb; (first | rw [← ck.out] at cc | (simp only [Int.reduceToNat] at cc; rw [← ck.out] at cc)); have a9 := am (Kd.R_lower cc (below_size (Ae1 HB ac))); replace q := bA q hb; replace HB := De1 HB ac hb; clear hb cc; have gU : eS.cell? ⟨br, 0, none⟩ = some (.slice bj j.length aH) := bc q 0; have g4 := blk_frozen q.out 0) | ((with_reducible refine gate_callee (f := 11) rfl ?_); refine goesL_ (some 11) rfl rfl Tryz.func11 gk_ rfl #[.agg #[.slice bj j.length aH]] rfl gm_ ?_; refine (impl_NewestSnap.calls k _ _ j a4 bl ao bm false _ (tc (Kd.C_below cU.out HB.out)) dl.out A2.out).mono ?_; rintro e gI ⟨eQ, rfl, al, hb⟩; refine ⟨_, rfl, ?_⟩; replace a9 := rA a9 hb; have bw := am (Kd.R_lower al (below_size (Ae1 HB ac))); replace q := bA q hb; replace HB := De1 HB ac hb) | ((with_reducible refine gate_dst (N := 4) rfl ?_); refine bx (N := 4) (cs := #[.int .i64 0, .int .i64 0, .slice none 0 0, .string (⟨#[]⟩ : ByteArray)]) (t := 29) ?_; intro bk hg gJ hbox hb; replace a9 := rA a9 hb; replace bw := rA bw hb; have z := am hbox; have av := gA hg HB; replace HB := De1 HB ac hb; have cj := nA hg q; have cY := mA hg q; replace q := bA q hb; clear hb hbox hg; have fE := cY.out; have f3 := cj.out; obtain ⟨e3, e4, e5, e6, fb, fc, fd, fe⟩ := cf4 z; obtain ⟨fi, fp, er⟩ := Kd.R_slice bw.out; subst er))
 go_ret
 exact ⟨_, B32x21_, (tfg a9.out z.out (by decide)), (Ae2 HB ac av)⟩
theorem B33x8_ (h : p := by (with_reducible repeat (first | apply Kd.R_alloc | apply Kd.R_drewN | apply Kd.R_drew)); exact (Kd.R_mono (Kd.R_mono (Kd.R_far (p := ⟨a3, 3, none⟩) (Kd.R_far (p := ⟨a3, 2, none⟩) (Kd.R_far (p := ⟨a3, 1, none⟩) (Kd.R_far (p := ⟨a3, 0, none⟩) (Kd.R_far (p := ⟨bu, 0, none⟩) (Kd.R_types (Kd.R_types ah.out M.out (by decide)) U.out (by decide)) (fun _ hk => hk.1.2) (.slice aJ au.length aU)) (fun _ hk => hk.2) (.int .i64 aI)) (fun _ hk => hk.2) (.int .i64 a5)) (fun _ hk => hk.2) (.slice a7 ap.length aV)) (fun _ hk => hk.2) (.string aW)) (fun _ h_ => h_.1)) (fun _ h_ => h_.1))) : p := h
theorem B33x26_ (h : p := by repeat (first | exact (Kd.R_reads' az.out).2.2 | (with_reducible refine Kd.C_alloc ?_ _) | (with_reducible refine Kd.C_drewN ?_ _) | (with_reducible refine Kd.C_drew ?_))) : p := h
def laws_FnSnaps.j0 : Nat → Bool → List (S57) → Int → Int → List Int → ByteArray → Option (Bool)
 | 0, _, _, _, _, _, _ => none
 | k + 1, eX, dI, dj, eZ, e0, dJ => if eX = true then (some false) else ((impl_SnapActs.f k dI dj eZ e0 dJ).bind fun cZ => ((spec_DoActs.f k dI cZ.1).bind fun da => ((impl_NewestSnap.f k da.1).bind fun db => (if cZ.2 = true then (if db.2.2.2.2 = true then (if da.2 = (cZ.1.length : Int) then (if db.1 = dj then (if db.2.2.2.1.toList = dJ.toList then ((impl_ShedActs.f k da.1).bind fun cg => (if (cg.length : Int) = 0 then ((impl_SnapName.f dj).bind fun cG => (some (cG.toList != ([] : List UInt8)))) else (some false))) else (some false)) else (some false)) else (some false)) else (some false)) else (some false)))))
def laws_FnSnaps.f (k : Nat) (l0 : List Int) : Option (Bool) := (laws_big.f l0).bind fun dD => (if dD = true then (some true) else ((spec_DrawRightSnaps.f k l0).bind fun Y => ((impl_SnapText.f k Y.2.1 Y.2.2.1 Y.2.2.2.1 Y.2.2.2.2).bind fun dw => ((impl_ReadSnap.f k dw.1).bind fun b5 => (if dw.2 = true then (if b5.2.2.2.2 = true then (if b5.1 = Y.2.1 then (if b5.2.1 = Y.2.2.1 then (if b5.2.2.2.1.toList = Y.2.2.2.2.toList then ((laws_sameInts.f k b5.2.2.1 Y.2.2.2.1).bind fun cE => (laws_FnSnaps.j0 k (!cE) Y.1 Y.2.1 Y.2.2.1 Y.2.2.2.1 Y.2.2.2.2)) else (laws_FnSnaps.j0 k true Y.1 Y.2.1 Y.2.2.1 Y.2.2.2.1 Y.2.2.2.2)) else (laws_FnSnaps.j0 k true Y.1 Y.2.1 Y.2.2.1 Y.2.2.2.1 Y.2.2.2.2)) else (laws_FnSnaps.j0 k true Y.1 Y.2.1 Y.2.2.1 Y.2.2.2.1 Y.2.2.2.2)) else (laws_FnSnaps.j0 k true Y.1 Y.2.1 Y.2.2.1 Y.2.2.2.1 Y.2.2.2.2)) else (laws_FnSnaps.j0 k true Y.1 Y.2.1 Y.2.2.1 Y.2.2.2.1 Y.2.2.2.2))))))
theorem laws_FnSnaps.calls (k : Nat) (A0 : Option Addr) (c0 : Nat) (l0 : List Int) (r : Bool) (w : World) (hr0 : Kd.C (Kd.int .u8) w A0 l0.length l0) (hc0 : l0.length ≤ c0) (h : laws_FnSnaps.f k l0 = some r) (hr_ : Aside0 (r = true)) :
  Calls Tryz.prog 3 #[.slice A0 l0.length c0] w fun e w' => e = .returned (.bool r) ∧ Below w.heap.size w w' := by
 have eG := Tryz.underlying26
 have eH := Tryz.underlying29
 have cT := am hr0
 have cS := am hc0
 clear hr0 hc0
 have HB := am (Below.refl w.heap.size w)
 have aN := h
 clear h
 unfold laws_FnSnaps.f at aN
 obtain ⟨dD, A2, bp⟩ := bsi aN
 (try dsimp only at bp)
 obtain ⟨rfl, aR⟩ | ⟨rfl, aR⟩ := sb bp
 ·obtain rfl := Option.some.inj aR; clear aR aN bp; go_enter Tryz.func3, Tryz.ntmps3
  go_wp2_with (first | ((with_reducible refine gate_callee (f := 4) rfl ?_); refine goesL_ (some 16) rfl rfl Tryz.func4 gk_ rfl #[.slice A0 l0.length c0] rfl gm_ ?_; refine (laws_big.calls _ _ l0 true _ (Ac cT) cS.out A2.out).mono ?_; rintro e w' ⟨rfl, ⟨nd, rfl⟩⟩; refine ⟨_, rfl, ?_⟩))
  go_ret; exact ⟨B32x21_, (Ae0 HB)⟩
 ·obtain ⟨⟨au, aI, a5, ap, aW⟩, A4, be⟩ := bsi aR; (try dsimp only at be); obtain ⟨⟨dd, eI⟩, A5, bq⟩ := bsi be; (try dsimp only at bq); obtain ⟨⟨cB, cC, bn, cD, eJ⟩, A6, aA⟩ := bsi bq; (try dsimp only at aA); replace aA := am aA; clear aN bp aR be bq; go_enter Tryz.func3, Tryz.ntmps3
  go_upto_region 6 with (first | ((with_reducible refine gate_callee (f := 4) rfl ?_); refine goesL_ (some 16) rfl rfl Tryz.func4 gk_ rfl #[.slice A0 l0.length c0] rfl gm_ ?_; refine (laws_big.calls _ _ l0 false _ (Ac cT) cS.out A2.out).mono ?_; rintro e w' ⟨rfl, ⟨nd, rfl⟩⟩; refine ⟨_, rfl, ?_⟩) | ((with_reducible refine gate_callee (f := 5) rfl ?_); refine goesL_ (some 19) rfl rfl Tryz.func5 gk_ rfl #[.slice A0 l0.length c0] rfl gm_ ?_; refine (spec_DrawRightSnaps.calls k _ _ l0 au aI a5 ap aW _ (Ac cT) cS.out A4.out).mono ?_; rintro e w8 ⟨gp, gq, rfl, al, eF, hb⟩; refine ⟨_, rfl, ?_⟩; have ax := am (Kd.R_lower al (below_size (Ae0 HB))); have ah := am (Kd.R_lower eF (below_size (Ae0 HB))); replace HB := hA HB hb) | ((with_reducible refine gate_dst (N := 3) rfl ?_); (try (refine gate_guard (by rfl) ?_; dsimp only)); refine bx (N := 3) (cs := #[.slice none 0 0]) (t := 26) ?_; intro bu hg w9 hbox hb; replace ax := rA ax hb; replace ah := rA ah hb; have M := am hbox; have ae := gA hg HB; replace HB := hA HB hb; clear hb hbox hg) | ((with_reducible refine gate_dst (N := 4) rfl ?_); (try (refine gate_guard (by rfl) ?_; dsimp only)); refine bx (N := 4) (cs := #[.int .i64 0, .int .i64 0, .slice none 0 0, .string (⟨#[]⟩ : ByteArray)]) (t := 29) ?_; intro a3 hg eR hbox hb; replace ax := rA ax hb; replace ah := rA ah hb; have U := am hbox; have ag := gA hg HB; replace HB := De1 HB ae hb; have bz := nA hg M; have bB := mA hg M; replace M := bA M hb; clear hb hbox hg; obtain ⟨aJ, aU, en⟩ := Kd.R_slice ax.out; subst en; have fs := bz.out; have fR := bB.out; have e2 : eR.cell? ⟨bu, 0, none⟩ = some (.slice none 0 0) := bc M 0; have fa := blk_frozen M.out 0; obtain ⟨bI, bJ, bK, bL, bM, bN, bO, bP⟩ := cf4 U; obtain ⟨a7, aV, ep⟩ := Kd.R_slice ah.out; subst ep) | ((with_reducible refine gate_callee (f := 6) rfl ?_); refine goesL_ (some 24) rfl rfl Tryz.func6 gk_ rfl #[.agg #[.int .i64 aI, .int .i64 a5, .slice a7 ap.length aV, .string aW]] rfl gm_ ?_; (with_reducible refine (impl_SnapText.calls k aI a5 _ _ ap aW dd eI _ ?z1 ?z2 A5.out).mono ?_); (case z1 => refine (Kd.R_reads' (e := 3) (base := w.heap.size) (ok := fun k_ => True) (n := ap.length) (c := aV) ?_).2.2; exact B33x8_); (case z2 => exact (Kd.R_reads' ah.out).2.1); rintro e gx ⟨rfl, hb⟩; refine ⟨_, rfl, ?_⟩; replace ax := am (Kd.R_below (by (with_reducible repeat (first | apply Kd.R_alloc | apply Kd.R_drewN | apply Kd.R_drew)); exact (Kd.R_mono (Kd.R_mono (Kd.R_far (p := ⟨a3, 3, none⟩) (Kd.R_far (p := ⟨a3, 2, none⟩) (Kd.R_far (p := ⟨a3, 1, none⟩) (Kd.R_far (p := ⟨a3, 0, none⟩) (Kd.R_far (p := ⟨bu, 0, none⟩) (Kd.R_types (Kd.R_types ax.out M.out (by decide)) U.out (by decide)) (fun _ hk => hk.1.2) (.slice aJ au.length aU)) (fun _ hk => hk.2) (.int .i64 aI)) (fun _ hk => hk.2) (.int .i64 a5)) (fun _ hk => hk.2) (.slice a7 ap.length aV)) (fun _ hk => hk.2) (.string aW)) (fun _ h_ => h_.1)) (fun _ h_ => h_.1))) hb); replace ah := am (Kd.R_below B33x8_ hb); replace M := am (blk_below (g := bu) (o := .cells #[.slice aJ au.length aU] 26 (0, 0)) (Ap1 M bz) hb); replace U := am (blk_below (g := a3) (o := .cells #[.int .i64 aI, .int .i64 a5, .slice a7 ap.length aV, .string aW] 29 (0, 0)) (Ap1 U bB) hb); replace HB := De2 HB ae ag hb) | ((with_reducible refine gate_callee (f := 7) rfl ?_); refine goesL_ (some 29) rfl rfl Tryz.func7 gk_ rfl #[.string dd] rfl gm_ ?_; refine (impl_ReadSnap.calls k dd cB cC bn cD eJ _ A6.out).mono ?_; rintro e gy ⟨gr, rfl, al, hb⟩; refine ⟨_, rfl, ?_⟩; replace ax := rA ax hb; have ba := am (Kd.R_lower (Kd.R_new' al (Kd.R_lt (Ar ah))) (below_size (Ae2 HB ae ag))); replace ah := am (Kd.R_elder' (Ar ah) (Kd.R_base al) hb); replace M := bA M hb; replace U := bA U hb; replace HB := De2 HB ae ag hb) | ((with_reducible refine gate_dst (N := 7) rfl ?_); (try (refine gate_guard (by rfl) ?_; dsimp only)); refine bx (N := 7) (cs := #[.int .i64 0, .int .i64 0, .slice none 0 0, .string (⟨#[]⟩ : ByteArray)]) (t := 29) ?_; intro dc hg cH hbox hb; replace ax := rA ax hb; replace ah := rA ah hb; replace ba := rA ba hb; have J := am hbox; have aw := gA hg HB; replace HB := De2 HB ae ag hb; have a1 := nA hg M; have bT := mA hg M; replace M := bA M hb; have a2 := nA hg U; have bU := mA hg U; replace U := bA U hb; clear hb hbox hg; have ey := bT.out; have eC := a1.out; have ez := bU.out; have eD := a2.out; obtain ⟨cJ, cK, cL, cM, cN, cO, cP, cQ⟩ := cf4 J; obtain ⟨bQ, bC, eq⟩ := Kd.R_slice ba.out; subst eq))
  (try simp only [Act.put, List.setIfInBounds_toArray, List.set_cons_zero, List.set_cons_succ])
  go_cut [66] (fun eO wc => ∃ (kq : Nat) (di : Bool), eO = .bool di ∧ Aside0 (laws_FnSnaps.j0 kq di au aI a5 ap aW = some r) ∧ Aside0 (kq ≤ k) ∧ Aside0 (Kd.R k57 57 wc w.heap.size (fun _ => True) (.slice aJ au.length aU) au) ∧ Aside0 (Kd.R (Kd.int .i64) 3 wc w.heap.size (fun k_ => some k_ ≠ ((.slice bQ bn.length bC) : Value).ownBlock) (.slice a7 ap.length aV) ap) ∧ Aside0 (Kd.R (Kd.int .i64) 3 wc w.heap.size (fun k_ => some k_ ≠ ((.slice a7 ap.length aV) : Value).ownBlock) (.slice bQ bn.length bC) bn) ∧ Hc wc bu #[(.slice aJ au.length aU)] 26 ∧ Hc wc a3 #[.int .i64 aI, .int .i64 a5, (.slice a7 ap.length aV), .string aW] 29 ∧ Hc wc dc #[.int .i64 cB, .int .i64 cC, (.slice bQ bn.length bC), .string cD] 29 ∧ Hb w wc)
  case first =>
   replace aA := aA.out
   obtain ⟨rfl, ak⟩ | ⟨rfl, ak⟩ := sb aA
   ·obtain ⟨rfl, ay⟩ | ⟨rfl, ay⟩ := sb ak
    ·obtain ⟨cn, aT⟩ | ⟨cn, aT⟩ := sp ay
     ·obtain ⟨b7, d7⟩ := yE cn; clear cn
      (first | rw [b7] | (simp only [i64_w, i32_w]; rw [b7]) | skip)
      obtain ⟨co, aG⟩ | ⟨co, aG⟩ := sp aT
      ·obtain ⟨d8, d9⟩ := yE co; clear co
       obtain ⟨cp, bd⟩ | ⟨cp, bd⟩ := sp aG
       ·obtain ⟨ea, eb⟩ := yE cp; clear cp; obtain ⟨cE, dL, aY⟩ := bsi bd; (try dsimp only at aY); replace aY := am aY; clear aA ak ay aT aG bd; obtain ⟨ft, fS, fu, fT⟩ := o4_ bT a1 bU a2; obtain ⟨cJ, cK, cL, cM, cN, cO, cP, cQ⟩ := cf4 J; obtain ⟨fv, fU⟩ := o2_ bB bz; obtain ⟨bI, bJ, bK, bL, bM, bN, bO, bP⟩ := cf4 U
        go_wp2_with (first | (go_at_call 8; (with_reducible refine (laws_sameInts.calls k _ _ bn _ _ ap cE _ ?z1 ?z2 ?z3 ?z4 dL.out).mono ?_); (case z1 => refine (Kd.R_reads' (e := 3) (base := w.heap.size) (ok := fun k_ => (True ∧ some k_ ≠ (.slice a7 ap.length aV : Value).ownBlock)) (n := bn.length) (c := bC) ?_).2.2; exact (tfg ba.out J.out (by decide))); (case z2 => exact (Kd.R_reads' ba.out).2.1); (case z3 => refine (Kd.R_reads' (e := 3) (base := w.heap.size) (ok := fun k_ => (True ∧ some k_ ≠ (.slice bQ bn.length bC : Value).ownBlock)) (n := ap.length) (c := aV) ?_).2.2; exact (tfg ah.out J.out (by decide))); (case z4 => exact (Kd.R_reads' ah.out).2.1); rintro e w' ⟨rfl, ⟨nd, rfl⟩⟩))
        go_meet
        case rel => exact ⟨_, (!cE), be_, aY, D10x0_⟩
       ·obtain ⟨ea, eb⟩ := nE cp; replace bd := am bd; clear aA ak ay aT aG; obtain ⟨fw, fV, fx, fW⟩ := o4_ bT a1 bU a2; obtain ⟨cJ, cK, cL, cM, cN, cO, cP, cQ⟩ := cf4 J; obtain ⟨eB, eE⟩ := o2_ bB bz; obtain ⟨bI, bJ, bK, bL, bM, bN, bO, bP⟩ := cf4 U
        go_wp2
        go_meet
        case rel => exact ⟨_, true, be_, bd, D10x0_⟩
      ·obtain ⟨d8, d9⟩ := nE co; replace aG := am aG; clear aA ak ay aT; obtain ⟨fz, fY, fA, fZ⟩ := o4_ bT a1 bU a2; obtain ⟨cJ, cK, cL, cM, cN, cO, cP, cQ⟩ := cf4 J; obtain ⟨fB, f0⟩ := o2_ bB bz; obtain ⟨bI, bJ, bK, bL, bM, bN, bO, bP⟩ := cf4 U
       go_wp2
       go_meet
       case rel => exact ⟨_, true, be_, aG, D10x0_⟩
     ·obtain ⟨b7, d7⟩ := nE cn
      (first | rw [b7] | (simp only [i64_w, i32_w]; rw [b7]) | skip)
      replace aT := am aT; clear aA ak ay; obtain ⟨fC, f1, fD, f2⟩ := o4_ bT a1 bU a2; obtain ⟨cJ, cK, cL, cM, cN, cO, cP, cQ⟩ := cf4 J; obtain ⟨fF, f4⟩ := o2_ bB bz; obtain ⟨bI, bJ, bK, bL, bM, bN, bO, bP⟩ := cf4 U
      go_wp2
      go_meet
      case rel => exact ⟨_, true, be_, aT, D10x0_⟩
    ·replace ay := am ay; clear aA ak
     go_wp2
     go_meet
     case rel => exact ⟨_, true, be_, ay, D10x0_⟩
   ·replace ak := am ak; clear aA
    go_wp2
    go_meet
    case rel => exact ⟨_, true, be_, ak, D10x0_⟩
  case rest =>
   clear aA
   try clear c3
   obtain ⟨kq, di, rfl, aQ, fk, az, aC, aM, M, U, J, HB⟩ := hcut
   cases kq with
   | zero => exact absurd aQ.out (by simp [laws_FnSnaps.j0])
   | succ cx => ?_
   replace aQ := aQ.out; simp only [laws_FnSnaps.j0] at aQ
   obtain ⟨rfl, aZ⟩ | ⟨rfl, aZ⟩ := sb aQ
   ·exact absurd ((Option.some.inj aZ).trans hr_.out) (by decide)
   ·obtain ⟨⟨cF, eK⟩, dM, cV⟩ := bsi aZ; (try dsimp only at cV); obtain ⟨⟨bv, dE⟩, dN, cW⟩ := bsi cV; (try dsimp only at cW); obtain ⟨⟨de, dF, dG, df, eL⟩, dO, ar⟩ := bsi cW; (try dsimp only at ar)
    by_cases cq : eK = true
    rotate_left
    ·replace cq := Bool.eq_false_iff.mpr cq; subst cq; rw [if_neg (show ¬ (false = true) by decide)] at ar; exact absurd ((Option.some.inj ar).trans hr_.out) (by decide)
    subst cq; rw [if_pos rfl] at ar
    by_cases cr : eL = true
    rotate_left
    ·replace cr := Bool.eq_false_iff.mpr cr; subst cr; rw [if_neg (show ¬ (false = true) by decide)] at ar; exact absurd ((Option.some.inj ar).trans hr_.out) (by decide)
    subst cr; rw [if_pos rfl] at ar
    by_cases b8 : dE = (cF.length : Int)
    rotate_left
    ·rw [if_neg b8] at ar; obtain ⟨ec, ed⟩ := nE b8; exact absurd ((Option.some.inj ar).trans hr_.out) (by decide)
    rw [if_pos b8] at ar; obtain ⟨ec, ed⟩ := yE b8; clear b8
    by_cases b9 : de = aI
    rotate_left
    ·rw [if_neg b9] at ar; obtain ⟨ee, ef⟩ := nE b9; exact absurd ((Option.some.inj ar).trans hr_.out) (by decide)
    rw [if_pos b9] at ar; obtain ⟨ee, ef⟩ := yE b9; clear b9
    by_cases ca : df.toList = aW.toList
    rotate_left
    ·rw [if_neg ca] at ar; obtain ⟨eg, eh⟩ := nE ca; exact absurd ((Option.some.inj ar).trans hr_.out) (by decide)
    rw [if_pos ca] at ar; obtain ⟨eg, eh⟩ := yE ca; clear ca; obtain ⟨cg, dP, bS⟩ := bsi ar; (try dsimp only at bS)
    by_cases bV : (cg.length : Int) = 0
    rotate_left
    ·rw [if_neg bV] at bS; obtain ⟨ei, ej⟩ := nE bV
     have fo : ¬ (cg = []) := fun h_ => bV (by rw [h_]; rfl)
     exact absurd ((Option.some.inj bS).trans hr_.out) (by decide)
    rw [if_pos bV] at bS; obtain ⟨ei, ej⟩ := yE bV; clear bV; obtain ⟨cG, dQ, cX⟩ := bsi bS; (try dsimp only at cX); obtain rfl := Option.some.inj cX; clear cX aQ aZ cV cW ar bS; obtain ⟨fG, f5, fH, f6⟩ := o4_ bz bB a1 bT
    have gV : wc.cell? ⟨bu, 0, none⟩ = some (.slice aJ au.length aU) := bc M 0
    have g5 := blk_frozen M.out 0; obtain ⟨fI, f7⟩ := o2_ a2 bU; obtain ⟨bI, bJ, bK, bL, bM, bN, bO, bP⟩ := cf4 U
    go_wp2_with (first | ((with_reducible refine gate_callee (f := 9) rfl ?_); refine goesL_ (some 70) rfl rfl Tryz.func9 gk_ rfl #[.agg #[.slice aJ au.length aU], .agg #[.int .i64 aI, .int .i64 a5, .slice a7 ap.length aV, .string aW]] rfl gm_ ?_; (with_reducible refine (impl_SnapActs.calls cx _ _ au aI a5 _ _ ap aW cF true _ ?z1 ?z2 ?z3 ?z4 dM.out).mono ?_); (case z1 => exact B33x26_); (case z2 => exact (Kd.R_reads' az.out).2.1); (case z3 => repeat (first | exact (Kd.R_reads' aC.out).2.2 | (with_reducible refine Kd.C_alloc ?_ _) | (with_reducible refine Kd.C_drewN ?_ _) | (with_reducible refine Kd.C_drew ?_))); (case z4 => exact (Kd.R_reads' aC.out).2.1); rintro e eT ⟨gs, rfl, al, hb⟩; refine ⟨_, rfl, ?_⟩; replace az := rA az hb; replace aC := rA aC hb; replace aM := rA aM hb; have aE := am (Kd.R_lower al (below_size (Ae3 HB ae ag aw))); replace M := bA M hb; replace U := bA U hb; replace J := bA J hb; replace HB := De3 HB ae ag aw hb; have gW : eT.cell? ⟨bu, 0, none⟩ = some (.slice aJ au.length aU) := bc M 0; have g6 := blk_frozen M.out 0; obtain ⟨dR, ek, et⟩ := Kd.R_slice aE.out; subst et) | ((with_reducible refine gate_callee (f := 10) rfl ?_); refine goesL_ (some 76) rfl rfl Tryz.func10 gk_ rfl #[.agg #[.slice aJ au.length aU], .slice dR cF.length ek] rfl gm_ ?_; (with_reducible refine (spec_DoActs.calls cx _ _ au _ _ cF bv dE _ ?z1 ?z2 ?z3 ?z4 dN.out).mono ?_); (case z1 => exact B33x26_); (case z2 => exact (Kd.R_reads' az.out).2.1); (case z3 => repeat (first | exact (Kd.R_reads' aE.out).2.2 | (with_reducible refine Kd.C_alloc ?_ _) | (with_reducible refine Kd.C_drewN ?_ _) | (with_reducible refine Kd.C_drew ?_))); (case z4 => exact (Kd.R_reads' aE.out).2.1); rintro e gN ⟨gu, rfl, al, hb⟩; refine ⟨_, rfl, ?_⟩; replace aC := rA aC hb; replace aM := rA aM hb; replace aE := rA aE hb; have aK := am (Kd.R_lower (Kd.R_new' al (Kd.R_lt (Ar az))) (below_size (Ae3 HB ae ag aw))); replace az := am (Kd.R_elder' (Ar az) (Kd.R_base al) hb); replace M := bA M hb; replace U := bA U hb; replace J := bA J hb; replace HB := De3 HB ae ag aw hb) | ((with_reducible refine gate_dst (N := 11) rfl ?_); (try (refine gate_guard (by rfl) ?_; dsimp only)); refine bx (N := 11) (cs := #[.slice none 0 0]) (t := 26) ?_; intro ct hg eU hbox hb; replace az := rA az hb; replace aC := rA aC hb; replace aM := rA aM hb; replace aE := rA aE hb; replace aK := rA aK hb; have aj := am hbox; have bR := gA hg HB; replace HB := De3 HB ae ag aw hb; have dp := nA hg M; have dW := mA hg M; replace M := bA M hb; have dr := nA hg U; have dX := mA hg U; replace U := bA U hb; have dt := nA hg J; have dY := mA hg J; replace J := bA J hb; clear hb hbox hg; obtain ⟨ch, bW, eu⟩ := Kd.R_slice aK.out; subst eu; have fJ := dW.out; have f8 := dp.out; have fK := dX.out; have f9 := dr.out; have fL := dY.out; have ga := dt.out; have gX : eU.cell? ⟨ct, 0, none⟩ = some (.slice none 0 0) := bc aj 0; have g7 := blk_frozen aj.out 0) | ((with_reducible refine gate_callee (f := 11) rfl ?_); refine goesL_ (some 81) rfl rfl Tryz.func11 gk_ rfl #[.agg #[.slice ch bv.length bW]] rfl gm_ ?_; (with_reducible refine (impl_NewestSnap.calls cx _ _ bv de dF dG df true _ ?z1 ?z2 dO.out).mono ?_); (case z1 => refine (Kd.R_reads' (e := 57) (base := w.heap.size) (ok := fun k_ => (True ∧ some k_ ≠ (.slice aJ au.length aU : Value).ownBlock)) (n := bv.length) (c := bW) ?_).2.2; exact (tfg aK.out aj.out (by decide))); (case z2 => exact (Kd.R_reads' aK.out).2.1); rintro e gO ⟨gv, rfl, al, hb⟩; refine ⟨_, rfl, ?_⟩; replace az := am (Kd.R_below (tfr az.out aj.out (by decide)) hb); replace aE := am (Kd.R_below (tfr aE.out aj.out (by decide)) hb); replace aK := am (Kd.R_below (tfr aK.out aj.out (by decide)) hb); have b1 := am (Kd.R_lower (Kd.R_new' (Kd.R_new' al (Kd.R_lt (tfr aC.out aj.out (by decide)))) (Kd.R_lt (tfr aM.out aj.out (by decide)))) (below_size (Ae4 HB ae ag aw bR))); replace aC := am (Kd.R_elder' (tfr aC.out aj.out (by decide)) (Kd.R_base al) hb); replace aM := am (Kd.R_elder' (tfr aM.out aj.out (by decide)) (Kd.R_base al) hb); replace M := am (blk_below (g := bu) (o := .cells #[.slice aJ au.length aU] 26 (0, 0)) (Ap1 M dp) hb); replace U := am (blk_below (g := a3) (o := .cells #[.int .i64 aI, .int .i64 a5, .slice a7 ap.length aV, .string aW] 29 (0, 0)) (Ap1 U dr) hb); replace J := am (blk_below (g := dc) (o := .cells #[.int .i64 cB, .int .i64 cC, .slice bQ bn.length bC, .string cD] 29 (0, 0)) (Ap1 J dt) hb); replace aj := am (blk_below (g := ct) (o := .cells #[.slice ch bv.length bW] 26 (0, 0)) (Ap0 aj) hb); replace HB := De4 HB ae ag aw bR hb) | ((with_reducible refine gate_dst (N := 13) rfl ?_); (try (refine gate_guard (by rfl) ?_; dsimp only)); refine bx (N := 13) (cs := #[.int .i64 0, .int .i64 0, .slice none 0 0, .string (⟨#[]⟩ : ByteArray)]) (t := 29) ?_; intro ex hg eV hbox hb; replace az := rA az hb; replace aC := rA aC hb; replace aM := rA aM hb; replace aE := rA aE hb; replace aK := rA aK hb; replace b1 := rA b1 hb; have a8 := am hbox; have cR := gA hg HB; replace HB := De4 HB ae ag aw bR hb; have dq := nA hg M; have dZ := mA hg M; replace M := bA M hb; have ds := nA hg U; have d0 := mA hg U; replace U := bA U hb; have du := nA hg J; have d1 := mA hg J; replace J := bA J hb; have dv := nA hg aj; have d2 := mA hg aj; replace aj := bA aj hb; clear hb hbox hg; have fM := dZ.out; have gb := dq.out; have fN := d0.out; have gg := ds.out; have fO := d1.out; have gh := du.out; have fP := d2.out; have gi := dv.out; obtain ⟨g0, g1, g2, g3, ha, he, hf, hh⟩ := cf4 a8; obtain ⟨dS, el, ev⟩ := Kd.R_slice b1.out; subst ev; obtain ⟨bI, bJ, bK, bL, bM, bN, bO, bP⟩ := cf4 U; have gZ : eV.cell? ⟨ct, 0, none⟩ = some (.slice ch bv.length bW) := bc aj 0; have g9 := blk_frozen aj.out 0) | (go_at_call 12; (with_reducible refine (impl_ShedActs.calls cx _ _ bv cg _ ?z1 ?z2 dP.out).mono ?_); (case z1 => refine (Kd.R_reads' (e := 57) (base := w.heap.size) (ok := fun k_ => (True ∧ some k_ ≠ (.slice aJ au.length aU : Value).ownBlock)) (n := bv.length) (c := bW) ?_).2.2; exact (tfg aK.out a8.out (by decide))); (case z2 => exact (Kd.R_reads' aK.out).2.1); rintro e gP ⟨gw, rfl, al, hb⟩; replace az := am (Kd.R_below (tfr az.out a8.out (by decide)) hb); replace aC := am (Kd.R_below (tfr aC.out a8.out (by decide)) hb); replace aM := am (Kd.R_below (tfr aM.out a8.out (by decide)) hb); replace aK := am (Kd.R_below (tfr aK.out a8.out (by decide)) hb); replace b1 := am (Kd.R_below (tfr b1.out a8.out (by decide)) hb); have dU := am (Kd.R_lower (Kd.R_new' al (Kd.R_lt (tfr aE.out a8.out (by decide)))) (below_size (Ae5 HB ae ag aw bR cR))); replace aE := am (Kd.R_elder' (tfr aE.out a8.out (by decide)) (Kd.R_base al) hb); replace M := am (blk_below (g := bu) (o := .cells #[.slice aJ au.length aU] 26 (0, 0)) (Ap1 M dq) hb); replace U := am (blk_below (g := a3) (o := .cells #[.int .i64 aI, .int .i64 a5, .slice a7 ap.length aV, .string aW] 29 (0, 0)) (Ap1 U ds) hb); replace J := am (blk_below (g := dc) (o := .cells #[.int .i64 cB, .int .i64 cC, .slice bQ bn.length bC, .string cD] 29 (0, 0)) (Ap1 J du) hb); replace aj := am (blk_below (g := ct) (o := .cells #[.slice ch bv.length bW] 26 (0, 0)) (Ap1 aj dv) hb); replace a8 := am (blk_below (g := ex) (o := .cells #[.int .i64 de, .int .i64 dF, .slice dS dG.length el, .string df] 29 (0, 0)) (Ap0 a8) hb); replace HB := De5 HB ae ag aw bR cR hb; obtain ⟨fj, fq, ew⟩ := Kd.R_slice dU.out; subst ew; obtain ⟨bI, bJ, bK, bL, bM, bN, bO, bP⟩ := cf4 U) | (go_at_call 13; refine (impl_SnapName.calls aI cG _ dQ.out).mono ?_; rintro e w' ⟨rfl, ⟨nd, rfl⟩⟩))
    go_ret; exact ⟨(by cases cG.toList <;> rfl), (Ae5 HB ae ag aw bR cR)⟩

/-- THE ONE PURE STATEMENT of laws_FnSnaps: yours. -/
def laws_FnSnaps.Pure : Prop := ∀ (l0 : List Int), l0.length ≤ maxLen → l0.length * 1 ≤ 140737488351232 → (∀ x ∈ l0, (Lit.int .u8 x).wf = true) → ∃ k, laws_FnSnaps.f k l0 = some true
theorem laws_FnSnaps.walk (P : laws_FnSnaps.Pure) (a0 : Option Addr) (len0 cap0 : Nat) (z0 : List Int) (w : World) (w0 : (a0 = none ∧ len0 = 0 ∧ cap0 = 0 ∧ z0 = []) ∨ ∃ x, a0 = some x ∧ len0 ≤ cap0 ∧ cap0 ≤ maxLen ∧ z0.length = cap0 ∧ (∀ i, i < z0.length → w.cell? (x.add i) = some (.int .u8 (z0.getD i 0))) ∧ ∀ n ∈ z0, (Lit.int .u8 n).wf = true) (y0 : len0 * 1 ≤ 140737488351232) :
  Calls Tryz.prog 3 #[.slice a0 len0 cap0] w fun e w' => e = .returned (.bool true) ∧ Below w.heap.size w w' := by
 obtain ⟨l0, rfl, hr0, hm0, hw0, hc0⟩ := ReadsInt.ofRowC w0
 obtain ⟨k, h⟩ := P l0 hm0 y0 hw0
 refine (laws_FnSnaps.calls k _ _ l0 true w (Kd.C_of_reads (d := (0 : Int)) (h1 := fun _ => rfl) hr0) hc0 h ⟨rfl⟩).mono ?_
 rintro e w' ⟨rfl, hd⟩
 exact ⟨rfl, hd⟩
end
end Go.Proofs.YtfikaimmclgajaaGreatDoor.QFnSnaps
