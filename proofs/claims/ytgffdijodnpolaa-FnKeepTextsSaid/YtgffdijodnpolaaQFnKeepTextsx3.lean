/- Functions that a law reaches, as functions of Lean, and the walks that show that the calls come to their answers. No condition. -/
import Derived.Test.YtgffdijodnpolaaQFnKeepTextsx0
import Derived.Test.YtgffdijodnpolaaVFnKeepTextshort3
import Derived.Test.YtgffdijodnpolaaVFnKeepTextsShort2
import Derived.Test.YtgffdijodnpolaaVFnKeepTextsShort
import Derived.Test.YtgffdijodnpolaaVFnKeepTextshort8
import Derived.Laws.Cover1
namespace Go.Proofs.Ytgffdijodnpolaa.QFnKeepTexts
open Go.RowKit Go.Proofs.YtgffdijodnpolaaW.PrintWords Go.Proofs.YtgffdijodnpolaaW.PrintLast Go.Proofs.YtgffdijodnpolaaW.PrintMore Go.Proofs.Ytgffdijodnpolaa.Short
set_option linter.unusedVariables false
set_option linter.unusedSimpArgs false
set_option maxHeartbeats 8000000
set_option maxRecDepth 100000
variable {p : Prop}
theorem D3x0_ (h : p := by exact ⟨bc q 0, bc q 1, bc q 2, ((hbc HB ad).trans ad), ((hbc HB ae).trans ae), ((hbc HB af).trans af)⟩) : p := h
theorem D3x1_ (h : p := by exact ⟨bc D 0, bc D 1, bc D 2, bc U 0, bc U 1, ((hbc HB aF).trans aF), ((hbc HB aG).trans aG), ((hbc HB aH).trans aH)⟩) : p := h
theorem D3x2_ (h : p := by exact ⟨bc q 0, bc q 1, bc q 2⟩) : p := h
theorem D3x3_ (h : p := by exact ⟨⟨B9x6_⟩, Cb q, Ce1 HB au⟩) : p := h
theorem D3x4_ (h : p := by exact ⟨⟨B9x6_⟩, Cb U, Cb D, Ce2 HB aw aK⟩) : p := h
theorem D3x5_ (h : p := by exact ⟨bc D 0, bc D 1, bc D 2⟩) : p := h
section
attribute [local go_sem] max2_int min2_int max_two min_two max_three min_three max_four min_four
theorem B9x6_ (h : p := by have := a9.out; first | omega | exact Nat.le_refl _) : p := h
theorem B9x8_ (h : p := by first | rfl | (simp [errW_none, errW_some] <;> rfl) | (simp [*, errW_none, errW_some] <;> rfl)) : p := h
theorem B9x9_ (h : p := by injection bq) : p := h
mutual
def spec_l15Sessions.l0 : Nat → List (S83) → Int → Option (Bool)
 | 0, _, _ => none
 | k + 1, x0, Z => if Z < (x0.length : Int) then (if 0 ≤ Z then ((spec_l01In.f ((rd_T83 x0 Z).f0) 1 1000000).bind fun cl => (if cl = true then (if Z > 0 then (if 0 ≤ (wrap64 (Z - 1)) then (if (wrap64 (Z - 1)) < (x0.length : Int) then (if ((rd_T83 x0 (wrap64 (Z - 1))).f0) ≥ ((rd_T83 x0 Z).f0) then (spec_l15Sessions.j1 k x0 Z true) else ((spec_l01In.f ((rd_T83 x0 Z).f1) 0 1000000).bind fun cm => (if cm = true then (if (((rd_T83 x0 Z).f2).size : Int) > 40 then (spec_l15Sessions.j1 k x0 Z true) else (if ((rd_T83 x0 Z).f1) = 0 then (spec_l15Sessions.j1 k x0 Z (((rd_T83 x0 Z).f2).toList != ([] : List UInt8))) else (spec_l15Sessions.j1 k x0 Z false))) else (spec_l15Sessions.j1 k x0 Z true)))) else (none)) else (none)) else ((spec_l01In.f ((rd_T83 x0 Z).f1) 0 1000000).bind fun cn => (if cn = true then (if (((rd_T83 x0 Z).f2).size : Int) > 40 then (spec_l15Sessions.j1 k x0 Z true) else (if ((rd_T83 x0 Z).f1) = 0 then (spec_l15Sessions.j1 k x0 Z (((rd_T83 x0 Z).f2).toList != ([] : List UInt8))) else (spec_l15Sessions.j1 k x0 Z false))) else (spec_l15Sessions.j1 k x0 Z true)))) else (spec_l15Sessions.j1 k x0 Z true))) else (none)) else (some (decide ((x0.length : Int) ≤ 3)))
def spec_l15Sessions.j1 : Nat → List (S83) → Int → Bool → Option (Bool)
 | 0, _, _, _ => none
 | k + 1, x0, Z, cS => if cS = true then (some false) else (spec_l15Sessions.l0 k x0 (wrap64 (Z + 1)))
end
def spec_l15Sessions.f (k : Nat) (l0 : List (S83)) : Option (Bool) := spec_l15Sessions.l0 k l0 0
def spec_l15Sessions.T5 : Bool × List (List Nat × List Nat) := (true, [([], []), ([0], [0]), ([1], [1]), ([2], [2]), ([3, 2], [3]), ([4], [4]), ([5, 4], [4, 5]), ([6, 4, 4], [4, 6]), ([7], [7]), ([7], [7]), ([9, 7], [7, 9]), ([8, 10, 7], [7, 8, 10]), ([11, 7], [7, 11]), ([12, 7], [7, 12]), ([7], [7]), ([14, 7], [7, 14]), ([13, 15, 7], [7, 13, 15]), ([7, 16, 4], [4, 7, 16]), ([4, 17], [4, 17]), ([18, 7], [18]), ([19], [19]), ([20, 19], [19, 20]), ([21, 19, 19], [19, 21]), ([22, 19], [19, 22]), ([19, 23], [19, 23]), ([24, 22], [24]), ([25], [25]), ([26, 25], [25, 26]), ([27, 25], [25, 27]), ([28, 25], [25, 28]), ([25, 29], [25, 29]), ([30, 25], [30]), ([31], [31]), ([32, 31], [31, 32]), ([33, 31], [31, 33]), ([34, 31, 31], [31, 34]), ([35], [35]), ([36, 35], [35, 36]), ([37, 35], [35, 37]), ([35, 38, 31], [31, 35, 38]), ([31, 39], [31, 39])])
def spec_l15Sessions.B5 : List Nat := [0, 1, 3, 7, 15, 31, 63, 127, 255, 255, 767, 2047, 4095, 8191, 255, 16639, 65535, 131071, 262143, 524287, 1048575, 2097151, 4194303, 8388607, 16777215, 33554431, 67108863, 134217727, 268435455, 536870911, 1073741823, 2147483647, 4294967295, 8589934591, 17179869183, 34359738367, 68719476735, 137438953471, 274877906943, 549755813887, 1099511627775]
theorem spec_l15Sessions.tab5 : rtab .any (opsOf Try.f70 5) = spec_l15Sessions.T5 := by kernel_rfl
theorem spec_l15Sessions.bits5 : waitsOk spec_l15Sessions.T5.2 spec_l15Sessions.B5 = true := by kernel_rfl
theorem spec_l15Sessions.calls (k : Nat) (A0 : Option Addr) (c0 : Nat) (l0 : List (S83)) (r : Bool) (w : World) (ci : Kd.C k83 w A0 l0.length l0) (cf : l0.length ≤ c0) (h : spec_l15Sessions.f k l0 = some r) :
  Calls Try.prog 70 #[.slice A0 l0.length c0] w fun e w' => e = .returned (.bool r) ∧ Below w.heap.size w w' := by
 have df := Try.underlying83
 have ba := am ci
 have cT := am cf
 clear ci cf
 have HB := am (Below.refl w.heap.size w)
 have aW := h
 clear h
 unfold spec_l15Sessions.f at aW
 replace aW := am aW
 go_enter Try.func70, Try.ntmps70
 go_wp2
 go_loopg [3] k (fun kq v3 w' => ∃ (l : Int), v3 = .int .i64 l ∧ Aside0 (spec_l15Sessions.l0 kq l0 l = some r) ∧ Aside0 (kq ≤ k) ∧ Aside0 (Below w.heap.size w w'))
 case atStart => exact ⟨(0), be_, aW, ⟨Nat.le_refl _⟩, Ce0 HB⟩
 case round =>
  clear aW; obtain ⟨l, rfl, aE, a9, HB⟩ := hrel
  cases gk with
  | zero => exact absurd aE.out (by simp [spec_l15Sessions.l0])
  | succ k1 => ?_
  replace aE := aE.out; simp only [spec_l15Sessions.l0] at aE
  obtain ⟨cD, aV⟩ | ⟨cD, aV⟩ := sd aE
  ·obtain ⟨ce, ah⟩ := yd aV; replace ah := am ah; clear aE aV
   have bU : 0 ≤ (l : Int) := dga
   have bW : l < (l0.length : Int) := dga
   obtain ⟨ag, cI, bO, bP, bQ⟩ := at_T83 ba.out l bU bW; cases cI; replace bO := (hbc HB bO).trans bO; replace bP := (hbc HB bP).trans bP; replace bQ := (hbc HB bQ).trans bQ; replace bU := eq_true bU; replace bW := eq_true bW
   go_upto_region 5 with (first | ((with_reducible refine gate_dst (N := 4) rfl ?_); (try (refine gate_guard (by rfl) ?_; dsimp only)); refine bx (N := 4) (cs := #[.int .i64 0, .int .i64 0, .string (⟨#[]⟩ : ByteArray)]) (t := 83) ?_; intro M hg w5 hbox hb; have q := am hbox; have au := gA hg HB; replace HB := hA HB hb; clear hb hbox hg; obtain ⟨dp, dq, dr, dv, dw, dx⟩ := cf3 q))
   (try simp only [Act.put, List.setIfInBounds_toArray, List.set_cons_zero, List.set_cons_succ])
   go_cut [55] (fun cN wc => ∃ (kq : Nat) (b3 : Bool), cN = .bool b3 ∧ Aside0 (spec_l15Sessions.j1 kq l0 l b3 = some r) ∧ Aside0 (kq ≤ k1) ∧ Hc wc M #[.int .i64 ((rd_T83 l0 l).f0), .int .i64 ((rd_T83 l0 l).f1), .string ((rd_T83 l0 l).f2)] 83 ∧ Hb w wc)
   case first =>
    replace ah := ah.out; obtain ⟨cl, A7, av⟩ := bsi ah; (try dsimp only at av)
    obtain ⟨rfl, ao⟩ | ⟨rfl, ao⟩ := sb av
    ·obtain ⟨c9, ap⟩ | ⟨c9, ap⟩ := sp ao
     ·have bp : decide (0 < l) = true := decide_eq_true c9
      clear c9
      (first | rw [bp] | (simp only [i64_w, i32_w]; rw [bp]) | skip)
      obtain ⟨Y, bD⟩ : ∃ j_ : Int, (wrap64 (l - 1)) = j_ := ⟨_, rfl⟩
      (first | rw [bD] at ap | simp only [bD] at ap)
      (try rw [bD] at A7)
      have cZ : (IntKind.i64.wrap (l - 1)) = Y := (i64_w _).trans bD
      obtain ⟨cV, aX⟩ := yd ap; obtain ⟨be, aY⟩ := yd aX
      obtain ⟨bj, aA⟩ | ⟨bj, aA⟩ := sp aY
      ·have ct : decide (((rd_T83 l0 l).f0) ≤ ((rd_T83 l0 (Y)).f0)) = true := decide_eq_true bj
       clear bj; replace aA := am aA; clear ah av ao ap aX aY
       try go_wp2
       generalize hw : (((w5.setCell ⟨M, 0, none⟩ (.int .i64 ((rd_T83 l0 l).f0))).setCell ⟨M, 1, none⟩ (.int .i64 ((rd_T83 l0 l).f1))).setCell ⟨M, 2, none⟩ (.string ((rd_T83 l0 l).f2))) = bY; replace hw := hw.symm
       replace q : Hc bY M #[.int .i64 ((rd_T83 l0 l).f0), .int .i64 ((rd_T83 l0 l).f1), .string ((rd_T83 l0 l).f2)] 83 := ⟨wAp0 q⟩
       replace HB : Hb w bY := ⟨wAe1 HB au⟩
       clear hw; replace q := dA q; replace HB := bdr HB
       have ax : 0 ≤ ((Y) : Int) := dga
       have ay : (Y) < (l0.length : Int) := dga
       obtain ⟨a1, bq, ai, aj, ak⟩ := at_T83 ba.out (Y) ax ay; have af := ak; have ae := aj; have ad := ai; obtain rfl : ag = a1 := B9x9_; replace ai := (hbc HB ai).trans ai; replace aj := (hbc HB aj).trans aj; replace ak := (hbc HB ak).trans ak; replace ax := eq_true ax; replace ay := eq_true ay; refine st_ 41 (fun w' => w'.cell? ⟨M, 0, none⟩ = some (.int .i64 ((rd_T83 l0 l).f0)) ∧ w'.cell? ⟨M, 1, none⟩ = some (.int .i64 ((rd_T83 l0 l).f1)) ∧ w'.cell? ⟨M, 2, none⟩ = some (.string ((rd_T83 l0 l).f2)) ∧ w'.cell? (ag.add (((Y)).toNat * 3)) = some (.int .i64 ((rd_T83 l0 (Y)).f0)) ∧ w'.cell? ⟨(ag.add (((Y)).toNat * 3)).block, (ag.add (((Y)).toNat * 3)).off + 1, none⟩ = some (.int .i64 ((rd_T83 l0 (Y)).f1)) ∧ w'.cell? ⟨(ag.add (((Y)).toNat * 3)).block, (ag.add (((Y)).toNat * 3)).off + 2, none⟩ = some (.string ((rd_T83 l0 (Y)).f2))) [] spec_l15Sessions.tab5 spec_l15Sessions.bits5 D3x0_ (fun z j J => ?_); generalize bY.drew = dh at q HB ai aj ak z ⊢; refine pu_ 0 15 j ?_; refine ta_ 1 16 j J z ?_; refine on_ 2 (some 17) j (fun K hK => ?_); refine gT Try.func47 (spec_l01In.calls ((rd_T83 l0 l).f0) 1 1000000 true _ A7.out) ?_; rintro w' ⟨nd, rfl⟩; refine hK.out _ _ D3x0_ (fun z => nm_ ?_); clear hK K; refine pu_ 3 18 j ?_; refine pu_ 4 19 j ?_; refine pu_ 5 20 j ?_; refine pu_ 6 21 j ?_; refine pu_ 7 22 j ?_; refine pu_ 8 23 j ?_; refine pu_ 9 24 j ?_; refine pu_ 10 25 j ?_; refine pu_ 11 26 j ?_; refine pu_ 12 27 j ?_; refine pu_ 14 29 j ?_; refine ta_ 13 28 j J z ?_; refine ta_ 15 30 j J z ?_; refine pu_ 16 31 j ?_; refine pu_ 17 32 j ?_; refine pu_ 18 33 j ?_; refine pu_ 19 34 j ?_; refine of_ 20 35 j ?_; refine of_ 21 36 j ?_; refine of_ 22 37 j ?_; refine of_ 23 38 j ?_; refine pu_ 24 39 j ?_; refine pu_ 25 40 j ?_; refine of_ 26 41 j ?_; refine of_ 27 42 j ?_; refine of_ 28 43 j ?_; refine of_ 29 44 j ?_; refine pu_ 30 45 j ?_; refine pu_ 31 46 j ?_; refine of_ 32 47 j ?_; refine of_ 33 48 j ?_; refine of_ 34 49 j ?_; refine of_ 35 50 j ?_; refine of_ 36 51 j ?_; refine of_ 37 52 j ?_; refine of_ 38 53 j ?_; refine of_ 39 54 j ?_; refine pu_ 40 55 j ?_; refine done_ (done_of j.out gk_) ?_
       try go_wp2
       go_meet
       case rel => exact ⟨_, true, be_, aA, D3x3_⟩
      have ct : decide (((rd_T83 l0 l).f0) ≤ ((rd_T83 l0 (Y)).f0)) = false := decide_eq_false bj
      clear bj; obtain ⟨cm, bw, aQ⟩ := bsi aA; (try dsimp only at aQ)
      obtain ⟨rfl, aR⟩ | ⟨rfl, aR⟩ := sb aQ
      ·obtain ⟨bm, aL⟩ | ⟨bm, aL⟩ := sp aR
       ·have cx : decide (40 < (((rd_T83 l0 l).f2).size : Int)) = true := decide_eq_true bm
        have cy : decide (40 < ((rd_T83 l0 l).f2).size) = true := decide_eq_true (by omega)
        clear bm; replace aL := am aL; clear ah av ao ap aX aY aA aQ aR
        try go_wp2
        generalize hw : (((w5.setCell ⟨M, 0, none⟩ (.int .i64 ((rd_T83 l0 l).f0))).setCell ⟨M, 1, none⟩ (.int .i64 ((rd_T83 l0 l).f1))).setCell ⟨M, 2, none⟩ (.string ((rd_T83 l0 l).f2))) = bI; replace hw := hw.symm
        replace q : Hc bI M #[.int .i64 ((rd_T83 l0 l).f0), .int .i64 ((rd_T83 l0 l).f1), .string ((rd_T83 l0 l).f2)] 83 := ⟨wAp0 q⟩
        replace HB : Hb w bI := ⟨wAe1 HB au⟩
        clear hw; replace q := dA q; replace HB := bdr HB
        have ax : 0 ≤ ((Y) : Int) := dga
        have ay : (Y) < (l0.length : Int) := dga
        obtain ⟨a1, bq, ai, aj, ak⟩ := at_T83 ba.out (Y) ax ay; have af := ak; have ae := aj; have ad := ai; obtain rfl : ag = a1 := B9x9_; replace ai := (hbc HB ai).trans ai; replace aj := (hbc HB aj).trans aj; replace ak := (hbc HB ak).trans ak; replace ax := eq_true ax; replace ay := eq_true ay; refine st_ 41 (fun w' => w'.cell? ⟨M, 0, none⟩ = some (.int .i64 ((rd_T83 l0 l).f0)) ∧ w'.cell? ⟨M, 1, none⟩ = some (.int .i64 ((rd_T83 l0 l).f1)) ∧ w'.cell? ⟨M, 2, none⟩ = some (.string ((rd_T83 l0 l).f2)) ∧ w'.cell? (ag.add (((Y)).toNat * 3)) = some (.int .i64 ((rd_T83 l0 (Y)).f0)) ∧ w'.cell? ⟨(ag.add (((Y)).toNat * 3)).block, (ag.add (((Y)).toNat * 3)).off + 1, none⟩ = some (.int .i64 ((rd_T83 l0 (Y)).f1)) ∧ w'.cell? ⟨(ag.add (((Y)).toNat * 3)).block, (ag.add (((Y)).toNat * 3)).off + 2, none⟩ = some (.string ((rd_T83 l0 (Y)).f2))) [] spec_l15Sessions.tab5 spec_l15Sessions.bits5 D3x0_ (fun z j J => ?_); generalize bI.drew = di at q HB ai aj ak z ⊢; refine pu_ 0 15 j ?_; refine ta_ 1 16 j J z ?_; refine on_ 2 (some 17) j (fun K hK => ?_); refine gT Try.func47 (spec_l01In.calls ((rd_T83 l0 l).f0) 1 1000000 true _ A7.out) ?_; rintro w' ⟨nd, rfl⟩; refine hK.out _ _ D3x0_ (fun z => nm_ ?_); clear hK K; refine pu_ 3 18 j ?_; refine pu_ 4 19 j ?_; refine pu_ 5 20 j ?_; refine pu_ 6 21 j ?_; refine pu_ 7 22 j ?_; refine pu_ 8 23 j ?_; refine pu_ 9 24 j ?_; refine pu_ 10 25 j ?_; refine pu_ 11 26 j ?_; refine pu_ 12 27 j ?_; refine pu_ 14 29 j ?_; refine ta_ 13 28 j J z ?_; refine ta_ 15 30 j J z ?_; refine pu_ 16 31 j ?_; refine pu_ 17 32 j ?_; refine pu_ 18 33 j ?_; refine pu_ 19 34 j ?_; refine pu_ 20 35 j ?_; refine ta_ 21 36 j J z ?_; refine on_ 22 (some 37) j (fun K hK => ?_); refine gT Try.func47 (spec_l01In.calls ((rd_T83 l0 l).f1) 0 1000000 true _ bw.out) ?_; rintro w' ⟨nd, rfl⟩; refine hK.out _ _ D3x0_ (fun z => nm_ ?_); clear hK K; refine pu_ 23 38 j ?_; refine pu_ 24 39 j ?_; refine pu_ 25 40 j ?_; refine pu_ 26 41 j ?_; refine ta_ 27 42 j J z ?_; refine pu_ 28 43 j ?_; refine pu_ 29 44 j ?_; refine pu_ 30 45 j ?_; refine pu_ 31 46 j ?_; refine of_ 32 47 j ?_; refine of_ 33 48 j ?_; refine of_ 34 49 j ?_; refine of_ 35 50 j ?_; refine of_ 36 51 j ?_; refine of_ 37 52 j ?_; refine of_ 38 53 j ?_; refine of_ 39 54 j ?_; refine pu_ 40 55 j ?_; refine done_ (done_of j.out gk_) ?_
        try go_wp2
        go_meet
        case rel => exact ⟨_, true, be_, aL, D3x3_⟩
       have cx : decide (40 < (((rd_T83 l0 l).f2).size : Int)) = false := decide_eq_false bm
       have cy : decide (40 < ((rd_T83 l0 l).f2).size) = false := decide_eq_false (by omega)
       clear bm
       obtain ⟨bB, aT⟩ | ⟨bB, aT⟩ := sp aL
       ·obtain ⟨cz, cA⟩ := yE bB; clear bB; replace aT := am aT; clear ah av ao ap aX aY aA aQ aR aL
        try go_wp2
        generalize hw : (((w5.setCell ⟨M, 0, none⟩ (.int .i64 ((rd_T83 l0 l).f0))).setCell ⟨M, 1, none⟩ (.int .i64 ((rd_T83 l0 l).f1))).setCell ⟨M, 2, none⟩ (.string ((rd_T83 l0 l).f2))) = bK; replace hw := hw.symm
        replace q : Hc bK M #[.int .i64 ((rd_T83 l0 l).f0), .int .i64 ((rd_T83 l0 l).f1), .string ((rd_T83 l0 l).f2)] 83 := ⟨wAp0 q⟩
        replace HB : Hb w bK := ⟨wAe1 HB au⟩
        clear hw; replace q := dA q; replace HB := bdr HB
        have ax : 0 ≤ ((Y) : Int) := dga
        have ay : (Y) < (l0.length : Int) := dga
        obtain ⟨a1, bq, ai, aj, ak⟩ := at_T83 ba.out (Y) ax ay; have af := ak; have ae := aj; have ad := ai; obtain rfl : ag = a1 := B9x9_; replace ai := (hbc HB ai).trans ai; replace aj := (hbc HB aj).trans aj; replace ak := (hbc HB ak).trans ak; replace ax := eq_true ax; replace ay := eq_true ay; refine st_ 41 (fun w' => w'.cell? ⟨M, 0, none⟩ = some (.int .i64 ((rd_T83 l0 l).f0)) ∧ w'.cell? ⟨M, 1, none⟩ = some (.int .i64 ((rd_T83 l0 l).f1)) ∧ w'.cell? ⟨M, 2, none⟩ = some (.string ((rd_T83 l0 l).f2)) ∧ w'.cell? (ag.add (((Y)).toNat * 3)) = some (.int .i64 ((rd_T83 l0 (Y)).f0)) ∧ w'.cell? ⟨(ag.add (((Y)).toNat * 3)).block, (ag.add (((Y)).toNat * 3)).off + 1, none⟩ = some (.int .i64 ((rd_T83 l0 (Y)).f1)) ∧ w'.cell? ⟨(ag.add (((Y)).toNat * 3)).block, (ag.add (((Y)).toNat * 3)).off + 2, none⟩ = some (.string ((rd_T83 l0 (Y)).f2))) [] spec_l15Sessions.tab5 spec_l15Sessions.bits5 D3x0_ (fun z j J => ?_); generalize bK.drew = bu at q HB ai aj ak z ⊢; refine pu_ 0 15 j ?_; refine ta_ 1 16 j J z ?_; refine on_ 2 (some 17) j (fun K hK => ?_); refine gT Try.func47 (spec_l01In.calls ((rd_T83 l0 l).f0) 1 1000000 true _ A7.out) ?_; rintro w' ⟨nd, rfl⟩; refine hK.out _ _ D3x0_ (fun z => nm_ ?_); clear hK K; refine pu_ 3 18 j ?_; refine pu_ 4 19 j ?_; refine pu_ 5 20 j ?_; refine pu_ 6 21 j ?_; refine pu_ 7 22 j ?_; refine pu_ 8 23 j ?_; refine pu_ 9 24 j ?_; refine pu_ 10 25 j ?_; refine pu_ 11 26 j ?_; refine pu_ 12 27 j ?_; refine pu_ 14 29 j ?_; refine ta_ 13 28 j J z ?_; refine ta_ 15 30 j J z ?_; refine pu_ 16 31 j ?_; refine pu_ 17 32 j ?_; refine pu_ 18 33 j ?_; refine pu_ 19 34 j ?_; refine pu_ 20 35 j ?_; refine ta_ 21 36 j J z ?_; refine on_ 22 (some 37) j (fun K hK => ?_); refine gT Try.func47 (spec_l01In.calls ((rd_T83 l0 l).f1) 0 1000000 true _ bw.out) ?_; rintro w' ⟨nd, rfl⟩; refine hK.out _ _ D3x0_ (fun z => nm_ ?_); clear hK K; refine pu_ 23 38 j ?_; refine pu_ 24 39 j ?_; refine pu_ 25 40 j ?_; refine pu_ 26 41 j ?_; refine ta_ 27 42 j J z ?_; refine pu_ 28 43 j ?_; refine pu_ 29 44 j ?_; refine pu_ 30 45 j ?_; refine pu_ 31 46 j ?_; refine pu_ 32 47 j ?_; refine ta_ 33 48 j J z ?_; refine pu_ 34 49 j ?_; refine pu_ 35 50 j ?_; refine pu_ 36 51 j ?_; refine ta_ 37 52 j J z ?_; refine pu_ 38 53 j ?_; refine pu_ 39 54 j ?_; refine pu_ 40 55 j ?_; refine done_ (done_of j.out gk_) ?_
        try go_wp2
        go_meet
        case rel => exact ⟨_, ((((rd_T83 l0 l).f2).toList != ([] : List UInt8))), be_, aT, D3x3_⟩
       obtain ⟨cz, cA⟩ := nE bB; replace aT := am aT; clear ah av ao ap aX aY aA aQ aR aL
       try go_wp2
       generalize hw : (((w5.setCell ⟨M, 0, none⟩ (.int .i64 ((rd_T83 l0 l).f0))).setCell ⟨M, 1, none⟩ (.int .i64 ((rd_T83 l0 l).f1))).setCell ⟨M, 2, none⟩ (.string ((rd_T83 l0 l).f2))) = bL; replace hw := hw.symm
       replace q : Hc bL M #[.int .i64 ((rd_T83 l0 l).f0), .int .i64 ((rd_T83 l0 l).f1), .string ((rd_T83 l0 l).f2)] 83 := ⟨wAp0 q⟩
       replace HB : Hb w bL := ⟨wAe1 HB au⟩
       clear hw; replace q := dA q; replace HB := bdr HB
       have ax : 0 ≤ ((Y) : Int) := dga
       have ay : (Y) < (l0.length : Int) := dga
       obtain ⟨a1, bq, ai, aj, ak⟩ := at_T83 ba.out (Y) ax ay; have af := ak; have ae := aj; have ad := ai; obtain rfl : ag = a1 := B9x9_; replace ai := (hbc HB ai).trans ai; replace aj := (hbc HB aj).trans aj; replace ak := (hbc HB ak).trans ak; replace ax := eq_true ax; replace ay := eq_true ay; refine st_ 41 (fun w' => w'.cell? ⟨M, 0, none⟩ = some (.int .i64 ((rd_T83 l0 l).f0)) ∧ w'.cell? ⟨M, 1, none⟩ = some (.int .i64 ((rd_T83 l0 l).f1)) ∧ w'.cell? ⟨M, 2, none⟩ = some (.string ((rd_T83 l0 l).f2)) ∧ w'.cell? (ag.add (((Y)).toNat * 3)) = some (.int .i64 ((rd_T83 l0 (Y)).f0)) ∧ w'.cell? ⟨(ag.add (((Y)).toNat * 3)).block, (ag.add (((Y)).toNat * 3)).off + 1, none⟩ = some (.int .i64 ((rd_T83 l0 (Y)).f1)) ∧ w'.cell? ⟨(ag.add (((Y)).toNat * 3)).block, (ag.add (((Y)).toNat * 3)).off + 2, none⟩ = some (.string ((rd_T83 l0 (Y)).f2))) [] spec_l15Sessions.tab5 spec_l15Sessions.bits5 D3x0_ (fun z j J => ?_); generalize bL.drew = dj at q HB ai aj ak z ⊢; refine pu_ 0 15 j ?_; refine ta_ 1 16 j J z ?_; refine on_ 2 (some 17) j (fun K hK => ?_); refine gT Try.func47 (spec_l01In.calls ((rd_T83 l0 l).f0) 1 1000000 true _ A7.out) ?_; rintro w' ⟨nd, rfl⟩; refine hK.out _ _ D3x0_ (fun z => nm_ ?_); clear hK K; refine pu_ 3 18 j ?_; refine pu_ 4 19 j ?_; refine pu_ 5 20 j ?_; refine pu_ 6 21 j ?_; refine pu_ 7 22 j ?_; refine pu_ 8 23 j ?_; refine pu_ 9 24 j ?_; refine pu_ 10 25 j ?_; refine pu_ 11 26 j ?_; refine pu_ 12 27 j ?_; refine pu_ 14 29 j ?_; refine ta_ 13 28 j J z ?_; refine ta_ 15 30 j J z ?_; refine pu_ 16 31 j ?_; refine pu_ 17 32 j ?_; refine pu_ 18 33 j ?_; refine pu_ 19 34 j ?_; refine pu_ 20 35 j ?_; refine ta_ 21 36 j J z ?_; refine on_ 22 (some 37) j (fun K hK => ?_); refine gT Try.func47 (spec_l01In.calls ((rd_T83 l0 l).f1) 0 1000000 true _ bw.out) ?_; rintro w' ⟨nd, rfl⟩; refine hK.out _ _ D3x0_ (fun z => nm_ ?_); clear hK K; refine pu_ 23 38 j ?_; refine pu_ 24 39 j ?_; refine pu_ 25 40 j ?_; refine pu_ 26 41 j ?_; refine ta_ 27 42 j J z ?_; refine pu_ 28 43 j ?_; refine pu_ 29 44 j ?_; refine pu_ 30 45 j ?_; refine pu_ 31 46 j ?_; refine pu_ 32 47 j ?_; refine ta_ 33 48 j J z ?_; refine pu_ 34 49 j ?_; refine pu_ 35 50 j ?_; refine of_ 36 51 j ?_; refine of_ 37 52 j ?_; refine of_ 38 53 j ?_; refine pu_ 39 54 j ?_; refine pu_ 40 55 j ?_; refine done_ (done_of j.out gk_) ?_
       try go_wp2
       go_meet
       case rel => exact ⟨_, false, be_, aT, D3x3_⟩
      replace aR := am aR; clear ah av ao ap aX aY aA aQ
      try go_wp2
      generalize hw : (((w5.setCell ⟨M, 0, none⟩ (.int .i64 ((rd_T83 l0 l).f0))).setCell ⟨M, 1, none⟩ (.int .i64 ((rd_T83 l0 l).f1))).setCell ⟨M, 2, none⟩ (.string ((rd_T83 l0 l).f2))) = a3; replace hw := hw.symm
      replace q : Hc a3 M #[.int .i64 ((rd_T83 l0 l).f0), .int .i64 ((rd_T83 l0 l).f1), .string ((rd_T83 l0 l).f2)] 83 := ⟨wAp0 q⟩
      replace HB : Hb w a3 := ⟨wAe1 HB au⟩
      clear hw; replace q := dA q; replace HB := bdr HB
      have ax : 0 ≤ ((Y) : Int) := dga
      have ay : (Y) < (l0.length : Int) := dga
      obtain ⟨a1, bq, ai, aj, ak⟩ := at_T83 ba.out (Y) ax ay; have af := ak; have ae := aj; have ad := ai; obtain rfl : ag = a1 := B9x9_; replace ai := (hbc HB ai).trans ai; replace aj := (hbc HB aj).trans aj; replace ak := (hbc HB ak).trans ak; replace ax := eq_true ax; replace ay := eq_true ay; refine st_ 41 (fun w' => w'.cell? ⟨M, 0, none⟩ = some (.int .i64 ((rd_T83 l0 l).f0)) ∧ w'.cell? ⟨M, 1, none⟩ = some (.int .i64 ((rd_T83 l0 l).f1)) ∧ w'.cell? ⟨M, 2, none⟩ = some (.string ((rd_T83 l0 l).f2)) ∧ w'.cell? (ag.add (((Y)).toNat * 3)) = some (.int .i64 ((rd_T83 l0 (Y)).f0)) ∧ w'.cell? ⟨(ag.add (((Y)).toNat * 3)).block, (ag.add (((Y)).toNat * 3)).off + 1, none⟩ = some (.int .i64 ((rd_T83 l0 (Y)).f1)) ∧ w'.cell? ⟨(ag.add (((Y)).toNat * 3)).block, (ag.add (((Y)).toNat * 3)).off + 2, none⟩ = some (.string ((rd_T83 l0 (Y)).f2))) [] spec_l15Sessions.tab5 spec_l15Sessions.bits5 D3x0_ (fun z j J => ?_); generalize a3.drew = cO at q HB ai aj ak z ⊢; refine pu_ 0 15 j ?_; refine ta_ 1 16 j J z ?_; refine on_ 2 (some 17) j (fun K hK => ?_); refine gT Try.func47 (spec_l01In.calls ((rd_T83 l0 l).f0) 1 1000000 true _ A7.out) ?_; rintro w' ⟨nd, rfl⟩; refine hK.out _ _ D3x0_ (fun z => nm_ ?_); clear hK K; refine pu_ 3 18 j ?_; refine pu_ 4 19 j ?_; refine pu_ 5 20 j ?_; refine pu_ 6 21 j ?_; refine pu_ 7 22 j ?_; refine pu_ 8 23 j ?_; refine pu_ 9 24 j ?_; refine pu_ 10 25 j ?_; refine pu_ 11 26 j ?_; refine pu_ 12 27 j ?_; refine pu_ 14 29 j ?_; refine ta_ 13 28 j J z ?_; refine ta_ 15 30 j J z ?_; refine pu_ 16 31 j ?_; refine pu_ 17 32 j ?_; refine pu_ 18 33 j ?_; refine pu_ 19 34 j ?_; refine pu_ 20 35 j ?_; refine ta_ 21 36 j J z ?_; refine on_ 22 (some 37) j (fun K hK => ?_); refine gT Try.func47 (spec_l01In.calls ((rd_T83 l0 l).f1) 0 1000000 false _ bw.out) ?_; rintro w' ⟨nd, rfl⟩; refine hK.out _ _ D3x0_ (fun z => nm_ ?_); clear hK K; refine pu_ 23 38 j ?_; refine pu_ 24 39 j ?_; refine pu_ 25 40 j ?_; refine of_ 26 41 j ?_; refine of_ 27 42 j ?_; refine of_ 28 43 j ?_; refine of_ 29 44 j ?_; refine pu_ 30 45 j ?_; refine pu_ 31 46 j ?_; refine of_ 32 47 j ?_; refine of_ 33 48 j ?_; refine of_ 34 49 j ?_; refine of_ 35 50 j ?_; refine of_ 36 51 j ?_; refine of_ 37 52 j ?_; refine of_ 38 53 j ?_; refine of_ 39 54 j ?_; refine pu_ 40 55 j ?_; refine done_ (done_of j.out gk_) ?_
      try go_wp2
      go_meet
      case rel => exact ⟨_, true, be_, aR, D3x3_⟩
     have bp : decide (0 < l) = false := decide_eq_false c9
     clear c9
     (first | rw [bp] | (simp only [i64_w, i32_w]; rw [bp]) | skip)
     obtain ⟨cn, a8, aM⟩ := bsi ap; (try dsimp only at aM)
     obtain ⟨rfl, aI⟩ | ⟨rfl, aI⟩ := sb aM
     ·obtain ⟨bo, aU⟩ | ⟨bo, aU⟩ := sp aI
      ·have cE : decide (40 < (((rd_T83 l0 l).f2).size : Int)) = true := decide_eq_true bo
       have cF : decide (40 < ((rd_T83 l0 l).f2).size) = true := decide_eq_true (by omega)
       clear bo; replace aU := am aU; clear ah av ao ap aM aI
       try go_wp2
       generalize hw : (((w5.setCell ⟨M, 0, none⟩ (.int .i64 ((rd_T83 l0 l).f0))).setCell ⟨M, 1, none⟩ (.int .i64 ((rd_T83 l0 l).f1))).setCell ⟨M, 2, none⟩ (.string ((rd_T83 l0 l).f2))) = a4; replace hw := hw.symm
       replace q : Hc a4 M #[.int .i64 ((rd_T83 l0 l).f0), .int .i64 ((rd_T83 l0 l).f1), .string ((rd_T83 l0 l).f2)] 83 := ⟨wAp0 q⟩
       replace HB : Hb w a4 := ⟨wAe1 HB au⟩
       clear hw; replace q := dA q; replace HB := bdr HB; refine st_ 41 (fun w' => w'.cell? ⟨M, 0, none⟩ = some (.int .i64 ((rd_T83 l0 l).f0)) ∧ w'.cell? ⟨M, 1, none⟩ = some (.int .i64 ((rd_T83 l0 l).f1)) ∧ w'.cell? ⟨M, 2, none⟩ = some (.string ((rd_T83 l0 l).f2))) [] spec_l15Sessions.tab5 spec_l15Sessions.bits5 D3x2_ (fun z j J => ?_); generalize a4.drew = cP at q HB z ⊢; refine pu_ 0 15 j ?_; refine ta_ 1 16 j J z ?_; refine on_ 2 (some 17) j (fun K hK => ?_); refine gT Try.func47 (spec_l01In.calls ((rd_T83 l0 l).f0) 1 1000000 true _ A7.out) ?_; rintro w' ⟨nd, rfl⟩; refine hK.out _ _ D3x2_ (fun z => nm_ ?_); clear hK K; refine pu_ 3 18 j ?_; refine pu_ 4 19 j ?_; refine pu_ 5 20 j ?_; refine pu_ 6 21 j ?_; refine pu_ 7 22 j ?_; refine of_ 8 23 j ?_; refine of_ 9 24 j ?_; refine of_ 10 25 j ?_; refine of_ 11 26 j ?_; refine of_ 12 27 j ?_; refine of_ 13 28 j ?_; refine of_ 14 29 j ?_; refine of_ 15 30 j ?_; refine of_ 16 31 j ?_; refine pu_ 17 32 j ?_; refine pu_ 18 33 j ?_; refine pu_ 19 34 j ?_; refine pu_ 20 35 j ?_; refine ta_ 21 36 j J z ?_; refine on_ 22 (some 37) j (fun K hK => ?_); refine gT Try.func47 (spec_l01In.calls ((rd_T83 l0 l).f1) 0 1000000 true _ a8.out) ?_; rintro w' ⟨nd, rfl⟩; refine hK.out _ _ D3x2_ (fun z => nm_ ?_); clear hK K; refine pu_ 23 38 j ?_; refine pu_ 24 39 j ?_; refine pu_ 25 40 j ?_; refine pu_ 26 41 j ?_; refine ta_ 27 42 j J z ?_; refine pu_ 28 43 j ?_; refine pu_ 29 44 j ?_; refine pu_ 30 45 j ?_; refine pu_ 31 46 j ?_; refine of_ 32 47 j ?_; refine of_ 33 48 j ?_; refine of_ 34 49 j ?_; refine of_ 35 50 j ?_; refine of_ 36 51 j ?_; refine of_ 37 52 j ?_; refine of_ 38 53 j ?_; refine of_ 39 54 j ?_; refine pu_ 40 55 j ?_; refine done_ (done_of j.out gk_) ?_
       try go_wp2
       go_meet
       case rel => exact ⟨_, true, be_, aU, D3x3_⟩
      have cE : decide (40 < (((rd_T83 l0 l).f2).size : Int)) = false := decide_eq_false bo
      have cF : decide (40 < ((rd_T83 l0 l).f2).size) = false := decide_eq_false (by omega)
      clear bo
      obtain ⟨bC, aS⟩ | ⟨bC, aS⟩ := sp aU
      ·obtain ⟨cG, cH⟩ := yE bC; clear bC; replace aS := am aS; clear ah av ao ap aM aI aU
       try go_wp2
       generalize hw : (((w5.setCell ⟨M, 0, none⟩ (.int .i64 ((rd_T83 l0 l).f0))).setCell ⟨M, 1, none⟩ (.int .i64 ((rd_T83 l0 l).f1))).setCell ⟨M, 2, none⟩ (.string ((rd_T83 l0 l).f2))) = bZ; replace hw := hw.symm
       replace q : Hc bZ M #[.int .i64 ((rd_T83 l0 l).f0), .int .i64 ((rd_T83 l0 l).f1), .string ((rd_T83 l0 l).f2)] 83 := ⟨wAp0 q⟩
       replace HB : Hb w bZ := ⟨wAe1 HB au⟩
       clear hw; replace q := dA q; replace HB := bdr HB; refine st_ 41 (fun w' => w'.cell? ⟨M, 0, none⟩ = some (.int .i64 ((rd_T83 l0 l).f0)) ∧ w'.cell? ⟨M, 1, none⟩ = some (.int .i64 ((rd_T83 l0 l).f1)) ∧ w'.cell? ⟨M, 2, none⟩ = some (.string ((rd_T83 l0 l).f2))) [] spec_l15Sessions.tab5 spec_l15Sessions.bits5 D3x2_ (fun z j J => ?_); generalize bZ.drew = dl at q HB z ⊢; refine pu_ 0 15 j ?_; refine ta_ 1 16 j J z ?_; refine on_ 2 (some 17) j (fun K hK => ?_); refine gT Try.func47 (spec_l01In.calls ((rd_T83 l0 l).f0) 1 1000000 true _ A7.out) ?_; rintro w' ⟨nd, rfl⟩; refine hK.out _ _ D3x2_ (fun z => nm_ ?_); clear hK K; refine pu_ 3 18 j ?_; refine pu_ 4 19 j ?_; refine pu_ 5 20 j ?_; refine pu_ 6 21 j ?_; refine pu_ 7 22 j ?_; refine of_ 8 23 j ?_; refine of_ 9 24 j ?_; refine of_ 10 25 j ?_; refine of_ 11 26 j ?_; refine of_ 12 27 j ?_; refine of_ 13 28 j ?_; refine of_ 14 29 j ?_; refine of_ 15 30 j ?_; refine of_ 16 31 j ?_; refine pu_ 17 32 j ?_; refine pu_ 18 33 j ?_; refine pu_ 19 34 j ?_; refine pu_ 20 35 j ?_; refine ta_ 21 36 j J z ?_; refine on_ 22 (some 37) j (fun K hK => ?_); refine gT Try.func47 (spec_l01In.calls ((rd_T83 l0 l).f1) 0 1000000 true _ a8.out) ?_; rintro w' ⟨nd, rfl⟩; refine hK.out _ _ D3x2_ (fun z => nm_ ?_); clear hK K; refine pu_ 23 38 j ?_; refine pu_ 24 39 j ?_; refine pu_ 25 40 j ?_; refine pu_ 26 41 j ?_; refine ta_ 27 42 j J z ?_; refine pu_ 28 43 j ?_; refine pu_ 29 44 j ?_; refine pu_ 30 45 j ?_; refine pu_ 31 46 j ?_; refine pu_ 32 47 j ?_; refine ta_ 33 48 j J z ?_; refine pu_ 34 49 j ?_; refine pu_ 35 50 j ?_; refine pu_ 36 51 j ?_; refine ta_ 37 52 j J z ?_; refine pu_ 38 53 j ?_; refine pu_ 39 54 j ?_; refine pu_ 40 55 j ?_; refine done_ (done_of j.out gk_) ?_
       try go_wp2
       go_meet
       case rel => exact ⟨_, ((((rd_T83 l0 l).f2).toList != ([] : List UInt8))), be_, aS, D3x3_⟩
      obtain ⟨cG, cH⟩ := nE bC; replace aS := am aS; clear ah av ao ap aM aI aU
      try go_wp2
      generalize hw : (((w5.setCell ⟨M, 0, none⟩ (.int .i64 ((rd_T83 l0 l).f0))).setCell ⟨M, 1, none⟩ (.int .i64 ((rd_T83 l0 l).f1))).setCell ⟨M, 2, none⟩ (.string ((rd_T83 l0 l).f2))) = b0; replace hw := hw.symm
      replace q : Hc b0 M #[.int .i64 ((rd_T83 l0 l).f0), .int .i64 ((rd_T83 l0 l).f1), .string ((rd_T83 l0 l).f2)] 83 := ⟨wAp0 q⟩
      replace HB : Hb w b0 := ⟨wAe1 HB au⟩
      clear hw; replace q := dA q; replace HB := bdr HB; refine st_ 41 (fun w' => w'.cell? ⟨M, 0, none⟩ = some (.int .i64 ((rd_T83 l0 l).f0)) ∧ w'.cell? ⟨M, 1, none⟩ = some (.int .i64 ((rd_T83 l0 l).f1)) ∧ w'.cell? ⟨M, 2, none⟩ = some (.string ((rd_T83 l0 l).f2))) [] spec_l15Sessions.tab5 spec_l15Sessions.bits5 D3x2_ (fun z j J => ?_); generalize b0.drew = cQ at q HB z ⊢; refine pu_ 0 15 j ?_; refine ta_ 1 16 j J z ?_; refine on_ 2 (some 17) j (fun K hK => ?_); refine gT Try.func47 (spec_l01In.calls ((rd_T83 l0 l).f0) 1 1000000 true _ A7.out) ?_; rintro w' ⟨nd, rfl⟩; refine hK.out _ _ D3x2_ (fun z => nm_ ?_); clear hK K; refine pu_ 3 18 j ?_; refine pu_ 4 19 j ?_; refine pu_ 5 20 j ?_; refine pu_ 6 21 j ?_; refine pu_ 7 22 j ?_; refine of_ 8 23 j ?_; refine of_ 9 24 j ?_; refine of_ 10 25 j ?_; refine of_ 11 26 j ?_; refine of_ 12 27 j ?_; refine of_ 13 28 j ?_; refine of_ 14 29 j ?_; refine of_ 15 30 j ?_; refine of_ 16 31 j ?_; refine pu_ 17 32 j ?_; refine pu_ 18 33 j ?_; refine pu_ 19 34 j ?_; refine pu_ 20 35 j ?_; refine ta_ 21 36 j J z ?_; refine on_ 22 (some 37) j (fun K hK => ?_); refine gT Try.func47 (spec_l01In.calls ((rd_T83 l0 l).f1) 0 1000000 true _ a8.out) ?_; rintro w' ⟨nd, rfl⟩; refine hK.out _ _ D3x2_ (fun z => nm_ ?_); clear hK K; refine pu_ 23 38 j ?_; refine pu_ 24 39 j ?_; refine pu_ 25 40 j ?_; refine pu_ 26 41 j ?_; refine ta_ 27 42 j J z ?_; refine pu_ 28 43 j ?_; refine pu_ 29 44 j ?_; refine pu_ 30 45 j ?_; refine pu_ 31 46 j ?_; refine pu_ 32 47 j ?_; refine ta_ 33 48 j J z ?_; refine pu_ 34 49 j ?_; refine pu_ 35 50 j ?_; refine of_ 36 51 j ?_; refine of_ 37 52 j ?_; refine of_ 38 53 j ?_; refine pu_ 39 54 j ?_; refine pu_ 40 55 j ?_; refine done_ (done_of j.out gk_) ?_
      try go_wp2
      go_meet
      case rel => exact ⟨_, false, be_, aS, D3x3_⟩
     replace aI := am aI; clear ah av ao ap aM
     try go_wp2
     generalize hw : (((w5.setCell ⟨M, 0, none⟩ (.int .i64 ((rd_T83 l0 l).f0))).setCell ⟨M, 1, none⟩ (.int .i64 ((rd_T83 l0 l).f1))).setCell ⟨M, 2, none⟩ (.string ((rd_T83 l0 l).f2))) = b1; replace hw := hw.symm
     replace q : Hc b1 M #[.int .i64 ((rd_T83 l0 l).f0), .int .i64 ((rd_T83 l0 l).f1), .string ((rd_T83 l0 l).f2)] 83 := ⟨wAp0 q⟩
     replace HB : Hb w b1 := ⟨wAe1 HB au⟩
     clear hw; replace q := dA q; replace HB := bdr HB; refine st_ 41 (fun w' => w'.cell? ⟨M, 0, none⟩ = some (.int .i64 ((rd_T83 l0 l).f0)) ∧ w'.cell? ⟨M, 1, none⟩ = some (.int .i64 ((rd_T83 l0 l).f1)) ∧ w'.cell? ⟨M, 2, none⟩ = some (.string ((rd_T83 l0 l).f2))) [] spec_l15Sessions.tab5 spec_l15Sessions.bits5 D3x2_ (fun z j J => ?_); generalize b1.drew = dm at q HB z ⊢; refine pu_ 0 15 j ?_; refine ta_ 1 16 j J z ?_; refine on_ 2 (some 17) j (fun K hK => ?_); refine gT Try.func47 (spec_l01In.calls ((rd_T83 l0 l).f0) 1 1000000 true _ A7.out) ?_; rintro w' ⟨nd, rfl⟩; refine hK.out _ _ D3x2_ (fun z => nm_ ?_); clear hK K; refine pu_ 3 18 j ?_; refine pu_ 4 19 j ?_; refine pu_ 5 20 j ?_; refine pu_ 6 21 j ?_; refine pu_ 7 22 j ?_; refine of_ 8 23 j ?_; refine of_ 9 24 j ?_; refine of_ 10 25 j ?_; refine of_ 11 26 j ?_; refine of_ 12 27 j ?_; refine of_ 13 28 j ?_; refine of_ 14 29 j ?_; refine of_ 15 30 j ?_; refine of_ 16 31 j ?_; refine pu_ 17 32 j ?_; refine pu_ 18 33 j ?_; refine pu_ 19 34 j ?_; refine pu_ 20 35 j ?_; refine ta_ 21 36 j J z ?_; refine on_ 22 (some 37) j (fun K hK => ?_); refine gT Try.func47 (spec_l01In.calls ((rd_T83 l0 l).f1) 0 1000000 false _ a8.out) ?_; rintro w' ⟨nd, rfl⟩; refine hK.out _ _ D3x2_ (fun z => nm_ ?_); clear hK K; refine pu_ 23 38 j ?_; refine pu_ 24 39 j ?_; refine pu_ 25 40 j ?_; refine of_ 26 41 j ?_; refine of_ 27 42 j ?_; refine of_ 28 43 j ?_; refine of_ 29 44 j ?_; refine pu_ 30 45 j ?_; refine pu_ 31 46 j ?_; refine of_ 32 47 j ?_; refine of_ 33 48 j ?_; refine of_ 34 49 j ?_; refine of_ 35 50 j ?_; refine of_ 36 51 j ?_; refine of_ 37 52 j ?_; refine of_ 38 53 j ?_; refine of_ 39 54 j ?_; refine pu_ 40 55 j ?_; refine done_ (done_of j.out gk_) ?_
     try go_wp2
     go_meet
     case rel => exact ⟨_, true, be_, aI, D3x3_⟩
    replace ao := am ao; clear ah av
    try go_wp2
    generalize hw : (((w5.setCell ⟨M, 0, none⟩ (.int .i64 ((rd_T83 l0 l).f0))).setCell ⟨M, 1, none⟩ (.int .i64 ((rd_T83 l0 l).f1))).setCell ⟨M, 2, none⟩ (.string ((rd_T83 l0 l).f2))) = bN; replace hw := hw.symm
    replace q : Hc bN M #[.int .i64 ((rd_T83 l0 l).f0), .int .i64 ((rd_T83 l0 l).f1), .string ((rd_T83 l0 l).f2)] 83 := ⟨wAp0 q⟩
    replace HB : Hb w bN := ⟨wAe1 HB au⟩
    clear hw; replace q := dA q; replace HB := bdr HB; refine st_ 41 (fun w' => w'.cell? ⟨M, 0, none⟩ = some (.int .i64 ((rd_T83 l0 l).f0)) ∧ w'.cell? ⟨M, 1, none⟩ = some (.int .i64 ((rd_T83 l0 l).f1)) ∧ w'.cell? ⟨M, 2, none⟩ = some (.string ((rd_T83 l0 l).f2))) [] spec_l15Sessions.tab5 spec_l15Sessions.bits5 D3x2_ (fun z j J => ?_); generalize bN.drew = dn at q HB z ⊢; refine pu_ 0 15 j ?_; refine ta_ 1 16 j J z ?_; refine on_ 2 (some 17) j (fun K hK => ?_); refine gT Try.func47 (spec_l01In.calls ((rd_T83 l0 l).f0) 1 1000000 false _ A7.out) ?_; rintro w' ⟨nd, rfl⟩; refine hK.out _ _ D3x2_ (fun z => nm_ ?_); clear hK K; refine pu_ 3 18 j ?_; refine pu_ 4 19 j ?_; refine of_ 5 20 j ?_; refine of_ 6 21 j ?_; refine of_ 7 22 j ?_; refine of_ 8 23 j ?_; refine of_ 9 24 j ?_; refine of_ 10 25 j ?_; refine of_ 11 26 j ?_; refine of_ 12 27 j ?_; refine of_ 13 28 j ?_; refine of_ 14 29 j ?_; refine of_ 15 30 j ?_; refine of_ 16 31 j ?_; refine of_ 17 32 j ?_; refine pu_ 18 33 j ?_; refine pu_ 19 34 j ?_; refine of_ 20 35 j ?_; refine of_ 21 36 j ?_; refine of_ 22 37 j ?_; refine of_ 23 38 j ?_; refine pu_ 24 39 j ?_; refine pu_ 25 40 j ?_; refine of_ 26 41 j ?_; refine of_ 27 42 j ?_; refine of_ 28 43 j ?_; refine of_ 29 44 j ?_; refine pu_ 30 45 j ?_; refine pu_ 31 46 j ?_; refine of_ 32 47 j ?_; refine of_ 33 48 j ?_; refine of_ 34 49 j ?_; refine of_ 35 50 j ?_; refine of_ 36 51 j ?_; refine of_ 37 52 j ?_; refine of_ 38 53 j ?_; refine of_ 39 54 j ?_; refine pu_ 40 55 j ?_; refine done_ (done_of j.out gk_) ?_
    try go_wp2
    go_meet
    case rel => exact ⟨_, true, be_, ao, D3x3_⟩
   clear ah
   try clear c2
   obtain ⟨kq, b3, rfl, a6, ca, q, HB⟩ := hcut
   cases kq with
   | zero => exact absurd a6.out (by simp [spec_l15Sessions.j1])
   | succ cK => ?_
   replace a6 := a6.out; simp only [spec_l15Sessions.j1] at a6
   obtain ⟨rfl, bd⟩ | ⟨rfl, bd⟩ := sb a6
   ·obtain rfl := Option.some.inj bd; clear bd a6
    go_wp2
    go_ret; exact ⟨B9x8_, (Ae1 HB au)⟩
   replace bd := am bd; clear a6
   go_wp2
   go_roundg cK
   case measure => have := a9.out; have := ca.out; omega
   case rel => exact ⟨(wrap64 (l + 1)), be_, bd, ⟨(by have := a9.out; have := ca.out; omega)⟩, Ce1 HB au⟩
  obtain rfl := Option.some.inj aV; clear aV aE
  go_wp2
  go_ret; exact ⟨B9x8_, (Ae0 HB)⟩
mutual
def spec_KeepOk.l0 : Nat → Int → List (S83) → List (S81) → Option (Bool)
 | 0, _, _, _ => none
 | k + 1, Z, a2, az => if Z < (az.length : Int) then (if 0 ≤ Z then ((spec_l01In.f (((rd_T81 az Z).f0).size : Int) 1 8).bind fun co => (if co = true then (if Z > 0 then (if 0 ≤ (wrap64 (Z - 1)) then (if (wrap64 (Z - 1)) < (az.length : Int) then (if ((Op.bytesLess (((rd_T81 az (wrap64 (Z - 1))).f0).toList) (((rd_T81 az Z).f0).toList)) = true) then (if (((rd_T81 az Z).f1).size : Int) > 20 then (spec_KeepOk.j1 k Z true a2 az) else ((spec_l01In.f ((rd_T81 az Z).f2) 1 1000000000).bind fun bF => (spec_KeepOk.j1 k Z (!bF) a2 az))) else (spec_KeepOk.j1 k Z true a2 az)) else (none)) else (none)) else (if (((rd_T81 az Z).f1).size : Int) > 20 then (spec_KeepOk.j1 k Z true a2 az) else ((spec_l01In.f ((rd_T81 az Z).f2) 1 1000000000).bind fun bG => (spec_KeepOk.j1 k Z (!bG) a2 az)))) else (spec_KeepOk.j1 k Z true a2 az))) else (none)) else ((spec_l15Sessions.f k a2).bind fun cp => (if cp = true then (some (decide ((az.length : Int) ≤ 8))) else (some false)))
def spec_KeepOk.j1 : Nat → Int → Bool → List (S83) → List (S81) → Option (Bool)
 | 0, _, _, _, _ => none
 | k + 1, Z, cR, a2, az => if cR = true then (some false) else (spec_KeepOk.l0 k (wrap64 (Z + 1)) a2 az)
end
def spec_KeepOk.f (k : Nat) (ar : List (S83)) (B : List (S81)) : Option (Bool) := spec_KeepOk.l0 k 0 ar B
def spec_KeepOk.T5 : Bool × List (List Nat × List Nat) := (true, [([], []), ([0], [0]), ([1], [1]), ([2], [2]), ([3], [3]), ([4, 3], [4]), ([5], [5]), ([6, 5], [5, 6]), ([7, 5, 5], [5, 7]), ([8], [8]), ([9, 8], [8, 9]), ([8], [8]), ([11, 8], [8, 11]), ([10, 12, 8], [8, 10, 12]), ([13, 8], [8, 13]), ([14, 8], [8, 14]), ([8], [8]), ([16, 8], [8, 16]), ([15, 17, 8], [8, 15, 17]), ([8, 18, 5], [5, 8, 18]), ([5, 19], [5, 19]), ([20, 8], [20]), ([21], [21]), ([22, 21], [21, 22]), ([23, 21], [21, 23]), ([24, 21], [21, 24]), ([21, 25], [21, 25]), ([26, 21], [26]), ([27], [27]), ([28, 27], [27, 28]), ([29, 27, 27], [27, 29]), ([30, 27], [27, 30]), ([27, 31], [27, 31])])
def spec_KeepOk.B5 : List Nat := [0, 1, 3, 7, 15, 31, 63, 127, 255, 511, 1023, 511, 2559, 8191, 16383, 32767, 511, 66047, 262143, 524287, 1048575, 2097151, 4194303, 8388607, 16777215, 33554431, 67108863, 134217727, 268435455, 536870911, 1073741823, 2147483647, 4294967295]
theorem spec_KeepOk.tab5 : rtab .any (opsOf Try.f28 5) = spec_KeepOk.T5 := by kernel_rfl
theorem spec_KeepOk.bits5 : waitsOk spec_KeepOk.T5.2 spec_KeepOk.B5 = true := by kernel_rfl
theorem spec_KeepOk.calls (k : Nat) (aJ : Option Addr) (aN : Nat) (ar : List (S83)) (bv : Option Addr) (aO : Nat) (B : List (S81)) (r : Bool) (w : World) (cj : Kd.C k83 w aJ ar.length ar) (cg : ar.length ≤ aN) (ck : Kd.C k81 w bv B.length B) (ch : B.length ≤ aO) (h : spec_KeepOk.f k ar B = some r) :
  Calls Try.prog 28 #[.agg #[.slice aJ ar.length aN, .slice bv B.length aO]] w fun e w' => e = .returned (.bool r) ∧ Below w.heap.size w w' := by
 have dd := Try.underlying47
 have de := Try.underlying81
 have cd := am cj
 have b9 := am cg
 clear cj cg
 have bz := am ck
 have cU := am ch
 clear ck ch
 have HB := am (Below.refl w.heap.size w)
 have aW := h
 clear h
 unfold spec_KeepOk.f at aW
 replace aW := am aW
 go_enter Try.func28, Try.ntmps28
 go_wp2_with (first | ((with_reducible refine gate_dst (N := 1) rfl ?_); (try (refine gate_guard (by rfl) ?_; dsimp only)); refine bx (N := 1) (cs := #[.slice aJ ar.length aN, .slice bv B.length aO]) (t := 47) ?_; intro aP hg w2 hbox hb; have U := am hbox; have aw := gA hg HB; replace HB := hA HB hb; clear hb hbox hg))
 go_loopg [3] k (fun kq v3 w' => ∃ (l : Int), v3 = .int .i64 l ∧ Aside0 (spec_KeepOk.l0 kq l ar B = some r) ∧ Aside0 (kq ≤ k) ∧ Aside0 (w'.heap[aP]? = some (.cells #[(.slice aJ ar.length aN), (.slice bv B.length aO)] 47 (0, 0))) ∧ Aside0 (Below w.heap.size w w'))
 case atStart => exact ⟨(0), be_, aW, ⟨Nat.le_refl _⟩, Cb U, Ce1 HB aw⟩
 case round =>
  clear aW; obtain ⟨l, rfl, aE, a9, U, HB⟩ := hrel
  cases gk with
  | zero => exact absurd aE.out (by simp [spec_KeepOk.l0])
  | succ k1 => ?_
  replace aE := aE.out; simp only [spec_KeepOk.l0] at aE
  obtain ⟨ce, aV⟩ | ⟨ce, aV⟩ := sd aE
  ·obtain ⟨cY, ah⟩ := yd aV; replace ah := am ah; clear aE aV; obtain ⟨b4, b5, b6, b7⟩ := cf2 U
   have bV : 0 ≤ (l : Int) := dga
   have bX : l < (B.length : Int) := dga
   obtain ⟨al, cJ, bR, bS, bT⟩ := at_T81 bz.out l bV bX; cases cJ; replace bR := (hbc HB bR).trans bR; replace bS := (hbc HB bS).trans bS; replace bT := (hbc HB bT).trans bT; replace bV := eq_true bV; replace bX := eq_true bX
   go_upto_region 5 with (first | ((with_reducible refine gate_dst (N := 4) rfl ?_); (try (refine gate_guard (by rfl) ?_; dsimp only)); refine bx (N := 4) (cs := #[.string (⟨#[]⟩ : ByteArray), .string (⟨#[]⟩ : ByteArray), .int .i64 0]) (t := 81) ?_; intro aa hg w7 hbox hb; have D := am hbox; have aK := gA hg HB; replace HB := De1 HB aw hb; have a7 := nA hg U; have cr := mA hg U; replace U := bA U hb; clear hb hbox hg; have db := cr.out; have dc := a7.out; obtain ⟨ds, dt, du, dy, dz, dB⟩ := cf3 D))
   (try simp only [Act.put, List.setIfInBounds_toArray, List.set_cons_zero, List.set_cons_succ])
   go_cut [49] (fun cM wc => ∃ (kq : Nat) (b2 : Bool), cM = .bool b2 ∧ Aside0 (spec_KeepOk.j1 kq l b2 ar B = some r) ∧ Aside0 (kq ≤ k1) ∧ Hc wc aP #[(.slice aJ ar.length aN), (.slice (some al) B.length aO)] 47 ∧ Hc wc aa #[.string ((rd_T81 B l).f0), .string ((rd_T81 B l).f1), .int .i64 ((rd_T81 B l).f2)] 81 ∧ Hb w wc)
   case first =>
    replace ah := ah.out; obtain ⟨co, a5, av⟩ := bsi ah; (try dsimp only at av)
    obtain ⟨rfl, ao⟩ | ⟨rfl, ao⟩ := sb av
    ·obtain ⟨bi, ap⟩ | ⟨bi, ap⟩ := sp ao
     ·have be : decide (0 < l) = true := decide_eq_true bi
      clear bi
      (first | rw [be] | (simp only [i64_w, i32_w]; rw [be]) | skip)
      obtain ⟨ac, bE⟩ : ∃ j_ : Int, (wrap64 (l - 1)) = j_ := ⟨_, rfl⟩
      (first | rw [bE] at ap | simp only [bE] at ap)
      (try rw [bE] at a5)
      have da : (IntKind.i64.wrap (l - 1)) = ac := (i64_w _).trans bE
      obtain ⟨cW, aX⟩ := yd ap; obtain ⟨cX, aY⟩ := yd aX
      obtain ⟨bk, aA⟩ | ⟨bk, aA⟩ := sp aY
      ·have cu : (Op.bytesLess (((rd_T81 B (ac)).f0).toList) (((rd_T81 B l).f0).toList)) = true := bk
       clear bk
       obtain ⟨bl, aQ⟩ | ⟨bl, aQ⟩ := sp aA
       ·have cv : decide (20 < (((rd_T81 B l).f1).size : Int)) = true := decide_eq_true bl
        have cw : decide (20 < ((rd_T81 B l).f1).size) = true := decide_eq_true (by omega)
        clear bl; replace aQ := am aQ; clear ah av ao ap aX aY aA
        try go_wp2
        generalize hw : (((w7.setCell ⟨aa, 0, none⟩ (.string ((rd_T81 B l).f0))).setCell ⟨aa, 1, none⟩ (.string ((rd_T81 B l).f1))).setCell ⟨aa, 2, none⟩ (.int .i64 ((rd_T81 B l).f2))) = bH; replace hw := hw.symm
        replace U : Hc bH aP #[.slice aJ ar.length aN, .slice (some al) B.length aO] 47 := ⟨wAp1 U a7⟩
        replace D : Hc bH aa #[.string ((rd_T81 B l).f0), .string ((rd_T81 B l).f1), .int .i64 ((rd_T81 B l).f2)] 81 := ⟨wAp0 D⟩
        replace HB : Hb w bH := ⟨wAe2 HB aw aK⟩
        clear hw; replace U := dA U; replace D := dA D; replace HB := bdr HB
        have aZ : 0 ≤ ((ac) : Int) := dga
        have a0 : (ac) < (B.length : Int) := dga
        obtain ⟨bh, br, aB, aC, aD⟩ := at_T81 bz.out (ac) aZ a0; have aH := aD; have aG := aC; have aF := aB; obtain rfl : al = bh := (by injection br); replace aB := (hbc HB aB).trans aB; replace aC := (hbc HB aC).trans aC; replace aD := (hbc HB aD).trans aD; replace aZ := eq_true aZ; replace a0 := eq_true a0; refine st_ 33 (fun w' => w'.cell? ⟨aa, 0, none⟩ = some (.string ((rd_T81 B l).f0)) ∧ w'.cell? ⟨aa, 1, none⟩ = some (.string ((rd_T81 B l).f1)) ∧ w'.cell? ⟨aa, 2, none⟩ = some (.int .i64 ((rd_T81 B l).f2)) ∧ w'.cell? ⟨aP, 0, none⟩ = some (.slice aJ ar.length aN) ∧ w'.cell? ⟨aP, 1, none⟩ = some (.slice (some al) B.length aO) ∧ w'.cell? (al.add (((ac)).toNat * 3)) = some (.string ((rd_T81 B (ac)).f0)) ∧ w'.cell? ⟨(al.add (((ac)).toNat * 3)).block, (al.add (((ac)).toNat * 3)).off + 1, none⟩ = some (.string ((rd_T81 B (ac)).f1)) ∧ w'.cell? ⟨(al.add (((ac)).toNat * 3)).block, (al.add (((ac)).toNat * 3)).off + 2, none⟩ = some (.int .i64 ((rd_T81 B (ac)).f2))) [] spec_KeepOk.tab5 spec_KeepOk.bits5 D3x1_ (fun z j J => ?_); generalize bH.drew = bI at U D HB aB aC aD z ⊢; refine pu_ 0 17 j ?_; refine ta_ 1 18 j J z ?_; refine pu_ 2 19 j ?_; refine on_ 3 (some 20) j (fun K hK => ?_); refine gT Try.func47 (spec_l01In.calls (((rd_T81 B l).f0).size : Int) 1 8 true _ a5.out) ?_; rintro w' ⟨nd, rfl⟩; refine hK.out _ _ D3x1_ (fun z => nm_ ?_); clear hK K; refine pu_ 4 21 j ?_; refine pu_ 5 22 j ?_; refine pu_ 6 23 j ?_; refine pu_ 7 24 j ?_; refine pu_ 8 25 j ?_; refine pu_ 9 26 j ?_; refine pu_ 11 28 j ?_; refine pu_ 12 29 j ?_; refine pu_ 16 33 j ?_; refine ta_ 10 27 j J z ?_; refine pu_ 13 30 j ?_; refine pu_ 14 31 j ?_; refine ta_ 15 32 j J z ?_; refine ta_ 17 34 j J z ?_; refine pu_ 18 35 j ?_; refine pu_ 19 36 j ?_; refine pu_ 20 37 j ?_; refine pu_ 21 38 j ?_; refine pu_ 22 39 j ?_; refine ta_ 23 40 j J z ?_; refine pu_ 24 41 j ?_; refine pu_ 25 42 j ?_; refine pu_ 26 43 j ?_; refine pu_ 27 44 j ?_; refine of_ 28 45 j ?_; refine of_ 29 46 j ?_; refine of_ 30 47 j ?_; refine of_ 31 48 j ?_; refine pu_ 32 49 j ?_; refine done_ (done_of j.out gk_) ?_
        try go_wp2
        go_meet
        case rel => exact ⟨_, true, be_, aQ, D3x4_⟩
       have cv : decide (20 < (((rd_T81 B l).f1).size : Int)) = false := decide_eq_false bl
       have cw : decide (20 < ((rd_T81 B l).f1).size) = false := decide_eq_false (by omega)
       clear bl; obtain ⟨bF, cq, aR⟩ := bsi aQ; (try dsimp only at aR); replace aR := am aR; clear ah av ao ap aX aY aA aQ
       try go_wp2
       generalize hw : (((w7.setCell ⟨aa, 0, none⟩ (.string ((rd_T81 B l).f0))).setCell ⟨aa, 1, none⟩ (.string ((rd_T81 B l).f1))).setCell ⟨aa, 2, none⟩ (.int .i64 ((rd_T81 B l).f2))) = bJ; replace hw := hw.symm
       replace U : Hc bJ aP #[.slice aJ ar.length aN, .slice (some al) B.length aO] 47 := ⟨wAp1 U a7⟩
       replace D : Hc bJ aa #[.string ((rd_T81 B l).f0), .string ((rd_T81 B l).f1), .int .i64 ((rd_T81 B l).f2)] 81 := ⟨wAp0 D⟩
       replace HB : Hb w bJ := ⟨wAe2 HB aw aK⟩
       clear hw; replace U := dA U; replace D := dA D; replace HB := bdr HB
       have aZ : 0 ≤ ((ac) : Int) := dga
       have a0 : (ac) < (B.length : Int) := dga
       obtain ⟨bh, br, aB, aC, aD⟩ := at_T81 bz.out (ac) aZ a0; have aH := aD; have aG := aC; have aF := aB; obtain rfl : al = bh := (by injection br); replace aB := (hbc HB aB).trans aB; replace aC := (hbc HB aC).trans aC; replace aD := (hbc HB aD).trans aD; replace aZ := eq_true aZ; replace a0 := eq_true a0; refine st_ 33 (fun w' => w'.cell? ⟨aa, 0, none⟩ = some (.string ((rd_T81 B l).f0)) ∧ w'.cell? ⟨aa, 1, none⟩ = some (.string ((rd_T81 B l).f1)) ∧ w'.cell? ⟨aa, 2, none⟩ = some (.int .i64 ((rd_T81 B l).f2)) ∧ w'.cell? ⟨aP, 0, none⟩ = some (.slice aJ ar.length aN) ∧ w'.cell? ⟨aP, 1, none⟩ = some (.slice (some al) B.length aO) ∧ w'.cell? (al.add (((ac)).toNat * 3)) = some (.string ((rd_T81 B (ac)).f0)) ∧ w'.cell? ⟨(al.add (((ac)).toNat * 3)).block, (al.add (((ac)).toNat * 3)).off + 1, none⟩ = some (.string ((rd_T81 B (ac)).f1)) ∧ w'.cell? ⟨(al.add (((ac)).toNat * 3)).block, (al.add (((ac)).toNat * 3)).off + 2, none⟩ = some (.int .i64 ((rd_T81 B (ac)).f2))) [] spec_KeepOk.tab5 spec_KeepOk.bits5 D3x1_ (fun z j J => ?_); generalize bJ.drew = bK at U D HB aB aC aD z ⊢; refine pu_ 0 17 j ?_; refine ta_ 1 18 j J z ?_; refine pu_ 2 19 j ?_; refine on_ 3 (some 20) j (fun K hK => ?_); refine gT Try.func47 (spec_l01In.calls (((rd_T81 B l).f0).size : Int) 1 8 true _ a5.out) ?_; rintro w' ⟨nd, rfl⟩; refine hK.out _ _ D3x1_ (fun z => nm_ ?_); clear hK K; refine pu_ 4 21 j ?_; refine pu_ 5 22 j ?_; refine pu_ 6 23 j ?_; refine pu_ 7 24 j ?_; refine pu_ 8 25 j ?_; refine pu_ 9 26 j ?_; refine pu_ 11 28 j ?_; refine pu_ 12 29 j ?_; refine pu_ 16 33 j ?_; refine ta_ 10 27 j J z ?_; refine pu_ 13 30 j ?_; refine pu_ 14 31 j ?_; refine ta_ 15 32 j J z ?_; refine ta_ 17 34 j J z ?_; refine pu_ 18 35 j ?_; refine pu_ 19 36 j ?_; refine pu_ 20 37 j ?_; refine pu_ 21 38 j ?_; refine pu_ 22 39 j ?_; refine ta_ 23 40 j J z ?_; refine pu_ 24 41 j ?_; refine pu_ 25 42 j ?_; refine pu_ 26 43 j ?_; refine pu_ 27 44 j ?_; refine pu_ 28 45 j ?_; refine ta_ 29 46 j J z ?_; refine on_ 30 (some 47) j (fun K hK => ?_); refine gT Try.func47 (spec_l01In.calls ((rd_T81 B l).f2) 1 1000000000 bF _ cq.out) ?_; rintro w' ⟨nd, rfl⟩; refine hK.out _ _ D3x1_ (fun z => nm_ ?_); clear hK K; refine pu_ 31 48 j ?_; refine pu_ 32 49 j ?_; refine done_ (done_of j.out gk_) ?_
       try go_wp2
       go_meet
       case rel => exact ⟨_, (!bF), be_, aR, D3x4_⟩
      have cu : (Op.bytesLess (((rd_T81 B (ac)).f0).toList) (((rd_T81 B l).f0).toList)) = false := by simpa using bk
      clear bk; replace aA := am aA; clear ah av ao ap aX aY
      try go_wp2
      generalize hw : (((w7.setCell ⟨aa, 0, none⟩ (.string ((rd_T81 B l).f0))).setCell ⟨aa, 1, none⟩ (.string ((rd_T81 B l).f1))).setCell ⟨aa, 2, none⟩ (.int .i64 ((rd_T81 B l).f2))) = bu; replace hw := hw.symm
      replace U : Hc bu aP #[.slice aJ ar.length aN, .slice (some al) B.length aO] 47 := ⟨wAp1 U a7⟩
      replace D : Hc bu aa #[.string ((rd_T81 B l).f0), .string ((rd_T81 B l).f1), .int .i64 ((rd_T81 B l).f2)] 81 := ⟨wAp0 D⟩
      replace HB : Hb w bu := ⟨wAe2 HB aw aK⟩
      clear hw; replace U := dA U; replace D := dA D; replace HB := bdr HB
      have aZ : 0 ≤ ((ac) : Int) := dga
      have a0 : (ac) < (B.length : Int) := dga
      obtain ⟨bh, br, aB, aC, aD⟩ := at_T81 bz.out (ac) aZ a0; have aH := aD; have aG := aC; have aF := aB; obtain rfl : al = bh := (by injection br); replace aB := (hbc HB aB).trans aB; replace aC := (hbc HB aC).trans aC; replace aD := (hbc HB aD).trans aD; replace aZ := eq_true aZ; replace a0 := eq_true a0; refine st_ 33 (fun w' => w'.cell? ⟨aa, 0, none⟩ = some (.string ((rd_T81 B l).f0)) ∧ w'.cell? ⟨aa, 1, none⟩ = some (.string ((rd_T81 B l).f1)) ∧ w'.cell? ⟨aa, 2, none⟩ = some (.int .i64 ((rd_T81 B l).f2)) ∧ w'.cell? ⟨aP, 0, none⟩ = some (.slice aJ ar.length aN) ∧ w'.cell? ⟨aP, 1, none⟩ = some (.slice (some al) B.length aO) ∧ w'.cell? (al.add (((ac)).toNat * 3)) = some (.string ((rd_T81 B (ac)).f0)) ∧ w'.cell? ⟨(al.add (((ac)).toNat * 3)).block, (al.add (((ac)).toNat * 3)).off + 1, none⟩ = some (.string ((rd_T81 B (ac)).f1)) ∧ w'.cell? ⟨(al.add (((ac)).toNat * 3)).block, (al.add (((ac)).toNat * 3)).off + 2, none⟩ = some (.int .i64 ((rd_T81 B (ac)).f2))) [] spec_KeepOk.tab5 spec_KeepOk.bits5 D3x1_ (fun z j J => ?_); generalize bu.drew = bL at U D HB aB aC aD z ⊢; refine pu_ 0 17 j ?_; refine ta_ 1 18 j J z ?_; refine pu_ 2 19 j ?_; refine on_ 3 (some 20) j (fun K hK => ?_); refine gT Try.func47 (spec_l01In.calls (((rd_T81 B l).f0).size : Int) 1 8 true _ a5.out) ?_; rintro w' ⟨nd, rfl⟩; refine hK.out _ _ D3x1_ (fun z => nm_ ?_); clear hK K; refine pu_ 4 21 j ?_; refine pu_ 5 22 j ?_; refine pu_ 6 23 j ?_; refine pu_ 7 24 j ?_; refine pu_ 8 25 j ?_; refine pu_ 9 26 j ?_; refine pu_ 11 28 j ?_; refine pu_ 12 29 j ?_; refine pu_ 16 33 j ?_; refine ta_ 10 27 j J z ?_; refine pu_ 13 30 j ?_; refine pu_ 14 31 j ?_; refine ta_ 15 32 j J z ?_; refine ta_ 17 34 j J z ?_; refine pu_ 18 35 j ?_; refine pu_ 19 36 j ?_; refine pu_ 20 37 j ?_; refine pu_ 21 38 j ?_; refine of_ 22 39 j ?_; refine of_ 23 40 j ?_; refine of_ 24 41 j ?_; refine of_ 25 42 j ?_; refine pu_ 26 43 j ?_; refine pu_ 27 44 j ?_; refine of_ 28 45 j ?_; refine of_ 29 46 j ?_; refine of_ 30 47 j ?_; refine of_ 31 48 j ?_; refine pu_ 32 49 j ?_; refine done_ (done_of j.out gk_) ?_
      try go_wp2
      go_meet
      case rel => exact ⟨_, true, be_, aA, D3x4_⟩
     have be : decide (0 < l) = false := decide_eq_false bi
     clear bi
     (first | rw [be] | (simp only [i64_w, i32_w]; rw [be]) | skip)
     obtain ⟨bn, aL⟩ | ⟨bn, aL⟩ := sp ap
     ·have cB : decide (20 < (((rd_T81 B l).f1).size : Int)) = true := decide_eq_true bn
      have cC : decide (20 < ((rd_T81 B l).f1).size) = true := decide_eq_true (by omega)
      clear bn; replace aL := am aL; clear ah av ao ap
      try go_wp2
      generalize hw : (((w7.setCell ⟨aa, 0, none⟩ (.string ((rd_T81 B l).f0))).setCell ⟨aa, 1, none⟩ (.string ((rd_T81 B l).f1))).setCell ⟨aa, 2, none⟩ (.int .i64 ((rd_T81 B l).f2))) = a3; replace hw := hw.symm
      replace U : Hc a3 aP #[.slice aJ ar.length aN, .slice (some al) B.length aO] 47 := ⟨wAp1 U a7⟩
      replace D : Hc a3 aa #[.string ((rd_T81 B l).f0), .string ((rd_T81 B l).f1), .int .i64 ((rd_T81 B l).f2)] 81 := ⟨wAp0 D⟩
      replace HB : Hb w a3 := ⟨wAe2 HB aw aK⟩
      clear hw; replace U := dA U; replace D := dA D; replace HB := bdr HB; refine st_ 33 (fun w' => w'.cell? ⟨aa, 0, none⟩ = some (.string ((rd_T81 B l).f0)) ∧ w'.cell? ⟨aa, 1, none⟩ = some (.string ((rd_T81 B l).f1)) ∧ w'.cell? ⟨aa, 2, none⟩ = some (.int .i64 ((rd_T81 B l).f2))) [] spec_KeepOk.tab5 spec_KeepOk.bits5 D3x5_ (fun z j J => ?_); generalize a3.drew = cO at U D HB z ⊢; refine pu_ 0 17 j ?_; refine ta_ 1 18 j J z ?_; refine pu_ 2 19 j ?_; refine on_ 3 (some 20) j (fun K hK => ?_); refine gT Try.func47 (spec_l01In.calls (((rd_T81 B l).f0).size : Int) 1 8 true _ a5.out) ?_; rintro w' ⟨nd, rfl⟩; refine hK.out _ _ D3x5_ (fun z => nm_ ?_); clear hK K; refine pu_ 4 21 j ?_; refine pu_ 5 22 j ?_; refine pu_ 6 23 j ?_; refine pu_ 7 24 j ?_; refine pu_ 8 25 j ?_; refine of_ 9 26 j ?_; refine of_ 10 27 j ?_; refine of_ 11 28 j ?_; refine of_ 12 29 j ?_; refine of_ 13 30 j ?_; refine of_ 14 31 j ?_; refine of_ 15 32 j ?_; refine of_ 16 33 j ?_; refine of_ 17 34 j ?_; refine of_ 18 35 j ?_; refine pu_ 19 36 j ?_; refine pu_ 20 37 j ?_; refine pu_ 21 38 j ?_; refine pu_ 22 39 j ?_; refine ta_ 23 40 j J z ?_; refine pu_ 24 41 j ?_; refine pu_ 25 42 j ?_; refine pu_ 26 43 j ?_; refine pu_ 27 44 j ?_; refine of_ 28 45 j ?_; refine of_ 29 46 j ?_; refine of_ 30 47 j ?_; refine of_ 31 48 j ?_; refine pu_ 32 49 j ?_; refine done_ (done_of j.out gk_) ?_
      try go_wp2
      go_meet
      case rel => exact ⟨_, true, be_, aL, D3x4_⟩
     have cB : decide (20 < (((rd_T81 B l).f1).size : Int)) = false := decide_eq_false bn
     have cC : decide (20 < ((rd_T81 B l).f1).size) = false := decide_eq_false (by omega)
     clear bn; obtain ⟨bG, a8, aT⟩ := bsi aL; (try dsimp only at aT); replace aT := am aT; clear ah av ao ap aL
     try go_wp2
     generalize hw : (((w7.setCell ⟨aa, 0, none⟩ (.string ((rd_T81 B l).f0))).setCell ⟨aa, 1, none⟩ (.string ((rd_T81 B l).f1))).setCell ⟨aa, 2, none⟩ (.int .i64 ((rd_T81 B l).f2))) = bM; replace hw := hw.symm
     replace U : Hc bM aP #[.slice aJ ar.length aN, .slice (some al) B.length aO] 47 := ⟨wAp1 U a7⟩
     replace D : Hc bM aa #[.string ((rd_T81 B l).f0), .string ((rd_T81 B l).f1), .int .i64 ((rd_T81 B l).f2)] 81 := ⟨wAp0 D⟩
     replace HB : Hb w bM := ⟨wAe2 HB aw aK⟩
     clear hw; replace U := dA U; replace D := dA D; replace HB := bdr HB; refine st_ 33 (fun w' => w'.cell? ⟨aa, 0, none⟩ = some (.string ((rd_T81 B l).f0)) ∧ w'.cell? ⟨aa, 1, none⟩ = some (.string ((rd_T81 B l).f1)) ∧ w'.cell? ⟨aa, 2, none⟩ = some (.int .i64 ((rd_T81 B l).f2))) [] spec_KeepOk.tab5 spec_KeepOk.bits5 D3x5_ (fun z j J => ?_); generalize bM.drew = dk at U D HB z ⊢; refine pu_ 0 17 j ?_; refine ta_ 1 18 j J z ?_; refine pu_ 2 19 j ?_; refine on_ 3 (some 20) j (fun K hK => ?_); refine gT Try.func47 (spec_l01In.calls (((rd_T81 B l).f0).size : Int) 1 8 true _ a5.out) ?_; rintro w' ⟨nd, rfl⟩; refine hK.out _ _ D3x5_ (fun z => nm_ ?_); clear hK K; refine pu_ 4 21 j ?_; refine pu_ 5 22 j ?_; refine pu_ 6 23 j ?_; refine pu_ 7 24 j ?_; refine pu_ 8 25 j ?_; refine of_ 9 26 j ?_; refine of_ 10 27 j ?_; refine of_ 11 28 j ?_; refine of_ 12 29 j ?_; refine of_ 13 30 j ?_; refine of_ 14 31 j ?_; refine of_ 15 32 j ?_; refine of_ 16 33 j ?_; refine of_ 17 34 j ?_; refine of_ 18 35 j ?_; refine pu_ 19 36 j ?_; refine pu_ 20 37 j ?_; refine pu_ 21 38 j ?_; refine pu_ 22 39 j ?_; refine ta_ 23 40 j J z ?_; refine pu_ 24 41 j ?_; refine pu_ 25 42 j ?_; refine pu_ 26 43 j ?_; refine pu_ 27 44 j ?_; refine pu_ 28 45 j ?_; refine ta_ 29 46 j J z ?_; refine on_ 30 (some 47) j (fun K hK => ?_); refine gT Try.func47 (spec_l01In.calls ((rd_T81 B l).f2) 1 1000000000 bG _ a8.out) ?_; rintro w' ⟨nd, rfl⟩; refine hK.out _ _ D3x5_ (fun z => nm_ ?_); clear hK K; refine pu_ 31 48 j ?_; refine pu_ 32 49 j ?_; refine done_ (done_of j.out gk_) ?_
     try go_wp2
     go_meet
     case rel => exact ⟨_, (!bG), be_, aT, D3x4_⟩
    replace ao := am ao; clear ah av
    try go_wp2
    generalize hw : (((w7.setCell ⟨aa, 0, none⟩ (.string ((rd_T81 B l).f0))).setCell ⟨aa, 1, none⟩ (.string ((rd_T81 B l).f1))).setCell ⟨aa, 2, none⟩ (.int .i64 ((rd_T81 B l).f2))) = a4; replace hw := hw.symm
    replace U : Hc a4 aP #[.slice aJ ar.length aN, .slice (some al) B.length aO] 47 := ⟨wAp1 U a7⟩
    replace D : Hc a4 aa #[.string ((rd_T81 B l).f0), .string ((rd_T81 B l).f1), .int .i64 ((rd_T81 B l).f2)] 81 := ⟨wAp0 D⟩
    replace HB : Hb w a4 := ⟨wAe2 HB aw aK⟩
    clear hw; replace U := dA U; replace D := dA D; replace HB := bdr HB; refine st_ 33 (fun w' => w'.cell? ⟨aa, 0, none⟩ = some (.string ((rd_T81 B l).f0)) ∧ w'.cell? ⟨aa, 1, none⟩ = some (.string ((rd_T81 B l).f1)) ∧ w'.cell? ⟨aa, 2, none⟩ = some (.int .i64 ((rd_T81 B l).f2))) [] spec_KeepOk.tab5 spec_KeepOk.bits5 D3x5_ (fun z j J => ?_); generalize a4.drew = cP at U D HB z ⊢; refine pu_ 0 17 j ?_; refine ta_ 1 18 j J z ?_; refine pu_ 2 19 j ?_; refine on_ 3 (some 20) j (fun K hK => ?_); refine gT Try.func47 (spec_l01In.calls (((rd_T81 B l).f0).size : Int) 1 8 false _ a5.out) ?_; rintro w' ⟨nd, rfl⟩; refine hK.out _ _ D3x5_ (fun z => nm_ ?_); clear hK K; refine pu_ 4 21 j ?_; refine pu_ 5 22 j ?_; refine of_ 6 23 j ?_; refine of_ 7 24 j ?_; refine of_ 8 25 j ?_; refine of_ 9 26 j ?_; refine of_ 10 27 j ?_; refine of_ 11 28 j ?_; refine of_ 12 29 j ?_; refine of_ 13 30 j ?_; refine of_ 14 31 j ?_; refine of_ 15 32 j ?_; refine of_ 16 33 j ?_; refine of_ 17 34 j ?_; refine of_ 18 35 j ?_; refine of_ 19 36 j ?_; refine pu_ 20 37 j ?_; refine pu_ 21 38 j ?_; refine of_ 22 39 j ?_; refine of_ 23 40 j ?_; refine of_ 24 41 j ?_; refine of_ 25 42 j ?_; refine pu_ 26 43 j ?_; refine pu_ 27 44 j ?_; refine of_ 28 45 j ?_; refine of_ 29 46 j ?_; refine of_ 30 47 j ?_; refine of_ 31 48 j ?_; refine pu_ 32 49 j ?_; refine done_ (done_of j.out gk_) ?_
    try go_wp2
    go_meet
    case rel => exact ⟨_, true, be_, ao, D3x4_⟩
   clear ah
   try clear c4
   obtain ⟨kq, b2, rfl, aM, cc, U, D, HB⟩ := hcut
   cases kq with
   | zero => exact absurd aM.out (by simp [spec_KeepOk.j1])
   | succ cL => ?_
   replace aM := aM.out; simp only [spec_KeepOk.j1] at aM
   obtain ⟨rfl, aI⟩ | ⟨rfl, aI⟩ := sb aM
   ·obtain rfl := Option.some.inj aI; clear aI aM
    go_wp2
    go_ret; exact ⟨B9x8_, (Ae2 HB aw aK)⟩
   replace aI := am aI; clear aM
   go_wp2
   go_roundg cL
   case measure => have := a9.out; have := cc.out; omega
   case rel => exact ⟨(wrap64 (l + 1)), be_, aI, ⟨(by have := a9.out; have := cc.out; omega)⟩, Cb U, Ce2 HB aw aK⟩
  obtain ⟨cp, b8, aU⟩ := bsi aV; (try dsimp only at aU)
  obtain ⟨rfl, aS⟩ | ⟨rfl, aS⟩ := sb aU
  ·obtain rfl := Option.some.inj aS; clear aS aE aV aU; obtain ⟨b4, b5, b6, b7⟩ := cf2 U
   go_wp2_with (first | ((with_reducible refine gate_callee (f := 70) rfl ?_); refine gM (some 52) Try.func70 (spec_l15Sessions.calls k1 _ _ ar true _ (tc (Kd.C_below cd.out HB.out)) b9.out b8.out) ?_; rintro cQ hb; replace U := bA U hb; replace HB := De1 HB aw hb; obtain ⟨b4, b5, b6, b7⟩ := cf2 U))
   go_ret; exact ⟨B9x8_, (Ae1 HB aw)⟩
  obtain rfl := Option.some.inj aS; clear aS aE aV aU; obtain ⟨b4, b5, b6, b7⟩ := cf2 U
  go_wp2_with (first | ((with_reducible refine gate_callee (f := 70) rfl ?_); refine gM (some 52) Try.func70 (spec_l15Sessions.calls k1 _ _ ar false _ (tc (Kd.C_below cd.out HB.out)) b9.out b8.out) ?_; rintro bN hb; replace HB := De1 HB aw hb))
  go_ret; exact ⟨B9x8_, (Ae1 HB aw)⟩
end
end Go.Proofs.Ytgffdijodnpolaa.QFnKeepTexts
