/- Functions that a law reaches, as functions of Lean, and the walks that show that the calls come to their answers: written by a program of this project out of the translation. No condition. -/
import Derived.Test.YtjijbffecppeiaaQFnExactKeepTextx0
import Derived.Test.YtjijbffecppeiaaShort2
import Derived.Test.YtjijbffecppeiaaShort
namespace Go.Proofs.Ytjijbffecppeiaa.QFnExactKeepText
open Go.RowKit Go.Proofs.YtjijbffecppeiaaW.PrintWords Go.Proofs.YtjijbffecppeiaaW.PrintLast Go.Proofs.YtjijbffecppeiaaW.PrintMore Go.Proofs.Ytjijbffecppeiaa.Short
attribute [local go_sem] max2_int min2_int max_two min_two max_three min_three max_four min_four   -- for this text's walks alone
set_option linter.unusedVariables false
set_option linter.unusedSimpArgs false

/-! ### laws_szSession: function 151 -/
def laws_szSession.f (a0_0 : Int) (a0_1 : Int) (a0_2 : ByteArray) (a1 : Int) : Option (Int) := if (wrap64 (a1 - (a0_2.size : Int))) < 0 then (some (-1)) else (some (wrap64 (a1 - (a0_2.size : Int))))
set_option hygiene false
local macro:max "G0_" : tactic => `(tactic| (first | (with_reducible first | exact HB.out | apply below_alloc | apply pw_below_drewN | apply below_drew1) | exact HB.out))
local macro:max "G1_" : tactic => `(tactic| (with_reducible repeat (first | refine blk_drewN ?_ _ | refine blk_drew ?_ | refine blk_alloc ?_ _)))
local macro:max "G2_" : term => `((by repeat (first | (with_reducible first | exact HB.out | apply below_alloc | apply pw_below_drewN | apply below_drew1 | refine below_set ?_ GE141.out) | exact HB.out)))
local macro:max "G3_" : term => `((by (try simp only [List.map_toArray, List.map_cons, List.map_nil]); first | done | rfl | (simp only [List.length_drop, List.length_take]; rfl)))
local macro:max "G4_" : tactic => `(tactic| (case hr => first | (go_simp; done) | (go_simp; rfl)))
local macro:max "G5_" : term => `((by first | (with_reducible assumption) | assumption))
local macro:max "G6_" : tactic => `(tactic| (first | (with_reducible first | exact HB.out | apply below_alloc | apply pw_below_drewN | apply below_drew1 | refine below_set ?_ GE132.out | refine below_set ?_ GE133.out | refine below_set ?_ GE134.out) | exact HB.out))
local macro:max "G7_" : term => `(#[.int .i64 a0_0, .int .i64 a0_1, .string a0_2])
local macro:max "G8_" : tactic => `(tactic| (with_reducible repeat (first | apply Kd.R_alloc | apply Kd.R_drewN | apply Kd.R_drew)))
local macro:max "G9_" : term => `(#[.slice A0_0 l0_0.length c0_0, .slice A0_1 l0_1.length c0_1])
local macro:max "G10_" : tactic => `(tactic| (first | (with_reducible first | exact HB.out | apply below_alloc | apply pw_below_drewN | apply below_drew1 | refine below_set ?_ GE107.out) | exact HB.out))
local macro:max "G11_" : term => `((below_size (by repeat G0_)))
local macro:max "G12_" : tactic => `(tactic| (with_reducible refine gate_dst (N := 2) rfl ?_))
local macro:max "G13_" : term => `((below_step (by repeat G0_) hb))
local macro:max "G14_" : tactic => `(tactic| (case side1 => repeat (first | exact (Kd.C_below HR0_0.out HB.out) | (with_reducible refine Kd.C_alloc ?_ _) | (with_reducible refine Kd.C_drewN ?_ _) | (with_reducible refine Kd.C_drew ?_))))
local macro:max "G15_" : term => `((blk_lt (g := gb141) (o := .cells G7_ 119 (0, 0)) (by G1_; exact BK141.out)))
local macro:max "G16_" : term => `((by have h_ : (x4_1 : Int) < ((x3_1.length : Int) : Int) := of_decide_eq_true G5_; first | exact h_ | (have e_ := (Kd.R_reads' HO_3.out).1; omega) | simpa using h_))
local macro:max "G17_" : term => `(#[.string a0_0, .string a0_1, .int .i64 a0_2])
local macro:max "G18_" : term => `((by repeat (first | (with_reducible first | exact HB.out | apply below_alloc | apply pw_below_drewN | apply below_drew1 | refine below_set ?_ GE110.out | refine below_set ?_ GE111.out) | exact HB.out)))
local macro:max "G19_" : term => `((by repeat (first | (with_reducible first | exact HB.out | apply below_alloc | apply pw_below_drewN | apply below_drew1 | refine below_set ?_ GE121.out | refine below_set ?_ GE122.out) | exact HB.out)))
local macro:max "G20_" : term => `((by repeat (first | (with_reducible first | exact HB.out | apply below_alloc | apply pw_below_drewN | apply below_drew1 | refine below_set ?_ GE132.out | refine below_set ?_ GE133.out) | exact HB.out)))
local macro:max "G21_" : term => `((by rw [hg]; exact (below_size G2_) : w.heap.size ≤ gb142))
local macro:max "G22_" : term => `(#[.string (⟨#[]⟩ : ByteArray), .string (⟨#[]⟩ : ByteArray), .int .i64 0])
local macro:max "G23_" : term => `((by repeat (first | (with_reducible first | exact HB.out | apply below_alloc | apply pw_below_drewN | apply below_drew1 | refine below_set ?_ GE110.out) | exact HB.out)))
local macro:max "G24_" : term => `((by repeat (first | (with_reducible first | exact HB.out | apply below_alloc | apply pw_below_drewN | apply below_drew1 | refine below_set ?_ GE121.out) | exact HB.out)))
local macro:max "G25_" : term => `((by repeat (first | (with_reducible first | exact HB.out | apply below_alloc | apply pw_below_drewN | apply below_drew1 | refine below_set ?_ GE132.out) | exact HB.out)))
local macro:max "G26_" : term => `((blk_below (g := gb107) (o := .cells G9_ 36 (0, 0)) (by G1_; exact BK107.out) hb))
local macro:max "G27_" : term => `((by rw [hg]; exact G11_ : w.heap.size ≤ gb141))
local macro:max "G28_" : term => `(#[.int .i64 0, .int .i64 0, .string (⟨#[]⟩ : ByteArray)])
local macro:max "G29_" : term => `(#[.slice none 0 0, .slice none 0 0])
local macro:max "G30_" : tactic => `(tactic| (with_reducible refine gate_dst (N := 3) rfl ?_))
local macro:max "G31_" : term => `((blk_below (g := gb141) (o := .cells G7_ 119 (0, 0)) (by G1_; exact BK141.out) hb))
local macro:max "G32_" : term => `((by rw [hg]; exact G11_ : w.heap.size ≤ gb104))
local macro:max "G33_" : term => `((by rw [hg]; exact G11_ : w.heap.size ≤ gb107))
local macro:max "G34_" : term => `((blk_lt (g := gb110) (o := .cells G7_ 174 (0, 0)) (by G1_; exact BK110.out)))
local macro:max "G35_" : term => `((blk_lt (g := gb132) (o := .cells G9_ 36 (0, 0)) (by G1_; exact BK132.out)))
local macro:max "G36_" : tactic => `(tactic| (have H2_ := (Option.bind_some _ _).symm.trans H; with_reducible exact H2_))
local macro:max "G37_" : tactic => `(tactic| (case side1 => repeat (first | exact (Kd.C_below HR0_1.out HB.out) | (with_reducible refine Kd.C_alloc ?_ _) | (with_reducible refine Kd.C_drewN ?_ _) | (with_reducible refine Kd.C_drew ?_))))
local macro:max "G38_" : tactic => `(tactic| (with_reducible refine (laws_szSessionS.calls k _ _ l0_0 a1 t108 _ ?side1 ?side2 A3.out).mono ?_))
local macro:max "G39_" : term => `((blk_lt (g := gb121) (o := .cells G17_ 176 (0, 0)) (by G1_; exact BK121.out)))
local macro:max "G40_" : term => `((blk_below (g := gb132) (o := .cells G9_ 36 (0, 0)) (by G1_; exact BK132.out) hb))
local macro:max "G41_" : term => `((.slice A0_0 l0_0.length c0_0))
local macro:max "G42_" : term => `((.slice A0_1 l0_1.length c0_1))
local macro:max "G43_" : term => `((by rw [hg]; exact Nat.ne_of_gt G15_ : gb142 ≠ gb141))
local macro:max "G44_" : term => `((by rw [hg]; exact Nat.ne_of_lt G15_ : gb141 ≠ gb142))
local macro:max "G45_" : term => `((.slice (some ⟨go10, 0, none⟩) x3_1.length co10))
local macro:max "G46_" : tactic => `(tactic| (with_reducible refine (laws_szSession.calls ((rd_T174 l0 x5_1).f0) ((rd_T174 l0 x5_1).f1) ((rd_T174 l0 x5_1).f2) x1_1 t103 _ A6.out).mono ?_))
local macro:max "G47_" : tactic => `(tactic| (with_reducible refine (laws_szItem.calls ((rd_T176 l0 x5_1).f0) ((rd_T176 l0 x5_1).f1) ((rd_T176 l0 x5_1).f2) x1_1 t106 _ A6.out).mono ?_))
local macro:max "G48_" : tactic => `(tactic| (first | cases eo10 | (injection eo10 with ea_ en_ ec_; (first | subst ea_ | (injection ea_ with ea_; subst ea_)); subst ec_; clear en_)))
local macro:max "G49_" : term => `((by rw [hg]; exact G11_ : w.heap.size ≤ gb101))
local macro:max "G50_" : term => `(#[.int .i64 a1_0, .int .i64 a1_1, .string a1_2])
local macro:max "G51_" : term => `(#[.agg #[.int .i64 ((rd_T174 l0 x5_1).f0), .int .i64 ((rd_T174 l0 x5_1).f1), .string ((rd_T174 l0 x5_1).f2)], .int .i64 x1_1])
local macro:max "G52_" : term => `(#[.agg #[.string ((rd_T176 l0 x5_1).f0), .string ((rd_T176 l0 x5_1).f1), .int .i64 ((rd_T176 l0 x5_1).f2)], .int .i64 x1_1])
local macro:max "G53_" : term => `((by rw [hw]; exact below_set (below_set (below_set (HB.out) GB10.out) GB10.out) GB10.out : Below w.heap.size w w13))
local macro:max "G54_" : term => `((below_step (by repeat G10_) hb))
local macro:max "G55_" : tactic => `(tactic| (with_reducible refine gate_callee (f := 87) rfl ?_))
local macro:max "G56_" : tactic => `(tactic| (with_reducible refine (laws_szItemS.calls k _ _ l0_1 t108 t109 _ ?side1 ?side2 A8.out).mono ?_))
local macro:max "G57_" : term => `((of_decide_eq_true G5_))
local macro:max "G58_" : tactic => `(tactic| (with_reducible refine gate_dst (N := 1) rfl ?_))
local macro:max "G59_" : term => `(#[.slice A0_0 l0_0.length c0_0, .int .i64 a1])
local macro:max "G60_" : term => `((blk_below (g := gb121) (o := .cells G17_ 176 (0, 0)) (by G1_; exact BK121.out) hb))
local macro:max "G61_" : tactic => `(tactic| (case side2 => exact HC0_0.out))
local macro:max "G62_" : term => `(⟨by have := HK1.out; omega⟩)
local macro:max "G63_" : term => `((blk_below (g := gb110) (o := .cells G7_ 174 (0, 0)) (by G1_; exact BK110.out) hb))
local macro:max "G64_" : term => `((blk_below (g := gb133) (o := .cells G29_ 42 (0, 0)) (by G1_; exact BK133.out) hb))
local macro:max "G65_" : term => `((.slice Ao11 t135.length co11))
local macro:max "G66_" : term => `((.slice Ao16 t138.length co16))
local macro:max "G67_" : term => `((blk_lt (g := gb111) (o := .cells G28_ 119 (0, 0)) (by G1_; exact BK111.out)))
local macro:max "G68_" : term => `((blk_lt (g := gb122) (o := .cells G22_ 121 (0, 0)) (by G1_; exact BK122.out)))
local macro:max "G69_" : term => `((blk_lt (g := gb133) (o := .cells G29_ 42 (0, 0)) (by G1_; exact BK133.out)))
local macro:max "G70_" : term => `((blk_cell BK107.out 0))
local macro:max "G71_" : term => `((blk_cell BK107.out 1))
local macro "J0_" : tactic => `(tactic| ((go_ret); (exact ⟨by first | rfl | (simp [errW_none, errW_some] <;> rfl) | (simp [*, errW_none, errW_some] <;> rfl), by repeat G0_⟩)))
local macro "J1_" : tactic => `(tactic| ((go_ret); (exact ⟨by first | rfl | (simp [errW_none, errW_some] <;> rfl) | (simp [*, errW_none, errW_some] <;> rfl), by repeat (first | (with_reducible first | exact HB.out | apply below_alloc | apply pw_below_drewN | apply below_drew1 | refine below_set ?_ GE141.out | refine below_set ?_ GE142.out) | exact HB.out)⟩)))
local macro "J2_" : tactic => `(tactic| ((have p102 : 0 ≤ (x5_1 : Int) := of_decide_eq_true G5_); (have q102 : x5_1 < (l0.length : Int) := of_decide_eq_true G5_); (obtain ⟨ad102, e102, hx102_0, hx102_1, hx102_2⟩ := at_T174 HR0.out x5_1 p102 q102); (cases e102); (replace hx102_0 := (HB.out.cell (World.block_lt_of_cell? w _ hx102_0)).trans hx102_0); (replace hx102_1 := (HB.out.cell (World.block_lt_of_cell? w _ hx102_1)).trans hx102_1); (replace hx102_2 := (HB.out.cell (World.block_lt_of_cell? w _ hx102_2)).trans hx102_2); (replace p102 := eq_true p102); (replace q102 := eq_true q102)))
local macro "J3_" : tactic => `(tactic| ((have p105 : 0 ≤ (x5_1 : Int) := of_decide_eq_true G5_); (have q105 : x5_1 < (l0.length : Int) := of_decide_eq_true G5_); (obtain ⟨ad105, e105, hx105_0, hx105_1, hx105_2⟩ := at_T176 HR0.out x5_1 p105 q105); (cases e105); (replace hx105_0 := (HB.out.cell (World.block_lt_of_cell? w _ hx105_0)).trans hx105_0); (replace hx105_1 := (HB.out.cell (World.block_lt_of_cell? w _ hx105_1)).trans hx105_1); (replace hx105_2 := (HB.out.cell (World.block_lt_of_cell? w _ hx105_2)).trans hx105_2); (replace p105 := eq_true p105); (replace q105 := eq_true q105)))
local macro "J4_" : tactic => `(tactic| ((go_ret); (exact ⟨by first | rfl | (simp [errW_none, errW_some] <;> rfl) | (simp [*, errW_none, errW_some] <;> rfl), by repeat (first | (with_reducible first | exact HB.out | apply below_alloc | apply pw_below_drewN | apply below_drew1 | refine below_set ?_ GE104.out) | exact HB.out)⟩)))
local macro "J5_" : tactic => `(tactic| ((go_ret); (exact ⟨by first | rfl | (simp [errW_none, errW_some] <;> rfl) | (simp [*, errW_none, errW_some] <;> rfl), by repeat G10_⟩)))
local macro "J6_" : tactic => `(tactic| ((obtain rfl := Option.some.inj H)))
local macro "J7_" : tactic => `(tactic| ((have HB := Aside0.mk (Below.refl w.heap.size w))))
local macro "J8_" : tactic => `(tactic| ((go_wp2); (go_ret); (exact ⟨_, by first | rfl | (simp [errW_none, errW_some] <;> rfl) | (simp [*, errW_none, errW_some] <;> rfl), by G8_; exact HO_3.out, by repeat G0_⟩)))
local macro "J9_" : tactic => `(tactic| ((go_ret); (exact ⟨by first | rfl | (simp [errW_none, errW_some] <;> rfl) | (simp [*, errW_none, errW_some] <;> rfl), by repeat (first | (with_reducible first | exact HB.out | apply below_alloc | apply pw_below_drewN | apply below_drew1 | refine below_set ?_ GE101.out) | exact HB.out)⟩)))
local macro "J10_" : tactic => `(tactic| ((replace H := Option.bind_eq_some_iff.mp H)))
local macro "J11_" : tactic => `(tactic| ((case atStart => exact ⟨(wrap64 (a1 - (l0.length : Int))), (0), (by be_), (by be_), H', ⟨Nat.le_refl _⟩, ⟨by repeat G0_⟩⟩)))
local macro "J12_" : tactic => `(tactic| ((have H' := Aside0.mk H); (clear H)))
local macro "J13_" : tactic => `(tactic| ((have HR0 := Aside0.mk hr0); (have HC0 := Aside0.mk hc0); (clear hr0 hc0)))
local macro "J14_" : tactic => `(tactic| ((exact absurd H (by simp))))
local macro "J15_" : tactic => `(tactic| ((clear H'); (try clear c2); (try clear c2b0); (try clear c2b1); (try clear p2); (try clear c3); (try clear c3b0); (try clear c3b1); (obtain ⟨x3_1, x4_1, rfl, HA, HK1, HO_3, HB⟩ := hrel)))
local macro "J16_" : tactic => `(tactic| ((have HR0_0 := Aside0.mk hr0_0); (have HC0_0 := Aside0.mk hc0_0); (clear hr0_0 hc0_0); (have HR0_1 := Aside0.mk hr0_1); (have HC0_1 := Aside0.mk hc0_1); (clear hr0_1 hc0_1)))
local macro "J17_" : tactic => `(tactic| ((have H : (some (a0_0, a0_1, a0_2)) = some (r1, r2, r3) := h); (clear h); (simp only [Option.some.injEq, Prod.mk.injEq] at H); (obtain ⟨rfl, rfl, rfl⟩ := H)))
local macro "J18_" : tactic => `(tactic| ((go_roundg k1); (case measure => have := HK1.out; omega)))
local macro "J19_" : tactic => `(tactic| ((try dsimp only at H)))
local macro "J20_" : tactic => `(tactic| ((clear H'); (try clear p2); (try clear c3); (try clear c3b0); (obtain ⟨x1_1, x5_1, rfl, rfl, HA, HK1, HB⟩ := hrel)))
local macro "J21_" : tactic => `(tactic| ((have c2b0 := eq_true c2); (have c2b1 : decide (0 ≤ (l0.length : Int)) = true := decide_eq_true c2); (clear c2)))
local macro "J22_" : tactic => `(tactic| ((have c3b0 : decide ((wrap64 (a1 - (l0.length : Int))) < 0) = false := decide_eq_false c3); (clear c3)))
local macro "J23_" : tactic => `(tactic| ((have c3b0 : decide ((wrap64 (a1 - (l0.length : Int))) < 0) = true := decide_eq_true c3); (clear c3)))
local macro "J24_" : tactic => `(tactic| ((have hu174 := Try.underlying174)))
local macro "J25_" : tactic => `(tactic| ((have hu176 := Try.underlying176)))
local macro "J26_" : tactic => `(tactic| ((have c4b0 : decide (x5_1 < (l0.length : Int)) = false := decide_eq_false c4); (clear c4)))
local macro "J27_" : tactic => `(tactic| ((have c6b0 : decide (x4_1 < (l0.length : Int)) = false := decide_eq_false c6); (clear c6)))
local macro "J28_" : tactic => `(tactic| ((have c9b0 : decide (x4_1 < (x3_1.length : Int)) = true := decide_eq_true c9); (clear c9)))
local macro "J29_" : tactic => `(tactic| ((have c4b0 : decide (x5_1 < (l0.length : Int)) = true := decide_eq_true c4); (clear c4)))
local macro "J30_" : tactic => `(tactic| ((have c6b0 : decide (x4_1 < (l0.length : Int)) = true := decide_eq_true c6); (clear c6)))
local macro "J31_" : tactic => `(tactic| ((have H := HA.out); (clear HA)))
local macro "J32_" : tactic => `(tactic| ((have c5b0 : decide (0 ≤ x5_1) = true := decide_eq_true c5); (clear c5)))
local macro "J33_" : tactic => `(tactic| ((have c7b0 : decide (0 ≤ x4_1) = true := decide_eq_true c7); (clear c7)))
local macro "J34_" : tactic => `(tactic| ((have A8 := Aside0.mk A80); (clear A80)))
set_option hygiene true
set_option maxHeartbeats 8000000 in
set_option maxRecDepth 100000 in
theorem laws_szSession.calls (a0_0 : Int) (a0_1 : Int) (a0_2 : ByteArray) (a1 : Int) (r : Int) (w : World) (h : laws_szSession.f a0_0 a0_1 a0_2 a1 = some r) :
  Calls Try.prog 151 #[.agg #[.int .i64 a0_0, .int .i64 a0_1, .string a0_2], .int .i64 a1] w fun e w' => e = .returned (.int .i64 r) ∧ Below w.heap.size w w' := by
 J24_
 J7_
 have H : (if (wrap64 (a1 - (a0_2.size : Int))) < 0 then (some (-1)) else (some (wrap64 (a1 - (a0_2.size : Int))))) = some r := h
 clear h
 by_cases c3 : (wrap64 (a1 - (a0_2.size : Int))) < 0
 ·rw [if_pos c3] at H
  have c3b0 : decide ((wrap64 (a1 - (a0_2.size : Int))) < 0) = true := decide_eq_true c3
  clear c3
  J6_
  go_enter Try.func151, Try.ntmps151
  go_wp2_with (first | (G12_; refine box_event ?hg (N := 2) ?hd (cs := G7_) (t := 174) ?hr ?_; (case hd => rfl); (case hg => rfl); G4_; intro gb101 hg w4 hbox hb; have n0_ := Aside0.mk G13_; have n1_ := Aside0.mk (hbox); have n2_ := Aside0.mk (G49_); have n3_ := Aside0.mk (G49_); clear HB; have HB := n0_; have BK101 := n1_; have GW101 := n2_; have GE101 := n3_; clear n0_ n1_ n2_ n3_; clear hb hbox hg; have hcz5_0 : w4.cell? ⟨gb101, 0, none⟩ = some (.int .i64 a0_0) := (blk_cell BK101.out 0).trans rfl; have hcz5_1 : w4.cell? ⟨gb101, 1, none⟩ = some (.int .i64 a0_1) := (blk_cell BK101.out 1).trans rfl; have hcz5_2 : w4.cell? ⟨gb101, 2, none⟩ = some (.string a0_2) := (blk_cell BK101.out 2).trans rfl; have hfz5_0 := blk_frozen BK101.out 0; have hfz5_1 := blk_frozen BK101.out 1; have hfz5_2 := blk_frozen BK101.out 2))
  J9_
 ·rw [if_neg c3] at H
  have c3b0 : decide ((wrap64 (a1 - (a0_2.size : Int))) < 0) = false := decide_eq_false c3
  clear c3
  J6_
  go_enter Try.func151, Try.ntmps151
  go_wp2_with (first | (G12_; refine box_event ?hg (N := 2) ?hd (cs := G7_) (t := 174) ?hr ?_; (case hd => rfl); (case hg => rfl); G4_; intro gb101 hg w6 hbox hb; have n0_ := Aside0.mk G13_; have n1_ := Aside0.mk (hbox); have n2_ := Aside0.mk (G49_); have n3_ := Aside0.mk (G49_); clear HB; have HB := n0_; have BK101 := n1_; have GW101 := n2_; have GE101 := n3_; clear n0_ n1_ n2_ n3_; clear hb hbox hg; have hcz7_0 : w6.cell? ⟨gb101, 0, none⟩ = some (.int .i64 a0_0) := (blk_cell BK101.out 0).trans rfl; have hcz7_1 : w6.cell? ⟨gb101, 1, none⟩ = some (.int .i64 a0_1) := (blk_cell BK101.out 1).trans rfl; have hcz7_2 : w6.cell? ⟨gb101, 2, none⟩ = some (.string a0_2) := (blk_cell BK101.out 2).trans rfl; have hfz7_0 := blk_frozen BK101.out 0; have hfz7_1 := blk_frozen BK101.out 1; have hfz7_2 := blk_frozen BK101.out 2))
  J9_

/-! ### laws_szSessionS: function 87 -/
def laws_szSessionS.l0 : Nat → List (S174) → Int → Int → Option (Int)
 | 0, _, _, _ => none
 | k + 1, x0, x1, x5 => if x5 < (x0.length : Int) then (if 0 ≤ x5 then ((laws_szSession.f ((rd_T174 x0 x5).f0) ((rd_T174 x0 x5).f1) ((rd_T174 x0 x5).f2) x1).bind fun t103 => (if t103 < 0 then (some (-1)) else (laws_szSessionS.l0 k x0 t103 (wrap64 (x5 + 1))))) else (none)) else (some x1)
def laws_szSessionS.f (k : Nat) (l0 : List (S174)) (a1 : Int) : Option (Int) := if (wrap64 (a1 - (l0.length : Int))) < 0 then (some (-1)) else (laws_szSessionS.l0 k l0 (wrap64 (a1 - (l0.length : Int))) 0)
theorem laws_szSessionS.mono_l : ∀ k, (∀ y0 y1 y2, LeO (laws_szSessionS.l0 k y0 y1 y2) (laws_szSessionS.l0 (k + 1) y0 y1 y2))
 | 0 => fun _ _ _ r h => by simp [laws_szSessionS.l0] at h
 | k + 1 => by
  have ih0 := laws_szSessionS.mono_l k
  ·intro y0 y1 y2
   unfold laws_szSessionS.l0
   repeat' first
   | (with_reducible exact ih0 _ _ _)
   | (with_reducible exact LeO.refl _)
   | (with_reducible exact LeO.none _)
   | (with_reducible refine LeO.ite ?_ ?_)
   | (with_reducible refine LeO.bind ?_ (fun _ => ?_))
   | exact ih0 _ _ _
   | exact LeO.none _
   | refine LeO.ite ?_ ?_
   | refine LeO.bind ?_ (fun _ => ?_)
theorem laws_szSessionS.mono : ∀ a0 a1 k, LeO (laws_szSessionS.f k a0 a1) (laws_szSessionS.f (k + 1) a0 a1) := by
 intro a0 a1 k
 have ih0 := laws_szSessionS.mono_l k
 unfold laws_szSessionS.f
 repeat' first
   | (with_reducible exact ih0 _ _ _)
   | (with_reducible exact LeO.refl _)
   | (with_reducible exact LeO.none _)
   | (with_reducible refine LeO.ite ?_ ?_)
   | (with_reducible refine LeO.bind ?_ (fun _ => ?_))
   | exact ih0 _ _ _
   | exact LeO.none _
   | refine LeO.ite ?_ ?_
   | refine LeO.bind ?_ (fun _ => ?_)
set_option maxHeartbeats 8000000 in
set_option maxRecDepth 100000 in
theorem laws_szSessionS.calls (k : Nat) (A0 : Option Addr) (c0 : Nat) (l0 : List (S174)) (a1 : Int) (r : Int) (w : World) (hr0 : Kd.C k174 w A0 l0.length l0) (hc0 : l0.length ≤ c0) (h : laws_szSessionS.f k l0 a1 = some r) :
  Calls Try.prog 87 #[.slice A0 l0.length c0, .int .i64 a1] w fun e w' => e = .returned (.int .i64 r) ∧ Below w.heap.size w w' := by
 J24_
 J13_
 J7_
 have H : (if (wrap64 (a1 - (l0.length : Int))) < 0 then (some (-1)) else (laws_szSessionS.l0 k l0 (wrap64 (a1 - (l0.length : Int))) 0)) = some r := h
 clear h
 by_cases c3 : (wrap64 (a1 - (l0.length : Int))) < 0
 ·rw [if_pos c3] at H
  J23_
  J6_
  go_enter Try.func87, Try.ntmps87
  go_wp2
  J0_
 ·rw [if_neg c3] at H
  J22_
  J12_
  go_enter Try.func87, Try.ntmps87
  go_wp2
  go_loopg [1, 5] k (fun kq v1 v5 w' => ∃ (x1_1 : Int) (x5_1 : Int), v1 = .int .i64 x1_1 ∧ v5 = .int .i64 x5_1 ∧ Aside0 (laws_szSessionS.l0 kq l0 x1_1 x5_1 = some r) ∧ Aside0 (kq ≤ k) ∧ Aside0 (Below w.heap.size w w'))
  J11_
  case round =>
   J20_
   cases gk with
   | zero => exact absurd HA.out (by simp [laws_szSessionS.l0])
   | succ k1 =>
    J31_
    simp only [laws_szSessionS.l0] at H
    by_cases c4 : x5_1 < (l0.length : Int)
    ·rw [if_pos c4] at H
     J29_
     by_cases c5 : 0 ≤ x5_1
     ·rw [if_pos c5] at H
      J32_
      J10_
      obtain ⟨t103, A60, H⟩ := H
      J19_
      have A6 := Aside0.mk A60
      clear A60
      by_cases c7 : t103 < 0
      ·rw [if_pos c7] at H
       have c7b0 : decide (t103 < 0) = true := decide_eq_true c7
       clear c7
       J6_
       J2_
       go_wp2_with (first | ((with_reducible refine gate_callee (f := 151) rfl ?_); refine goesL_ (some 23) rfl rfl Try.func151 (by kernel_rfl) rfl G51_ rfl G3_ ?_; G46_; rintro e w8 ⟨rfl, hb⟩; refine ⟨_, rfl, ?_⟩; have n0_ := Aside0.mk G13_; clear HB; have HB := n0_; clear n0_; (try clear hb); (try clear hb2); (try clear hk); (try clear hi)))
       J0_
      ·rw [if_neg c7] at H
       have c7b0 : decide (t103 < 0) = false := decide_eq_false c7
       clear c7
       J12_
       J2_
       go_wp2_with (first | ((with_reducible refine gate_callee (f := 151) rfl ?_); refine goesL_ (some 23) rfl rfl Try.func151 (by kernel_rfl) rfl G51_ rfl G3_ ?_; G46_; rintro e w9 ⟨rfl, hb⟩; refine ⟨_, rfl, ?_⟩; have n0_ := Aside0.mk G13_; clear HB; have HB := n0_; clear n0_; (try clear hb); (try clear hb2); (try clear hk); (try clear hi)))
       J18_
       case rel => exact ⟨(t103), (wrap64 (x5_1 + 1)), (by be_), (by be_), H', G62_, ⟨by repeat G0_⟩⟩
     ·rw [if_neg c5] at H
      J14_
    ·rw [if_neg c4] at H
     J26_
     J6_
     go_wp2
     J0_

/-! ### laws_szItem: function 152 -/
def laws_szItem.f (a0_0 : ByteArray) (a0_1 : ByteArray) (a0_2 : Int) (a1 : Int) : Option (Int) := if (wrap64 (a1 - (a0_0.size : Int))) < 0 then (some (-1)) else (if (wrap64 ((wrap64 (a1 - (a0_0.size : Int))) - (a0_1.size : Int))) < 0 then (some (-1)) else (some (wrap64 ((wrap64 (a1 - (a0_0.size : Int))) - (a0_1.size : Int)))))
set_option maxHeartbeats 8000000 in
set_option maxRecDepth 100000 in
theorem laws_szItem.calls (a0_0 : ByteArray) (a0_1 : ByteArray) (a0_2 : Int) (a1 : Int) (r : Int) (w : World) (h : laws_szItem.f a0_0 a0_1 a0_2 a1 = some r) :
  Calls Try.prog 152 #[.agg #[.string a0_0, .string a0_1, .int .i64 a0_2], .int .i64 a1] w fun e w' => e = .returned (.int .i64 r) ∧ Below w.heap.size w w' := by
 J25_
 J7_
 have H : (if (wrap64 (a1 - (a0_0.size : Int))) < 0 then (some (-1)) else (if (wrap64 ((wrap64 (a1 - (a0_0.size : Int))) - (a0_1.size : Int))) < 0 then (some (-1)) else (some (wrap64 ((wrap64 (a1 - (a0_0.size : Int))) - (a0_1.size : Int)))))) = some r := h
 clear h
 by_cases c3 : (wrap64 (a1 - (a0_0.size : Int))) < 0
 ·rw [if_pos c3] at H
  have c3b0 : decide ((wrap64 (a1 - (a0_0.size : Int))) < 0) = true := decide_eq_true c3
  clear c3
  J6_
  go_enter Try.func152, Try.ntmps152
  go_wp2_with (first | (G12_; refine box_event ?hg (N := 2) ?hd (cs := G17_) (t := 176) ?hr ?_; (case hd => rfl); (case hg => rfl); G4_; intro gb104 hg w4 hbox hb; have n0_ := Aside0.mk G13_; have n1_ := Aside0.mk (hbox); have n2_ := Aside0.mk (G32_); have n3_ := Aside0.mk (G32_); clear HB; have HB := n0_; have BK104 := n1_; have GW104 := n2_; have GE104 := n3_; clear n0_ n1_ n2_ n3_; clear hb hbox hg; have hcz5_0 : w4.cell? ⟨gb104, 0, none⟩ = some (.string a0_0) := (blk_cell BK104.out 0).trans rfl; have hcz5_1 : w4.cell? ⟨gb104, 1, none⟩ = some (.string a0_1) := (blk_cell BK104.out 1).trans rfl; have hcz5_2 : w4.cell? ⟨gb104, 2, none⟩ = some (.int .i64 a0_2) := (blk_cell BK104.out 2).trans rfl; have hfz5_0 := blk_frozen BK104.out 0; have hfz5_1 := blk_frozen BK104.out 1; have hfz5_2 := blk_frozen BK104.out 2))
  J4_
 ·rw [if_neg c3] at H
  have c3b0 : decide ((wrap64 (a1 - (a0_0.size : Int))) < 0) = false := decide_eq_false c3
  clear c3
  by_cases c6 : (wrap64 ((wrap64 (a1 - (a0_0.size : Int))) - (a0_1.size : Int))) < 0
  ·rw [if_pos c6] at H
   have c6b0 : decide ((wrap64 ((wrap64 (a1 - (a0_0.size : Int))) - (a0_1.size : Int))) < 0) = true := decide_eq_true c6
   clear c6
   J6_
   go_enter Try.func152, Try.ntmps152
   go_wp2_with (first | (G12_; refine box_event ?hg (N := 2) ?hd (cs := G17_) (t := 176) ?hr ?_; (case hd => rfl); (case hg => rfl); G4_; intro gb104 hg w7 hbox hb; have n0_ := Aside0.mk G13_; have n1_ := Aside0.mk (hbox); have n2_ := Aside0.mk (G32_); have n3_ := Aside0.mk (G32_); clear HB; have HB := n0_; have BK104 := n1_; have GW104 := n2_; have GE104 := n3_; clear n0_ n1_ n2_ n3_; clear hb hbox hg; have hcz8_0 : w7.cell? ⟨gb104, 0, none⟩ = some (.string a0_0) := (blk_cell BK104.out 0).trans rfl; have hcz8_1 : w7.cell? ⟨gb104, 1, none⟩ = some (.string a0_1) := (blk_cell BK104.out 1).trans rfl; have hcz8_2 : w7.cell? ⟨gb104, 2, none⟩ = some (.int .i64 a0_2) := (blk_cell BK104.out 2).trans rfl; have hfz8_0 := blk_frozen BK104.out 0; have hfz8_1 := blk_frozen BK104.out 1; have hfz8_2 := blk_frozen BK104.out 2))
   J4_
  ·rw [if_neg c6] at H
   have c6b0 : decide ((wrap64 ((wrap64 (a1 - (a0_0.size : Int))) - (a0_1.size : Int))) < 0) = false := decide_eq_false c6
   clear c6
   J6_
   go_enter Try.func152, Try.ntmps152
   go_wp2_with (first | (G12_; refine box_event ?hg (N := 2) ?hd (cs := G17_) (t := 176) ?hr ?_; (case hd => rfl); (case hg => rfl); G4_; intro gb104 hg w9 hbox hb; have n0_ := Aside0.mk G13_; have n1_ := Aside0.mk (hbox); have n2_ := Aside0.mk (G32_); have n3_ := Aside0.mk (G32_); clear HB; have HB := n0_; have BK104 := n1_; have GW104 := n2_; have GE104 := n3_; clear n0_ n1_ n2_ n3_; clear hb hbox hg; have hcz10_0 : w9.cell? ⟨gb104, 0, none⟩ = some (.string a0_0) := (blk_cell BK104.out 0).trans rfl; have hcz10_1 : w9.cell? ⟨gb104, 1, none⟩ = some (.string a0_1) := (blk_cell BK104.out 1).trans rfl; have hcz10_2 : w9.cell? ⟨gb104, 2, none⟩ = some (.int .i64 a0_2) := (blk_cell BK104.out 2).trans rfl; have hfz10_0 := blk_frozen BK104.out 0; have hfz10_1 := blk_frozen BK104.out 1; have hfz10_2 := blk_frozen BK104.out 2))
   J4_

/-! ### laws_szItemS: function 88 -/
def laws_szItemS.l0 : Nat → List (S176) → Int → Int → Option (Int)
 | 0, _, _, _ => none
 | k + 1, x0, x1, x5 => if x5 < (x0.length : Int) then (if 0 ≤ x5 then ((laws_szItem.f ((rd_T176 x0 x5).f0) ((rd_T176 x0 x5).f1) ((rd_T176 x0 x5).f2) x1).bind fun t106 => (if t106 < 0 then (some (-1)) else (laws_szItemS.l0 k x0 t106 (wrap64 (x5 + 1))))) else (none)) else (some x1)
def laws_szItemS.f (k : Nat) (l0 : List (S176)) (a1 : Int) : Option (Int) := if (wrap64 (a1 - (l0.length : Int))) < 0 then (some (-1)) else (laws_szItemS.l0 k l0 (wrap64 (a1 - (l0.length : Int))) 0)
theorem laws_szItemS.mono_l : ∀ k, (∀ y0 y1 y2, LeO (laws_szItemS.l0 k y0 y1 y2) (laws_szItemS.l0 (k + 1) y0 y1 y2))
 | 0 => fun _ _ _ r h => by simp [laws_szItemS.l0] at h
 | k + 1 => by
  have ih0 := laws_szItemS.mono_l k
  ·intro y0 y1 y2
   unfold laws_szItemS.l0
   repeat' first
   | (with_reducible exact ih0 _ _ _)
   | (with_reducible exact LeO.refl _)
   | (with_reducible exact LeO.none _)
   | (with_reducible refine LeO.ite ?_ ?_)
   | (with_reducible refine LeO.bind ?_ (fun _ => ?_))
   | exact ih0 _ _ _
   | exact LeO.none _
   | refine LeO.ite ?_ ?_
   | refine LeO.bind ?_ (fun _ => ?_)
theorem laws_szItemS.mono : ∀ a0 a1 k, LeO (laws_szItemS.f k a0 a1) (laws_szItemS.f (k + 1) a0 a1) := by
 intro a0 a1 k
 have ih0 := laws_szItemS.mono_l k
 unfold laws_szItemS.f
 repeat' first
   | (with_reducible exact ih0 _ _ _)
   | (with_reducible exact LeO.refl _)
   | (with_reducible exact LeO.none _)
   | (with_reducible refine LeO.ite ?_ ?_)
   | (with_reducible refine LeO.bind ?_ (fun _ => ?_))
   | exact ih0 _ _ _
   | exact LeO.none _
   | refine LeO.ite ?_ ?_
   | refine LeO.bind ?_ (fun _ => ?_)
set_option maxHeartbeats 8000000 in
set_option maxRecDepth 100000 in
theorem laws_szItemS.calls (k : Nat) (A0 : Option Addr) (c0 : Nat) (l0 : List (S176)) (a1 : Int) (r : Int) (w : World) (hr0 : Kd.C k176 w A0 l0.length l0) (hc0 : l0.length ≤ c0) (h : laws_szItemS.f k l0 a1 = some r) :
  Calls Try.prog 88 #[.slice A0 l0.length c0, .int .i64 a1] w fun e w' => e = .returned (.int .i64 r) ∧ Below w.heap.size w w' := by
 J25_
 J13_
 J7_
 have H : (if (wrap64 (a1 - (l0.length : Int))) < 0 then (some (-1)) else (laws_szItemS.l0 k l0 (wrap64 (a1 - (l0.length : Int))) 0)) = some r := h
 clear h
 by_cases c3 : (wrap64 (a1 - (l0.length : Int))) < 0
 ·rw [if_pos c3] at H
  J23_
  J6_
  go_enter Try.func88, Try.ntmps88
  go_wp2
  J0_
 ·rw [if_neg c3] at H
  J22_
  J12_
  go_enter Try.func88, Try.ntmps88
  go_wp2
  go_loopg [1, 5] k (fun kq v1 v5 w' => ∃ (x1_1 : Int) (x5_1 : Int), v1 = .int .i64 x1_1 ∧ v5 = .int .i64 x5_1 ∧ Aside0 (laws_szItemS.l0 kq l0 x1_1 x5_1 = some r) ∧ Aside0 (kq ≤ k) ∧ Aside0 (Below w.heap.size w w'))
  J11_
  case round =>
   J20_
   cases gk with
   | zero => exact absurd HA.out (by simp [laws_szItemS.l0])
   | succ k1 =>
    J31_
    simp only [laws_szItemS.l0] at H
    by_cases c4 : x5_1 < (l0.length : Int)
    ·rw [if_pos c4] at H
     J29_
     by_cases c5 : 0 ≤ x5_1
     ·rw [if_pos c5] at H
      J32_
      J10_
      obtain ⟨t106, A60, H⟩ := H
      J19_
      have A6 := Aside0.mk A60
      clear A60
      by_cases c7 : t106 < 0
      ·rw [if_pos c7] at H
       have c7b0 : decide (t106 < 0) = true := decide_eq_true c7
       clear c7
       J6_
       J3_
       go_wp2_with (first | ((with_reducible refine gate_callee (f := 152) rfl ?_); refine goesL_ (some 23) rfl rfl Try.func152 (by kernel_rfl) rfl G52_ rfl G3_ ?_; G47_; rintro e w8 ⟨rfl, hb⟩; refine ⟨_, rfl, ?_⟩; have n0_ := Aside0.mk G13_; clear HB; have HB := n0_; clear n0_; (try clear hb); (try clear hb2); (try clear hk); (try clear hi)))
       J0_
      ·rw [if_neg c7] at H
       have c7b0 : decide (t106 < 0) = false := decide_eq_false c7
       clear c7
       J12_
       J3_
       go_wp2_with (first | ((with_reducible refine gate_callee (f := 152) rfl ?_); refine goesL_ (some 23) rfl rfl Try.func152 (by kernel_rfl) rfl G52_ rfl G3_ ?_; G47_; rintro e w9 ⟨rfl, hb⟩; refine ⟨_, rfl, ?_⟩; have n0_ := Aside0.mk G13_; clear HB; have HB := n0_; clear n0_; (try clear hb); (try clear hb2); (try clear hk); (try clear hi)))
       J18_
       case rel => exact ⟨(t106), (wrap64 (x5_1 + 1)), (by be_), (by be_), H', G62_, ⟨by repeat G0_⟩⟩
     ·rw [if_neg c5] at H
      J14_
    ·rw [if_neg c4] at H
     J26_
     J6_
     go_wp2
     J0_

/-! ### laws_szKeep: function 20 -/
def laws_szKeep.f (k : Nat) (l0_0 : List (S174)) (l0_1 : List (S176)) (a1 : Int) : Option (Int) := (laws_szSessionS.f k l0_0 a1).bind fun t108 => (if t108 < 0 then (some (-1)) else ((laws_szItemS.f k l0_1 t108).bind fun t109 => (if t109 < 0 then (some (-1)) else (some t109))))
theorem laws_szKeep.mono : ∀ a0 a1 a2 k, LeO (laws_szKeep.f k a0 a1 a2) (laws_szKeep.f (k + 1) a0 a1 a2) := by
 intro a0 a1 a2 k
 unfold laws_szKeep.f
 repeat' first
   | (with_reducible exact laws_szItemS.mono _ _ _)
   | (with_reducible exact laws_szSessionS.mono _ _ _)
   | (with_reducible exact LeO.refl _)
   | (with_reducible exact LeO.none _)
   | (with_reducible refine LeO.ite ?_ ?_)
   | (with_reducible refine LeO.bind ?_ (fun _ => ?_))
   | exact laws_szItemS.mono _ _ _
   | exact laws_szSessionS.mono _ _ _
   | exact LeO.none _
   | refine LeO.ite ?_ ?_
   | refine LeO.bind ?_ (fun _ => ?_)
set_option maxHeartbeats 8000000 in
set_option maxRecDepth 100000 in
theorem laws_szKeep.calls (k : Nat) (A0_0 : Option Addr) (c0_0 : Nat) (l0_0 : List (S174)) (A0_1 : Option Addr) (c0_1 : Nat) (l0_1 : List (S176)) (a1 : Int) (r : Int) (w : World) (hr0_0 : Kd.C k174 w A0_0 l0_0.length l0_0) (hc0_0 : l0_0.length ≤ c0_0) (hr0_1 : Kd.C k176 w A0_1 l0_1.length l0_1) (hc0_1 : l0_1.length ≤ c0_1) (h : laws_szKeep.f k l0_0 l0_1 a1 = some r) :
  Calls Try.prog 20 #[.agg #[.slice A0_0 l0_0.length c0_0, .slice A0_1 l0_1.length c0_1], .int .i64 a1] w fun e w' => e = .returned (.int .i64 r) ∧ Below w.heap.size w w' := by
 have hu36 := Try.underlying36
 J16_
 J7_
 have H : ((laws_szSessionS.f k l0_0 a1).bind fun t108 => (if t108 < 0 then (some (-1)) else ((laws_szItemS.f k l0_1 t108).bind fun t109 => (if t109 < 0 then (some (-1)) else (some t109))))) = some r := h
 clear h
 J10_
 obtain ⟨t108, A30, H⟩ := H
 J19_
 have A3 := Aside0.mk A30
 clear A30
 by_cases c4 : t108 < 0
 ·rw [if_pos c4] at H
  have c4b0 : decide (t108 < 0) = true := decide_eq_true c4
  clear c4
  J6_
  go_enter Try.func20, Try.ntmps20
  go_wp2_with (first | (G12_; refine box_event ?hg (N := 2) ?hd (cs := G9_) (t := 36) ?hr ?_; (case hd => rfl); (case hg => rfl); G4_; intro gb107 hg w5 hbox hb; have n0_ := Aside0.mk G13_; have n1_ := Aside0.mk (hbox); have n2_ := Aside0.mk (G33_); have n3_ := Aside0.mk (G33_); clear HB; have HB := n0_; have BK107 := n1_; have GW107 := n2_; have GE107 := n3_; clear n0_ n1_ n2_ n3_; clear hb hbox hg; have hcz6_0 : w5.cell? ⟨gb107, 0, none⟩ = some G41_ := (G70_).trans rfl; have hcz6_1 : w5.cell? ⟨gb107, 1, none⟩ = some G42_ := (G71_).trans rfl; have hfz6_0 := blk_frozen BK107.out 0; have hfz6_1 := blk_frozen BK107.out 1) | (G55_; refine goesL_ (some 8) rfl rfl Try.func87 (by kernel_rfl) rfl G59_ rfl G3_ ?_; G38_; G14_; G61_; rintro e w7 ⟨rfl, hb⟩; refine ⟨_, rfl, ?_⟩; have n0_ := Aside0.mk G26_; have n1_ := Aside0.mk G54_; clear BK107; clear HB; have BK107 := n0_; have HB := n1_; clear n0_ n1_; (try clear hb); (try clear hb2); (try clear hk); (try clear hi)))
  J5_
 ·rw [if_neg c4] at H
  have c4b0 : decide (t108 < 0) = false := decide_eq_false c4
  clear c4
  J10_
  obtain ⟨t109, A80, H⟩ := H
  J19_
  J34_
  by_cases c9 : t109 < 0
  ·rw [if_pos c9] at H
   have c9b0 : decide (t109 < 0) = true := decide_eq_true c9
   clear c9
   J6_
   go_enter Try.func20, Try.ntmps20
   go_wp2_with (first | (G12_; refine box_event ?hg (N := 2) ?hd (cs := G9_) (t := 36) ?hr ?_; (case hd => rfl); (case hg => rfl); G4_; intro gb107 hg w10 hbox hb; have n0_ := Aside0.mk G13_; have n1_ := Aside0.mk (hbox); have n2_ := Aside0.mk (G33_); have n3_ := Aside0.mk (G33_); clear HB; have HB := n0_; have BK107 := n1_; have GW107 := n2_; have GE107 := n3_; clear n0_ n1_ n2_ n3_; clear hb hbox hg; have hcz11_0 : w10.cell? ⟨gb107, 0, none⟩ = some G41_ := (G70_).trans rfl; have hcz11_1 : w10.cell? ⟨gb107, 1, none⟩ = some G42_ := (G71_).trans rfl; have hfz11_0 := blk_frozen BK107.out 0; have hfz11_1 := blk_frozen BK107.out 1) | (G55_; refine goesL_ (some 8) rfl rfl Try.func87 (by kernel_rfl) rfl G59_ rfl G3_ ?_; G38_; G14_; G61_; rintro e w12 ⟨rfl, hb⟩; refine ⟨_, rfl, ?_⟩; have n0_ := Aside0.mk G26_; have n1_ := Aside0.mk G54_; clear BK107; clear HB; have BK107 := n0_; have HB := n1_; clear n0_ n1_; (try clear hb); (try clear hb2); (try clear hk); (try clear hi); have hcz13_0 : w12.cell? ⟨gb107, 0, none⟩ = some G41_ := (G70_).trans rfl; have hcz13_1 : w12.cell? ⟨gb107, 1, none⟩ = some G42_ := (G71_).trans rfl; have hfz13_0 := blk_frozen BK107.out 0; have hfz13_1 := blk_frozen BK107.out 1) | ((with_reducible refine gate_callee (f := 88) rfl ?_); refine goesL_ (some 14) rfl rfl Try.func88 (by kernel_rfl) rfl #[.slice A0_1 l0_1.length c0_1, .int .i64 t108] rfl G3_ ?_; G56_; G37_; (case side2 => exact HC0_1.out); rintro e w14 ⟨rfl, hb⟩; refine ⟨_, rfl, ?_⟩; have n0_ := Aside0.mk G26_; have n1_ := Aside0.mk G54_; clear BK107; clear HB; have BK107 := n0_; have HB := n1_; clear n0_ n1_; (try clear hb); (try clear hb2); (try clear hk); (try clear hi)))
   J5_
  ·rw [if_neg c9] at H
   have c9b0 : decide (t109 < 0) = false := decide_eq_false c9
   clear c9
   J6_
   go_enter Try.func20, Try.ntmps20
   go_wp2_with (first | (G12_; refine box_event ?hg (N := 2) ?hd (cs := G9_) (t := 36) ?hr ?_; (case hd => rfl); (case hg => rfl); G4_; intro gb107 hg w15 hbox hb; have n0_ := Aside0.mk G13_; have n1_ := Aside0.mk (hbox); have n2_ := Aside0.mk (G33_); have n3_ := Aside0.mk (G33_); clear HB; have HB := n0_; have BK107 := n1_; have GW107 := n2_; have GE107 := n3_; clear n0_ n1_ n2_ n3_; clear hb hbox hg; have hcz16_0 : w15.cell? ⟨gb107, 0, none⟩ = some G41_ := (G70_).trans rfl; have hcz16_1 : w15.cell? ⟨gb107, 1, none⟩ = some G42_ := (G71_).trans rfl; have hfz16_0 := blk_frozen BK107.out 0; have hfz16_1 := blk_frozen BK107.out 1) | (G55_; refine goesL_ (some 8) rfl rfl Try.func87 (by kernel_rfl) rfl G59_ rfl G3_ ?_; G38_; G14_; G61_; rintro e w17 ⟨rfl, hb⟩; refine ⟨_, rfl, ?_⟩; have n0_ := Aside0.mk G26_; have n1_ := Aside0.mk G54_; clear BK107; clear HB; have BK107 := n0_; have HB := n1_; clear n0_ n1_; (try clear hb); (try clear hb2); (try clear hk); (try clear hi); have hcz18_0 : w17.cell? ⟨gb107, 0, none⟩ = some G41_ := (G70_).trans rfl; have hcz18_1 : w17.cell? ⟨gb107, 1, none⟩ = some G42_ := (G71_).trans rfl; have hfz18_0 := blk_frozen BK107.out 0; have hfz18_1 := blk_frozen BK107.out 1) | ((with_reducible refine gate_callee (f := 88) rfl ?_); refine goesL_ (some 14) rfl rfl Try.func88 (by kernel_rfl) rfl #[.slice A0_1 l0_1.length c0_1, .int .i64 t108] rfl G3_ ?_; G56_; G37_; (case side2 => exact HC0_1.out); rintro e w19 ⟨rfl, hb⟩; refine ⟨_, rfl, ?_⟩; have n0_ := Aside0.mk G26_; have n1_ := Aside0.mk G54_; clear BK107; clear HB; have BK107 := n0_; have HB := n1_; clear n0_ n1_; (try clear hb); (try clear hb2); (try clear hk); (try clear hi)))
   J5_

/-! ### laws_toSession: function 153 -/
def laws_toSession.f (a0_0 : Int) (a0_1 : Int) (a0_2 : ByteArray) : Option (Int × Int × ByteArray) := some (a0_0, a0_1, a0_2)
set_option maxHeartbeats 8000000 in
set_option maxRecDepth 100000 in
theorem laws_toSession.calls (a0_0 : Int) (a0_1 : Int) (a0_2 : ByteArray) (r1 : Int) (r2 : Int) (r3 : ByteArray) (w : World) (h : laws_toSession.f a0_0 a0_1 a0_2 = some (r1, r2, r3)) :
  Calls Try.prog 153 #[.agg #[.int .i64 a0_0, .int .i64 a0_1, .string a0_2]] w fun e w' => e = .returned (.agg #[.int .i64 r1, .int .i64 r2, .string r3]) ∧ Below w.heap.size w w' := by
 J24_
 have hu119 := Try.underlying119
 J7_
 J17_
 go_enter Try.func153, Try.ntmps153
 go_wp2_with (first | (G58_; refine box_event ?hg (N := 1) ?hd (cs := G7_) (t := 174) ?hr ?_; (case hd => rfl); (case hg => rfl); G4_; intro gb110 hg w2 hbox hb; have n0_ := Aside0.mk G13_; have n1_ := Aside0.mk (hbox); have n2_ := Aside0.mk ((by rw [hg]; exact G11_ : w.heap.size ≤ gb110)); have n3_ := Aside0.mk ((by rw [hg]; exact G11_ : w.heap.size ≤ gb110)); clear HB; have HB := n0_; have BK110 := n1_; have GW110 := n2_; have GE110 := n3_; clear n0_ n1_ n2_ n3_; clear hb hbox hg) | (G12_; refine box_event ?hg (N := 2) ?hd (cs := G28_) (t := 119) ?hr ?_; (case hd => rfl); (case hg => rfl); G4_; intro gb111 hg w3 hbox hb; have n0_ := Aside0.mk G63_; have n1_ := Aside0.mk (below_step G23_ hb); have n2_ := Aside0.mk (hbox); have n3_ := Aside0.mk ((by rw [hg]; exact (below_size G23_) : w.heap.size ≤ gb111)); have n4_ := Aside0.mk ((by rw [hg]; exact (below_size G23_) : w.heap.size ≤ gb111)); have n5_ := Aside0.mk ((by rw [hg]; exact Nat.ne_of_lt G34_ : gb110 ≠ gb111)); have n6_ := Aside0.mk ((by rw [hg]; exact Nat.ne_of_gt G34_ : gb111 ≠ gb110)); clear BK110; clear HB; have BK110 := n0_; have HB := n1_; have BK111 := n2_; have GW111 := n3_; have GE111 := n4_; have NB110_111 := n5_; have NB111_110 := n6_; clear n0_ n1_ n2_ n3_ n4_ n5_ n6_; clear hb hbox hg) | (G30_; refine box_event ?hg (N := 3) ?hd (cs := G28_) (t := 119) ?hr ?_; (case hd => rfl); (case hg => rfl); G4_; intro gb112 hg w4 hbox hb; have n0_ := Aside0.mk G63_; have n1_ := Aside0.mk (blk_below (g := gb111) (o := .cells G28_ 119 (0, 0)) (by G1_; exact BK111.out) hb); have n2_ := Aside0.mk (below_step G18_ hb); have n3_ := Aside0.mk (hbox); have n4_ := Aside0.mk ((by rw [hg]; exact (below_size G18_) : w.heap.size ≤ gb112)); have n5_ := Aside0.mk ((by rw [hg]; exact (below_size G18_) : w.heap.size ≤ gb112)); have n6_ := Aside0.mk ((by rw [hg]; exact Nat.ne_of_lt G34_ : gb110 ≠ gb112)); have n7_ := Aside0.mk ((by rw [hg]; exact Nat.ne_of_gt G34_ : gb112 ≠ gb110)); have n8_ := Aside0.mk ((by rw [hg]; exact Nat.ne_of_lt G67_ : gb111 ≠ gb112)); have n9_ := Aside0.mk ((by rw [hg]; exact Nat.ne_of_gt G67_ : gb112 ≠ gb111)); clear BK110; clear BK111; clear HB; have BK110 := n0_; have BK111 := n1_; have HB := n2_; have BK112 := n3_; have GW112 := n4_; have GE112 := n5_; have NB110_112 := n6_; have NB112_110 := n7_; have NB111_112 := n8_; have NB112_111 := n9_; clear n0_ n1_ n2_ n3_ n4_ n5_ n6_ n7_ n8_ n9_; clear hb hbox hg; have hnb5 := NB110_111.out; have hnc5 := NB111_110.out; have hnb6 := NB110_112.out; have hnc6 := NB112_110.out; have hcz7_0 : w4.cell? ⟨gb110, 0, none⟩ = some (.int .i64 a0_0) := (blk_cell BK110.out 0).trans rfl; have hcz7_1 : w4.cell? ⟨gb110, 1, none⟩ = some (.int .i64 a0_1) := (blk_cell BK110.out 1).trans rfl; have hcz7_2 : w4.cell? ⟨gb110, 2, none⟩ = some (.string a0_2) := (blk_cell BK110.out 2).trans rfl; have hfz7_0 := blk_frozen BK110.out 0; have hfz7_1 := blk_frozen BK110.out 1; have hfz7_2 := blk_frozen BK110.out 2; have hnb8 := NB112_111.out; have hnc8 := NB111_112.out; have hcz9_0 : w4.cell? ⟨gb112, 0, none⟩ = some (.int .i64 0) := (blk_cell BK112.out 0).trans rfl; have hcz9_1 : w4.cell? ⟨gb112, 1, none⟩ = some (.int .i64 0) := (blk_cell BK112.out 1).trans rfl; have hcz9_2 : w4.cell? ⟨gb112, 2, none⟩ = some (.string (⟨#[]⟩ : ByteArray)) := (blk_cell BK112.out 2).trans rfl; have hfz9_0 := blk_frozen BK112.out 0; have hfz9_1 := blk_frozen BK112.out 1; have hfz9_2 := blk_frozen BK112.out 2; have hcz10_0 : w4.cell? ⟨gb111, 0, none⟩ = some (.int .i64 0) := (blk_cell BK111.out 0).trans rfl; have hcz10_1 : w4.cell? ⟨gb111, 1, none⟩ = some (.int .i64 0) := (blk_cell BK111.out 1).trans rfl; have hcz10_2 : w4.cell? ⟨gb111, 2, none⟩ = some (.string (⟨#[]⟩ : ByteArray)) := (blk_cell BK111.out 2).trans rfl; have hfz10_0 := blk_frozen BK111.out 0; have hfz10_1 := blk_frozen BK111.out 1; have hfz10_2 := blk_frozen BK111.out 2))
 refine bodyPost_ret (results_cell_row rfl _ _ gb111 119 G7_ (0, 0) _ rfl (by G1_; refine blk_put (cs := #[.int .i64 a0_0, .int .i64 a0_1, .string (⟨#[]⟩ : ByteArray)]) ?_ 2 _ rfl; G1_; refine blk_put (cs := #[.int .i64 a0_0, .int .i64 0, .string (⟨#[]⟩ : ByteArray)]) ?_ 1 _ rfl; G1_; refine blk_put (cs := G28_) ?_ 0 _ rfl; G1_; refine blk_far ?_ NB111_112.out _; G1_; refine blk_far ?_ NB111_112.out _; G1_; refine blk_far ?_ NB111_112.out _; G1_; exact BK111.out) Try.underlying119 rfl (by kernel_rfl)) rfl ?_
 exact ⟨by first | rfl | (simp [errW_none, errW_some] <;> rfl) | (simp [*, errW_none, errW_some] <;> rfl), by repeat (first | (with_reducible first | exact HB.out | apply below_alloc | apply pw_below_drewN | apply below_drew1 | refine below_set ?_ GE110.out | refine below_set ?_ GE111.out | refine below_set ?_ GE112.out) | exact HB.out)⟩

/-! ### laws_toSessionS: function 89 -/
def laws_toSessionS.l0 : Nat → List (S174) → List (S119) → Int → Option ((List (S119)))
 | 0, _, _, _ => none
 | k + 1, x0, x3, x4 => if x4 < (x0.length : Int) then (if 0 ≤ x4 then ((laws_toSession.f ((rd_T174 x0 x4).f0) ((rd_T174 x0 x4).f1) ((rd_T174 x0 x4).f2)).bind fun bt117 => (if x4 < (x3.length : Int) then (laws_toSessionS.l0 k x0 (x3.set (x4 : Int).toNat (⟨bt117.1, bt117.2.1, bt117.2.2⟩ : S119)) (wrap64 (x4 + 1))) else (none))) else (none)) else (some x3)
def laws_toSessionS.f (k : Nat) (l0 : List (S174)) : Option ((List (S119))) := if 0 ≤ (l0.length : Int) then (if ((l0.length : Int) : Int).toNat ≤ 8796093022208 then (laws_toSessionS.l0 k l0 (List.replicate ((l0.length : Int) : Int).toNat z119) 0) else (none)) else (none)
theorem laws_toSessionS.mono_l : ∀ k, (∀ y0 y1 y2, LeO (laws_toSessionS.l0 k y0 y1 y2) (laws_toSessionS.l0 (k + 1) y0 y1 y2))
 | 0 => fun _ _ _ r h => by simp [laws_toSessionS.l0] at h
 | k + 1 => by
  have ih0 := laws_toSessionS.mono_l k
  ·intro y0 y1 y2
   unfold laws_toSessionS.l0
   repeat' first
   | (with_reducible exact ih0 _ _ _)
   | (with_reducible exact LeO.refl _)
   | (with_reducible exact LeO.none _)
   | (with_reducible refine LeO.ite ?_ ?_)
   | (with_reducible refine LeO.bind ?_ (fun _ => ?_))
   | exact ih0 _ _ _
   | exact LeO.none _
   | refine LeO.ite ?_ ?_
   | refine LeO.bind ?_ (fun _ => ?_)
theorem laws_toSessionS.mono : ∀ a0 k, LeO (laws_toSessionS.f k a0) (laws_toSessionS.f (k + 1) a0) := by
 intro a0 k
 have ih0 := laws_toSessionS.mono_l k
 unfold laws_toSessionS.f
 repeat' first
   | (with_reducible exact ih0 _ _ _)
   | (with_reducible exact LeO.refl _)
   | (with_reducible exact LeO.none _)
   | (with_reducible refine LeO.ite ?_ ?_)
   | (with_reducible refine LeO.bind ?_ (fun _ => ?_))
   | exact ih0 _ _ _
   | exact LeO.none _
   | refine LeO.ite ?_ ?_
   | refine LeO.bind ?_ (fun _ => ?_)
set_option maxHeartbeats 8000000 in
set_option maxRecDepth 100000 in
theorem laws_toSessionS.calls (k : Nat) (A0 : Option Addr) (c0 : Nat) (l0 : List (S174)) (r : List (S119)) (w : World) (hr0 : Kd.C k174 w A0 l0.length l0) (hc0 : l0.length ≤ c0) (h : laws_toSessionS.f k l0 = some r) :
  Calls Try.prog 89 #[.slice A0 l0.length c0] w fun e w' => ∃ v0_ : Value, e = .returned (v0_) ∧ Kd.R k119 119 w' w.heap.size (fun _ => True) v0_ r ∧ Below w.heap.size w w' := by
 J24_
 have hu119 := Try.underlying119
 J13_
 J7_
 have H : (if 0 ≤ (l0.length : Int) then (if ((l0.length : Int) : Int).toNat ≤ 8796093022208 then (laws_toSessionS.l0 k l0 (List.replicate ((l0.length : Int) : Int).toNat z119) 0) else (none)) else (none)) = some r := h
 clear h
 by_cases c2 : 0 ≤ (l0.length : Int)
 ·rw [if_pos c2] at H
  J21_
  by_cases c3 : ((l0.length : Int) : Int).toNat ≤ 8796093022208
  ·rw [if_pos c3] at H
   have c3b0 := eq_true c3
   have c3b1 : decide (((l0.length : Int) : Int).toNat ≤ 8796093022208) = true := decide_eq_true c3
   clear c3
   obtain ⟨y113, hy113⟩ : ∃ y_ : List (S119), y_ = (List.replicate ((l0.length : Int) : Int).toNat z119) := ⟨_, rfl⟩
   replace H : (laws_toSessionS.l0 k l0 y113 0) = some r := by first | (rw [hy113]; with_reducible exact H) | (have H2_ := (Option.bind_some _ _).symm.trans H; rw [hy113]; with_reducible exact H2_) | G36_ | with_reducible exact H | (rw [hy113]; exact H) | exact H
   have Ny113 := Aside0.mk hy113
   clear hy113
   J12_
   go_enter Try.func89, Try.ntmps89
   go_wp2_with (first | ((with_reducible refine gate_dst (N := 7) rfl ?_); refine Kd.R_make k119 _ 119 rfl (N := 7) rfl 39 _ _ rfl (l0.length : Int) rfl rfl Try.underlying39 (.agg #[(.int .i64 0), (.int .i64 0), (.string ⟨#[]⟩)]) 32 info119 rfl (by decide) (by omega) z119 (ok := fun _ => True) (okp := fun _ => True) (k119_mkM _ _ _ z119 ) (fun _ hk => hk) trivial G57_ (Nat.le_trans (Nat.mul_le_mul_right _ (of_decide_eq_true G5_ : (l0.length : Int).toNat ≤ 8796093022208)) (by omega)) (Below.refl _ _) (Nat.le_refl _) ?_; intro v114 w4 ho5 hb hg_ hnew_; clear hg_ hnew_; (first | rw [← Ny113.out] at ho5 | (simp only [Int.reduceToNat] at ho5; rw [← Ny113.out] at ho5)); have n0_ := Aside0.mk (Kd.R_lower ho5 G11_); have n1_ := Aside0.mk G13_; clear HB; have HO115 := n0_; have HB := n1_; clear n0_ n1_; clear hb ho5))
   go_loopg [4] k (fun kq v4 w' => ∃ (x3_1 : List (S119)) (x4_1 : Int), v4 = .int .i64 x4_1 ∧ Aside0 (laws_toSessionS.l0 kq l0 x3_1 x4_1 = some r) ∧ Aside0 (kq ≤ k) ∧ Aside0 (Kd.R k119 119 w' w.heap.size (fun _ => True) v114 x3_1) ∧ Aside0 (Below w.heap.size w w'))
   case atStart => exact ⟨(y113), (0), (by be_), H', ⟨Nat.le_refl _⟩, ⟨by G8_; exact HO115.out⟩, ⟨by repeat G0_⟩⟩
   case round =>
    J15_
    cases gk with
    | zero => exact absurd HA.out (by simp [laws_toSessionS.l0])
    | succ k1 =>
     J31_
     simp only [laws_toSessionS.l0] at H
     by_cases c6 : x4_1 < (l0.length : Int)
     ·rw [if_pos c6] at H
      J30_
      by_cases c7 : 0 ≤ x4_1
      ·rw [if_pos c7] at H
       J33_
       J10_
       obtain ⟨⟨t117, t118, t119⟩, A80, H⟩ := H
       J19_
       J34_
       by_cases c9 : x4_1 < (x3_1.length : Int)
       ·rw [if_pos c9] at H
        J28_
        obtain ⟨y120, hy120⟩ : ∃ y_ : List (S119), y_ = (x3_1.set (x4_1 : Int).toNat (⟨t117, t118, t119⟩ : S119)) := ⟨_, rfl⟩
        replace H : (laws_toSessionS.l0 k1 l0 y120 (wrap64 (x4_1 + 1))) = some r := by first | (rw [hy120]; with_reducible exact H) | (have H2_ := (Option.bind_some _ _).symm.trans H; rw [hy120]; with_reducible exact H2_) | G36_ | with_reducible exact H | (rw [hy120]; exact H) | exact H
        have Ny120 := Aside0.mk hy120
        clear hy120
        J12_
        have p116 : 0 ≤ (x4_1 : Int) := of_decide_eq_true G5_
        have q116 : x4_1 < (l0.length : Int) := of_decide_eq_true G5_
        obtain ⟨ad116, e116, hx116_0, hx116_1, hx116_2⟩ := at_T174 HR0.out x4_1 p116 q116
        cases e116
        replace hx116_0 := (HB.out.cell (World.block_lt_of_cell? w _ hx116_0)).trans hx116_0
        replace hx116_1 := (HB.out.cell (World.block_lt_of_cell? w _ hx116_1)).trans hx116_1
        replace hx116_2 := (HB.out.cell (World.block_lt_of_cell? w _ hx116_2)).trans hx116_2
        replace p116 := eq_true p116
        replace q116 := eq_true q116
        go_wp2_with (first | ((with_reducible refine gate_callee (f := 153) rfl ?_); refine goesL_ (some 20) rfl rfl Try.func153 (by kernel_rfl) rfl #[.agg #[.int .i64 ((rd_T174 l0 x4_1).f0), .int .i64 ((rd_T174 l0 x4_1).f1), .string ((rd_T174 l0 x4_1).f2)]] rfl G3_ ?_; (with_reducible refine (laws_toSession.calls ((rd_T174 l0 x4_1).f0) ((rd_T174 l0 x4_1).f1) ((rd_T174 l0 x4_1).f2) t117 t118 t119 _ A8.out).mono ?_); rintro e w11 ⟨rfl, hb⟩; refine ⟨_, rfl, ?_⟩; have n0_ := Aside0.mk (Kd.R_below (by G8_; exact HO_3.out) hb); have n1_ := Aside0.mk G13_; clear HO_3; clear HB; have HO_3 := n0_; have HB := n1_; clear n0_ n1_; (try clear hb); (try clear hb2); (try clear hk); (try clear hi); have p10 : 0 ≤ (x4_1 : Int) := of_decide_eq_true G5_; have q10 : (x4_1 : Int) < ((x3_1.length : Int) : Int) := of_decide_eq_true G5_; obtain ⟨go10, co10, eo10, gb10, gl10, cl10, HG10⟩ := Kd.R_form HO_3.out (by omega); G48_; have GB10 := Aside0.mk gb10; have GG10 := Aside0.mk HG10; clear gb10 gl10 HG10; obtain ⟨ce10, hcl10, hM10, hcc10, hfr10⟩ := Kd.R_elem HO_3.out z119 (x4_1 : Int) p10 q10; obtain rfl := k119_openM hM10; have hx10_0 : w11.cell? ⟨go10, (x4_1 : Int).toNat * 3, none⟩ = some (.int .i64 ((rd_T119 x3_1 x4_1).f0)) := hcc10 0 _ rfl; have hx10_1 : w11.cell? ⟨go10, (x4_1 : Int).toNat * 3 + 1, none⟩ = some (.int .i64 ((rd_T119 x3_1 x4_1).f1)) := hcc10 1 _ rfl; have hx10_2 : w11.cell? ⟨go10, (x4_1 : Int).toNat * 3 + 2, none⟩ = some (.string ((rd_T119 x3_1 x4_1).f2)) := hcc10 2 _ rfl; have hf10_0 : w11.frozen? ⟨go10, (x4_1 : Int).toNat * 3, none⟩ = false := hfr10 0; have hf10_1 : w11.frozen? ⟨go10, (x4_1 : Int).toNat * 3 + 1, none⟩ = false := hfr10 1; have hf10_2 : w11.frozen? ⟨go10, (x4_1 : Int).toNat * 3 + 2, none⟩ = false := hfr10 2; clear hcl10 hcc10 hfr10 hM10; replace p10 := eq_true p10; replace q10 := eq_true q10; have HX12 := Aside0.mk (show Kd.R k119 119 w11 w.heap.size (fun _ => True) G45_ x3_1 from (by G8_; exact HO_3.out)); obtain ⟨ce12, hcl12, hM12, hcc12, hfr12⟩ := Kd.R_elem HX12.out z119 (x4_1 : Int) G57_ G16_; obtain rfl := k119_openM hM12; have HP12 := Kd.R_seg HX12.out (x4_1 : Int) G57_ G16_ (seg := [.int .i64 t117, .int .i64 t118, .string t119]) (j := 0) hcl12 hcc12 (show 3 ≤ 3 from by decide) (x' := (⟨t117, t118, t119⟩ : S119)) (k119_mkM _ _ _ (⟨t117, t118, t119⟩ : S119) ) (fun _ hk => hk); have hx12_0 := hcc12 0 _ rfl; (try simp only [show (k119).sz = 3 from rfl, Nat.mul_one, Nat.add_zero] at hx12_0); have hf12_0 := hfr12 0; (try simp only [show (k119).sz = 3 from rfl, Nat.mul_one, Nat.add_zero] at hf12_0); have hx12_1 := hcc12 1 _ rfl; (try simp only [show (k119).sz = 3 from rfl, Nat.mul_one, Nat.add_zero] at hx12_1); have hf12_1 := hfr12 1; (try simp only [show (k119).sz = 3 from rfl, Nat.mul_one, Nat.add_zero] at hf12_1); have hx12_2 := hcc12 2 _ rfl; (try simp only [show (k119).sz = 3 from rfl, Nat.mul_one, Nat.add_zero] at hx12_2); have hf12_2 := hfr12 2; (try simp only [show (k119).sz = 3 from rfl, Nat.mul_one, Nat.add_zero] at hf12_2); clear hcl12 hcc12 hfr12 hM12) | ((with_reducible refine gate_store (t := 119) (p := 21) rfl ?_); refine store_event (t := 119) (p := 21) (v := ?vo_w13) (w1 := (((w11.setCell ⟨go10, (x4_1 : Int).toNat * 3, none⟩ (.int .i64 t117)).setCell ⟨go10, (x4_1 : Int).toNat * 3 + 1, none⟩ (.int .i64 t118)).setCell ⟨go10, (x4_1 : Int).toNat * 3 + 2, none⟩ (.string t119))) ?hg ?ho ?hn ?hr ?_; (case ho => rfl); (case hg => rfl); (case hn => rfl); G4_; intro w13 hw; have hg : w11.grownBy w13 (some go10) := (by rw [hw]; exact HP12.2); have hp_ : Kd.R k119 119 w13 w.heap.size (fun _ => True) G45_ y120 := (by rw [hw, Ny120.out]; exact HP12.1); clear HP12; have n0_ := Aside0.mk (hp_); have n1_ := Aside0.mk (G53_); clear HO_3; clear HB; have HO_3 := n0_; have HB := n1_; clear n0_ n1_; clear hg hw hp_))
        J18_
        case rel => exact ⟨(y120), (wrap64 (x4_1 + 1)), (by be_), H', G62_, ⟨by G8_; exact HO_3.out⟩, ⟨by repeat G0_⟩⟩
       ·rw [if_neg c9] at H
        J14_
      ·rw [if_neg c7] at H
       J14_
     ·rw [if_neg c6] at H
      J27_
      J6_
      J8_
  ·rw [if_neg c3] at H
   J14_
 ·rw [if_neg c2] at H
  J14_

/-! ### laws_toItem: function 154 -/
def laws_toItem.f (a0_0 : ByteArray) (a0_1 : ByteArray) (a0_2 : Int) : Option (ByteArray × ByteArray × Int) := some (a0_0, a0_1, a0_2)
set_option maxHeartbeats 8000000 in
set_option maxRecDepth 100000 in
theorem laws_toItem.calls (a0_0 : ByteArray) (a0_1 : ByteArray) (a0_2 : Int) (r1 : ByteArray) (r2 : ByteArray) (r3 : Int) (w : World) (h : laws_toItem.f a0_0 a0_1 a0_2 = some (r1, r2, r3)) :
  Calls Try.prog 154 #[.agg #[.string a0_0, .string a0_1, .int .i64 a0_2]] w fun e w' => e = .returned (.agg #[.string r1, .string r2, .int .i64 r3]) ∧ Below w.heap.size w w' := by
 J25_
 have hu121 := Try.underlying121
 J7_
 J17_
 go_enter Try.func154, Try.ntmps154
 go_wp2_with (first | (G58_; refine box_event ?hg (N := 1) ?hd (cs := G17_) (t := 176) ?hr ?_; (case hd => rfl); (case hg => rfl); G4_; intro gb121 hg w2 hbox hb; have n0_ := Aside0.mk G13_; have n1_ := Aside0.mk (hbox); have n2_ := Aside0.mk ((by rw [hg]; exact G11_ : w.heap.size ≤ gb121)); have n3_ := Aside0.mk ((by rw [hg]; exact G11_ : w.heap.size ≤ gb121)); clear HB; have HB := n0_; have BK121 := n1_; have GW121 := n2_; have GE121 := n3_; clear n0_ n1_ n2_ n3_; clear hb hbox hg) | (G12_; refine box_event ?hg (N := 2) ?hd (cs := G22_) (t := 121) ?hr ?_; (case hd => rfl); (case hg => rfl); G4_; intro gb122 hg w3 hbox hb; have n0_ := Aside0.mk G60_; have n1_ := Aside0.mk (below_step G24_ hb); have n2_ := Aside0.mk (hbox); have n3_ := Aside0.mk ((by rw [hg]; exact (below_size G24_) : w.heap.size ≤ gb122)); have n4_ := Aside0.mk ((by rw [hg]; exact (below_size G24_) : w.heap.size ≤ gb122)); have n5_ := Aside0.mk ((by rw [hg]; exact Nat.ne_of_lt G39_ : gb121 ≠ gb122)); have n6_ := Aside0.mk ((by rw [hg]; exact Nat.ne_of_gt G39_ : gb122 ≠ gb121)); clear BK121; clear HB; have BK121 := n0_; have HB := n1_; have BK122 := n2_; have GW122 := n3_; have GE122 := n4_; have NB121_122 := n5_; have NB122_121 := n6_; clear n0_ n1_ n2_ n3_ n4_ n5_ n6_; clear hb hbox hg) | (G30_; refine box_event ?hg (N := 3) ?hd (cs := G22_) (t := 121) ?hr ?_; (case hd => rfl); (case hg => rfl); G4_; intro gb123 hg w4 hbox hb; have n0_ := Aside0.mk G60_; have n1_ := Aside0.mk (blk_below (g := gb122) (o := .cells G22_ 121 (0, 0)) (by G1_; exact BK122.out) hb); have n2_ := Aside0.mk (below_step G19_ hb); have n3_ := Aside0.mk (hbox); have n4_ := Aside0.mk ((by rw [hg]; exact (below_size G19_) : w.heap.size ≤ gb123)); have n5_ := Aside0.mk ((by rw [hg]; exact (below_size G19_) : w.heap.size ≤ gb123)); have n6_ := Aside0.mk ((by rw [hg]; exact Nat.ne_of_lt G39_ : gb121 ≠ gb123)); have n7_ := Aside0.mk ((by rw [hg]; exact Nat.ne_of_gt G39_ : gb123 ≠ gb121)); have n8_ := Aside0.mk ((by rw [hg]; exact Nat.ne_of_lt G68_ : gb122 ≠ gb123)); have n9_ := Aside0.mk ((by rw [hg]; exact Nat.ne_of_gt G68_ : gb123 ≠ gb122)); clear BK121; clear BK122; clear HB; have BK121 := n0_; have BK122 := n1_; have HB := n2_; have BK123 := n3_; have GW123 := n4_; have GE123 := n5_; have NB121_123 := n6_; have NB123_121 := n7_; have NB122_123 := n8_; have NB123_122 := n9_; clear n0_ n1_ n2_ n3_ n4_ n5_ n6_ n7_ n8_ n9_; clear hb hbox hg; have hnb5 := NB121_122.out; have hnc5 := NB122_121.out; have hnb6 := NB121_123.out; have hnc6 := NB123_121.out; have hcz7_0 : w4.cell? ⟨gb121, 0, none⟩ = some (.string a0_0) := (blk_cell BK121.out 0).trans rfl; have hcz7_1 : w4.cell? ⟨gb121, 1, none⟩ = some (.string a0_1) := (blk_cell BK121.out 1).trans rfl; have hcz7_2 : w4.cell? ⟨gb121, 2, none⟩ = some (.int .i64 a0_2) := (blk_cell BK121.out 2).trans rfl; have hfz7_0 := blk_frozen BK121.out 0; have hfz7_1 := blk_frozen BK121.out 1; have hfz7_2 := blk_frozen BK121.out 2; have hnb8 := NB123_122.out; have hnc8 := NB122_123.out; have hcz9_0 : w4.cell? ⟨gb123, 0, none⟩ = some (.string (⟨#[]⟩ : ByteArray)) := (blk_cell BK123.out 0).trans rfl; have hcz9_1 : w4.cell? ⟨gb123, 1, none⟩ = some (.string (⟨#[]⟩ : ByteArray)) := (blk_cell BK123.out 1).trans rfl; have hcz9_2 : w4.cell? ⟨gb123, 2, none⟩ = some (.int .i64 0) := (blk_cell BK123.out 2).trans rfl; have hfz9_0 := blk_frozen BK123.out 0; have hfz9_1 := blk_frozen BK123.out 1; have hfz9_2 := blk_frozen BK123.out 2; have hcz10_0 : w4.cell? ⟨gb122, 0, none⟩ = some (.string (⟨#[]⟩ : ByteArray)) := (blk_cell BK122.out 0).trans rfl; have hcz10_1 : w4.cell? ⟨gb122, 1, none⟩ = some (.string (⟨#[]⟩ : ByteArray)) := (blk_cell BK122.out 1).trans rfl; have hcz10_2 : w4.cell? ⟨gb122, 2, none⟩ = some (.int .i64 0) := (blk_cell BK122.out 2).trans rfl; have hfz10_0 := blk_frozen BK122.out 0; have hfz10_1 := blk_frozen BK122.out 1; have hfz10_2 := blk_frozen BK122.out 2))
 refine bodyPost_ret (results_cell_row rfl _ _ gb122 121 G17_ (0, 0) _ rfl (by G1_; refine blk_put (cs := #[.string a0_0, .string a0_1, .int .i64 0]) ?_ 2 _ rfl; G1_; refine blk_put (cs := #[.string a0_0, .string (⟨#[]⟩ : ByteArray), .int .i64 0]) ?_ 1 _ rfl; G1_; refine blk_put (cs := G22_) ?_ 0 _ rfl; G1_; refine blk_far ?_ NB122_123.out _; G1_; refine blk_far ?_ NB122_123.out _; G1_; refine blk_far ?_ NB122_123.out _; G1_; exact BK122.out) Try.underlying121 rfl (by kernel_rfl)) rfl ?_
 exact ⟨by first | rfl | (simp [errW_none, errW_some] <;> rfl) | (simp [*, errW_none, errW_some] <;> rfl), by repeat (first | (with_reducible first | exact HB.out | apply below_alloc | apply pw_below_drewN | apply below_drew1 | refine below_set ?_ GE121.out | refine below_set ?_ GE122.out | refine below_set ?_ GE123.out) | exact HB.out)⟩

/-! ### laws_toItemS: function 90 -/
def laws_toItemS.l0 : Nat → List (S176) → List (S121) → Int → Option ((List (S121)))
 | 0, _, _, _ => none
 | k + 1, x0, x3, x4 => if x4 < (x0.length : Int) then (if 0 ≤ x4 then ((laws_toItem.f ((rd_T176 x0 x4).f0) ((rd_T176 x0 x4).f1) ((rd_T176 x0 x4).f2)).bind fun bt128 => (if x4 < (x3.length : Int) then (laws_toItemS.l0 k x0 (x3.set (x4 : Int).toNat (⟨bt128.1, bt128.2.1, bt128.2.2⟩ : S121)) (wrap64 (x4 + 1))) else (none))) else (none)) else (some x3)
def laws_toItemS.f (k : Nat) (l0 : List (S176)) : Option ((List (S121))) := if 0 ≤ (l0.length : Int) then (if ((l0.length : Int) : Int).toNat ≤ 7036874417766 then (laws_toItemS.l0 k l0 (List.replicate ((l0.length : Int) : Int).toNat z121) 0) else (none)) else (none)
theorem laws_toItemS.mono_l : ∀ k, (∀ y0 y1 y2, LeO (laws_toItemS.l0 k y0 y1 y2) (laws_toItemS.l0 (k + 1) y0 y1 y2))
 | 0 => fun _ _ _ r h => by simp [laws_toItemS.l0] at h
 | k + 1 => by
  have ih0 := laws_toItemS.mono_l k
  ·intro y0 y1 y2
   unfold laws_toItemS.l0
   repeat' first
   | (with_reducible exact ih0 _ _ _)
   | (with_reducible exact LeO.refl _)
   | (with_reducible exact LeO.none _)
   | (with_reducible refine LeO.ite ?_ ?_)
   | (with_reducible refine LeO.bind ?_ (fun _ => ?_))
   | exact ih0 _ _ _
   | exact LeO.none _
   | refine LeO.ite ?_ ?_
   | refine LeO.bind ?_ (fun _ => ?_)
theorem laws_toItemS.mono : ∀ a0 k, LeO (laws_toItemS.f k a0) (laws_toItemS.f (k + 1) a0) := by
 intro a0 k
 have ih0 := laws_toItemS.mono_l k
 unfold laws_toItemS.f
 repeat' first
   | (with_reducible exact ih0 _ _ _)
   | (with_reducible exact LeO.refl _)
   | (with_reducible exact LeO.none _)
   | (with_reducible refine LeO.ite ?_ ?_)
   | (with_reducible refine LeO.bind ?_ (fun _ => ?_))
   | exact ih0 _ _ _
   | exact LeO.none _
   | refine LeO.ite ?_ ?_
   | refine LeO.bind ?_ (fun _ => ?_)
set_option maxHeartbeats 8000000 in
set_option maxRecDepth 100000 in
theorem laws_toItemS.calls (k : Nat) (A0 : Option Addr) (c0 : Nat) (l0 : List (S176)) (r : List (S121)) (w : World) (hr0 : Kd.C k176 w A0 l0.length l0) (hc0 : l0.length ≤ c0) (h : laws_toItemS.f k l0 = some r) :
  Calls Try.prog 90 #[.slice A0 l0.length c0] w fun e w' => ∃ v0_ : Value, e = .returned (v0_) ∧ Kd.R k121 121 w' w.heap.size (fun _ => True) v0_ r ∧ Below w.heap.size w w' := by
 J25_
 have hu121 := Try.underlying121
 J13_
 J7_
 have H : (if 0 ≤ (l0.length : Int) then (if ((l0.length : Int) : Int).toNat ≤ 7036874417766 then (laws_toItemS.l0 k l0 (List.replicate ((l0.length : Int) : Int).toNat z121) 0) else (none)) else (none)) = some r := h
 clear h
 by_cases c2 : 0 ≤ (l0.length : Int)
 ·rw [if_pos c2] at H
  J21_
  by_cases c3 : ((l0.length : Int) : Int).toNat ≤ 7036874417766
  ·rw [if_pos c3] at H
   have c3b0 := eq_true c3
   have c3b1 : decide (((l0.length : Int) : Int).toNat ≤ 7036874417766) = true := decide_eq_true c3
   clear c3
   obtain ⟨y124, hy124⟩ : ∃ y_ : List (S121), y_ = (List.replicate ((l0.length : Int) : Int).toNat z121) := ⟨_, rfl⟩
   replace H : (laws_toItemS.l0 k l0 y124 0) = some r := by first | (rw [hy124]; with_reducible exact H) | (have H2_ := (Option.bind_some _ _).symm.trans H; rw [hy124]; with_reducible exact H2_) | G36_ | with_reducible exact H | (rw [hy124]; exact H) | exact H
   have Ny124 := Aside0.mk hy124
   clear hy124
   J12_
   go_enter Try.func90, Try.ntmps90
   go_wp2_with (first | ((with_reducible refine gate_dst (N := 7) rfl ?_); refine Kd.R_make k121 _ 121 rfl (N := 7) rfl 40 _ _ rfl (l0.length : Int) rfl rfl Try.underlying40 (.agg #[(.string ⟨#[]⟩), (.string ⟨#[]⟩), (.int .i64 0)]) 40 info121 rfl (by decide) (by omega) z121 (ok := fun _ => True) (okp := fun _ => True) (k121_mkM _ _ _ z121 ) (fun _ hk => hk) trivial G57_ (Nat.le_trans (Nat.mul_le_mul_right _ (of_decide_eq_true G5_ : (l0.length : Int).toNat ≤ 7036874417766)) (by omega)) (Below.refl _ _) (Nat.le_refl _) ?_; intro v125 w4 ho5 hb hg_ hnew_; clear hg_ hnew_; (first | rw [← Ny124.out] at ho5 | (simp only [Int.reduceToNat] at ho5; rw [← Ny124.out] at ho5)); have n0_ := Aside0.mk (Kd.R_lower ho5 G11_); have n1_ := Aside0.mk G13_; clear HB; have HO126 := n0_; have HB := n1_; clear n0_ n1_; clear hb ho5))
   go_loopg [4] k (fun kq v4 w' => ∃ (x3_1 : List (S121)) (x4_1 : Int), v4 = .int .i64 x4_1 ∧ Aside0 (laws_toItemS.l0 kq l0 x3_1 x4_1 = some r) ∧ Aside0 (kq ≤ k) ∧ Aside0 (Kd.R k121 121 w' w.heap.size (fun _ => True) v125 x3_1) ∧ Aside0 (Below w.heap.size w w'))
   case atStart => exact ⟨(y124), (0), (by be_), H', ⟨Nat.le_refl _⟩, ⟨by G8_; exact HO126.out⟩, ⟨by repeat G0_⟩⟩
   case round =>
    J15_
    cases gk with
    | zero => exact absurd HA.out (by simp [laws_toItemS.l0])
    | succ k1 =>
     J31_
     simp only [laws_toItemS.l0] at H
     by_cases c6 : x4_1 < (l0.length : Int)
     ·rw [if_pos c6] at H
      J30_
      by_cases c7 : 0 ≤ x4_1
      ·rw [if_pos c7] at H
       J33_
       J10_
       obtain ⟨⟨t128, t129, t130⟩, A80, H⟩ := H
       J19_
       J34_
       by_cases c9 : x4_1 < (x3_1.length : Int)
       ·rw [if_pos c9] at H
        J28_
        obtain ⟨y131, hy131⟩ : ∃ y_ : List (S121), y_ = (x3_1.set (x4_1 : Int).toNat (⟨t128, t129, t130⟩ : S121)) := ⟨_, rfl⟩
        replace H : (laws_toItemS.l0 k1 l0 y131 (wrap64 (x4_1 + 1))) = some r := by first | (rw [hy131]; with_reducible exact H) | (have H2_ := (Option.bind_some _ _).symm.trans H; rw [hy131]; with_reducible exact H2_) | G36_ | with_reducible exact H | (rw [hy131]; exact H) | exact H
        have Ny131 := Aside0.mk hy131
        clear hy131
        J12_
        have p127 : 0 ≤ (x4_1 : Int) := of_decide_eq_true G5_
        have q127 : x4_1 < (l0.length : Int) := of_decide_eq_true G5_
        obtain ⟨ad127, e127, hx127_0, hx127_1, hx127_2⟩ := at_T176 HR0.out x4_1 p127 q127
        cases e127
        replace hx127_0 := (HB.out.cell (World.block_lt_of_cell? w _ hx127_0)).trans hx127_0
        replace hx127_1 := (HB.out.cell (World.block_lt_of_cell? w _ hx127_1)).trans hx127_1
        replace hx127_2 := (HB.out.cell (World.block_lt_of_cell? w _ hx127_2)).trans hx127_2
        replace p127 := eq_true p127
        replace q127 := eq_true q127
        go_wp2_with (first | ((with_reducible refine gate_callee (f := 154) rfl ?_); refine goesL_ (some 20) rfl rfl Try.func154 (by kernel_rfl) rfl #[.agg #[.string ((rd_T176 l0 x4_1).f0), .string ((rd_T176 l0 x4_1).f1), .int .i64 ((rd_T176 l0 x4_1).f2)]] rfl G3_ ?_; (with_reducible refine (laws_toItem.calls ((rd_T176 l0 x4_1).f0) ((rd_T176 l0 x4_1).f1) ((rd_T176 l0 x4_1).f2) t128 t129 t130 _ A8.out).mono ?_); rintro e w11 ⟨rfl, hb⟩; refine ⟨_, rfl, ?_⟩; have n0_ := Aside0.mk (Kd.R_below (by G8_; exact HO_3.out) hb); have n1_ := Aside0.mk G13_; clear HO_3; clear HB; have HO_3 := n0_; have HB := n1_; clear n0_ n1_; (try clear hb); (try clear hb2); (try clear hk); (try clear hi); have p10 : 0 ≤ (x4_1 : Int) := of_decide_eq_true G5_; have q10 : (x4_1 : Int) < ((x3_1.length : Int) : Int) := of_decide_eq_true G5_; obtain ⟨go10, co10, eo10, gb10, gl10, cl10, HG10⟩ := Kd.R_form HO_3.out (by omega); G48_; have GB10 := Aside0.mk gb10; have GG10 := Aside0.mk HG10; clear gb10 gl10 HG10; obtain ⟨ce10, hcl10, hM10, hcc10, hfr10⟩ := Kd.R_elem HO_3.out z121 (x4_1 : Int) p10 q10; obtain rfl := k121_openM hM10; have hx10_0 : w11.cell? ⟨go10, (x4_1 : Int).toNat * 3, none⟩ = some (.string ((rd_T121 x3_1 x4_1).f0)) := hcc10 0 _ rfl; have hx10_1 : w11.cell? ⟨go10, (x4_1 : Int).toNat * 3 + 1, none⟩ = some (.string ((rd_T121 x3_1 x4_1).f1)) := hcc10 1 _ rfl; have hx10_2 : w11.cell? ⟨go10, (x4_1 : Int).toNat * 3 + 2, none⟩ = some (.int .i64 ((rd_T121 x3_1 x4_1).f2)) := hcc10 2 _ rfl; have hf10_0 : w11.frozen? ⟨go10, (x4_1 : Int).toNat * 3, none⟩ = false := hfr10 0; have hf10_1 : w11.frozen? ⟨go10, (x4_1 : Int).toNat * 3 + 1, none⟩ = false := hfr10 1; have hf10_2 : w11.frozen? ⟨go10, (x4_1 : Int).toNat * 3 + 2, none⟩ = false := hfr10 2; clear hcl10 hcc10 hfr10 hM10; replace p10 := eq_true p10; replace q10 := eq_true q10; have HX12 := Aside0.mk (show Kd.R k121 121 w11 w.heap.size (fun _ => True) G45_ x3_1 from (by G8_; exact HO_3.out)); obtain ⟨ce12, hcl12, hM12, hcc12, hfr12⟩ := Kd.R_elem HX12.out z121 (x4_1 : Int) G57_ G16_; obtain rfl := k121_openM hM12; have HP12 := Kd.R_seg HX12.out (x4_1 : Int) G57_ G16_ (seg := [.string t128, .string t129, .int .i64 t130]) (j := 0) hcl12 hcc12 (show 3 ≤ 3 from by decide) (x' := (⟨t128, t129, t130⟩ : S121)) (k121_mkM _ _ _ (⟨t128, t129, t130⟩ : S121) ) (fun _ hk => hk); have hx12_0 := hcc12 0 _ rfl; (try simp only [show (k121).sz = 3 from rfl, Nat.mul_one, Nat.add_zero] at hx12_0); have hf12_0 := hfr12 0; (try simp only [show (k121).sz = 3 from rfl, Nat.mul_one, Nat.add_zero] at hf12_0); have hx12_1 := hcc12 1 _ rfl; (try simp only [show (k121).sz = 3 from rfl, Nat.mul_one, Nat.add_zero] at hx12_1); have hf12_1 := hfr12 1; (try simp only [show (k121).sz = 3 from rfl, Nat.mul_one, Nat.add_zero] at hf12_1); have hx12_2 := hcc12 2 _ rfl; (try simp only [show (k121).sz = 3 from rfl, Nat.mul_one, Nat.add_zero] at hx12_2); have hf12_2 := hfr12 2; (try simp only [show (k121).sz = 3 from rfl, Nat.mul_one, Nat.add_zero] at hf12_2); clear hcl12 hcc12 hfr12 hM12) | ((with_reducible refine gate_store (t := 121) (p := 21) rfl ?_); refine store_event (t := 121) (p := 21) (v := ?vo_w13) (w1 := (((w11.setCell ⟨go10, (x4_1 : Int).toNat * 3, none⟩ (.string t128)).setCell ⟨go10, (x4_1 : Int).toNat * 3 + 1, none⟩ (.string t129)).setCell ⟨go10, (x4_1 : Int).toNat * 3 + 2, none⟩ (.int .i64 t130))) ?hg ?ho ?hn ?hr ?_; (case ho => rfl); (case hg => rfl); (case hn => rfl); G4_; intro w13 hw; have hg : w11.grownBy w13 (some go10) := (by rw [hw]; exact HP12.2); have hp_ : Kd.R k121 121 w13 w.heap.size (fun _ => True) G45_ y131 := (by rw [hw, Ny131.out]; exact HP12.1); clear HP12; have n0_ := Aside0.mk (hp_); have n1_ := Aside0.mk (G53_); clear HO_3; clear HB; have HO_3 := n0_; have HB := n1_; clear n0_ n1_; clear hg hw hp_))
        J18_
        case rel => exact ⟨(y131), (wrap64 (x4_1 + 1)), (by be_), H', G62_, ⟨by G8_; exact HO_3.out⟩, ⟨by repeat G0_⟩⟩
       ·rw [if_neg c9] at H
        J14_
      ·rw [if_neg c7] at H
       J14_
     ·rw [if_neg c6] at H
      J27_
      J6_
      J8_
  ·rw [if_neg c3] at H
   J14_
 ·rw [if_neg c2] at H
  J14_

/-! ### laws_toKeep: function 22 -/
def laws_toKeep.f (k : Nat) (l0_0 : List (S174)) (l0_1 : List (S176)) : Option ((List (S119)) × (List (S121))) := (laws_toSessionS.f k l0_0).bind fun t135 => ((laws_toItemS.f k l0_1).bind fun t138 => (some (t135, t138)))
theorem laws_toKeep.mono : ∀ a0 a1 k, LeO (laws_toKeep.f k a0 a1) (laws_toKeep.f (k + 1) a0 a1) := by
 intro a0 a1 k
 unfold laws_toKeep.f
 repeat' first
   | (with_reducible exact laws_toItemS.mono _ _)
   | (with_reducible exact laws_toSessionS.mono _ _)
   | (with_reducible exact LeO.refl _)
   | (with_reducible exact LeO.none _)
   | (with_reducible refine LeO.ite ?_ ?_)
   | (with_reducible refine LeO.bind ?_ (fun _ => ?_))
   | exact laws_toItemS.mono _ _
   | exact laws_toSessionS.mono _ _
   | exact LeO.none _
   | refine LeO.ite ?_ ?_
   | refine LeO.bind ?_ (fun _ => ?_)
set_option maxHeartbeats 8000000 in
set_option maxRecDepth 100000 in
theorem laws_toKeep.calls (k : Nat) (A0_0 : Option Addr) (c0_0 : Nat) (l0_0 : List (S174)) (A0_1 : Option Addr) (c0_1 : Nat) (l0_1 : List (S176)) (r1 : List (S119)) (r2 : List (S121)) (w : World) (hr0_0 : Kd.C k174 w A0_0 l0_0.length l0_0) (hc0_0 : l0_0.length ≤ c0_0) (hr0_1 : Kd.C k176 w A0_1 l0_1.length l0_1) (hc0_1 : l0_1.length ≤ c0_1) (h : laws_toKeep.f k l0_0 l0_1 = some (r1, r2)) :
  Calls Try.prog 22 #[.agg #[.slice A0_0 l0_0.length c0_0, .slice A0_1 l0_1.length c0_1]] w fun e w' => ∃ v0_ v1_ : Value, e = .returned (.agg #[v0_, v1_]) ∧ Kd.R k119 119 w' w.heap.size (fun _ => True) v0_ r1 ∧ Kd.R k121 121 w' w.heap.size (fun _ => True) v1_ r2 ∧ Below w.heap.size w w' := by
 have hu36 := Try.underlying36
 have hu42 := Try.underlying42
 J16_
 J7_
 have H : ((laws_toSessionS.f k l0_0).bind fun t135 => ((laws_toItemS.f k l0_1).bind fun t138 => (some (t135, t138)))) = some (r1, r2) := h
 clear h
 J10_
 obtain ⟨t135, A20, H⟩ := H
 J19_
 have A2 := Aside0.mk A20
 clear A20
 J10_
 obtain ⟨t138, A30, H⟩ := H
 J19_
 have A3 := Aside0.mk A30
 clear A30
 simp only [Option.some.injEq, Prod.mk.injEq] at H
 obtain ⟨rfl, rfl⟩ := H
 go_enter Try.func22, Try.ntmps22
 go_wp2_with (first | (G58_; refine box_event ?hg (N := 1) ?hd (cs := G9_) (t := 36) ?hr ?_; (case hd => rfl); (case hg => rfl); G4_; intro gb132 hg w4 hbox hb; have n0_ := Aside0.mk G13_; have n1_ := Aside0.mk (hbox); have n2_ := Aside0.mk ((by rw [hg]; exact G11_ : w.heap.size ≤ gb132)); have n3_ := Aside0.mk ((by rw [hg]; exact G11_ : w.heap.size ≤ gb132)); clear HB; have HB := n0_; have BK132 := n1_; have GW132 := n2_; have GE132 := n3_; clear n0_ n1_ n2_ n3_; clear hb hbox hg) | (G12_; refine box_event ?hg (N := 2) ?hd (cs := G29_) (t := 42) ?hr ?_; (case hd => rfl); (case hg => rfl); G4_; intro gb133 hg w5 hbox hb; have n0_ := Aside0.mk G40_; have n1_ := Aside0.mk (below_step G25_ hb); have n2_ := Aside0.mk (hbox); have n3_ := Aside0.mk ((by rw [hg]; exact (below_size G25_) : w.heap.size ≤ gb133)); have n4_ := Aside0.mk ((by rw [hg]; exact (below_size G25_) : w.heap.size ≤ gb133)); have n5_ := Aside0.mk ((by rw [hg]; exact Nat.ne_of_lt G35_ : gb132 ≠ gb133)); have n6_ := Aside0.mk ((by rw [hg]; exact Nat.ne_of_gt G35_ : gb133 ≠ gb132)); clear BK132; clear HB; have BK132 := n0_; have HB := n1_; have BK133 := n2_; have GW133 := n3_; have GE133 := n4_; have NB132_133 := n5_; have NB133_132 := n6_; clear n0_ n1_ n2_ n3_ n4_ n5_ n6_; clear hb hbox hg) | (G30_; refine box_event ?hg (N := 3) ?hd (cs := G29_) (t := 42) ?hr ?_; (case hd => rfl); (case hg => rfl); G4_; intro gb134 hg w6 hbox hb; have n0_ := Aside0.mk G40_; have n1_ := Aside0.mk G64_; have n2_ := Aside0.mk (below_step G20_ hb); have n3_ := Aside0.mk (hbox); have n4_ := Aside0.mk ((by rw [hg]; exact (below_size G20_) : w.heap.size ≤ gb134)); have n5_ := Aside0.mk ((by rw [hg]; exact (below_size G20_) : w.heap.size ≤ gb134)); have n6_ := Aside0.mk ((by rw [hg]; exact Nat.ne_of_lt G35_ : gb132 ≠ gb134)); have n7_ := Aside0.mk ((by rw [hg]; exact Nat.ne_of_gt G35_ : gb134 ≠ gb132)); have n8_ := Aside0.mk ((by rw [hg]; exact Nat.ne_of_lt G69_ : gb133 ≠ gb134)); have n9_ := Aside0.mk ((by rw [hg]; exact Nat.ne_of_gt G69_ : gb134 ≠ gb133)); clear BK132; clear BK133; clear HB; have BK132 := n0_; have BK133 := n1_; have HB := n2_; have BK134 := n3_; have GW134 := n4_; have GE134 := n5_; have NB132_134 := n6_; have NB134_132 := n7_; have NB133_134 := n8_; have NB134_133 := n9_; clear n0_ n1_ n2_ n3_ n4_ n5_ n6_ n7_ n8_ n9_; clear hb hbox hg; have hnb7 := NB132_133.out; have hnc7 := NB133_132.out; have hnb8 := NB132_134.out; have hnc8 := NB134_132.out; have hcz9_0 : w6.cell? ⟨gb132, 0, none⟩ = some G41_ := (blk_cell BK132.out 0).trans rfl; have hcz9_1 : w6.cell? ⟨gb132, 1, none⟩ = some G42_ := (blk_cell BK132.out 1).trans rfl; have hfz9_0 := blk_frozen BK132.out 0; have hfz9_1 := blk_frozen BK132.out 1) | ((with_reducible refine gate_callee (f := 89) rfl ?_); refine goesL_ (some 6) rfl rfl Try.func89 (by kernel_rfl) rfl #[.slice A0_0 l0_0.length c0_0] rfl G3_ ?_; (with_reducible refine (laws_toSessionS.calls k _ _ l0_0 t135 _ ?side1 ?side2 A2.out).mono ?_); G14_; G61_; rintro e w10 ⟨v136, rfl, ho0, hb⟩; refine ⟨_, rfl, ?_⟩; have n0_ := Aside0.mk (Kd.R_lower ho0 (below_size (by repeat G6_))); have n1_ := Aside0.mk G40_; have n2_ := Aside0.mk G64_; have n3_ := Aside0.mk (blk_below (g := gb134) (o := .cells G29_ 42 (0, 0)) (by G1_; exact BK134.out) hb); have n4_ := Aside0.mk (below_step (by repeat G6_) hb); clear BK132; clear BK133; clear BK134; clear HB; have HO137 := n0_; have BK132 := n1_; have BK133 := n2_; have BK134 := n3_; have HB := n4_; clear n0_ n1_ n2_ n3_ n4_; (try clear hb); (try clear hb2); (try clear hk); (try clear hi); (try clear ho0); obtain ⟨Ao11, co11, eo11⟩ := Kd.R_slice HO137.out; subst eo11; have hnb12 := NB134_133.out; have hnc12 := NB133_134.out; have hcz13_0 : w10.cell? ⟨gb134, 0, none⟩ = some (.slice none 0 0) := (blk_cell BK134.out 0).trans rfl; have hcz13_1 : w10.cell? ⟨gb134, 1, none⟩ = some (.slice none 0 0) := (blk_cell BK134.out 1).trans rfl; have hfz13_0 := blk_frozen BK134.out 0; have hfz13_1 := blk_frozen BK134.out 1; have hcz14_0 : w10.cell? ⟨gb132, 0, none⟩ = some G41_ := (blk_cell BK132.out 0).trans rfl; have hcz14_1 : w10.cell? ⟨gb132, 1, none⟩ = some G42_ := (blk_cell BK132.out 1).trans rfl; have hfz14_0 := blk_frozen BK132.out 0; have hfz14_1 := blk_frozen BK132.out 1) | ((with_reducible refine gate_callee (f := 90) rfl ?_); refine goesL_ (some 10) rfl rfl Try.func90 (by kernel_rfl) rfl #[.slice A0_1 l0_1.length c0_1] rfl G3_ ?_; (with_reducible refine (laws_toItemS.calls k _ _ l0_1 t138 _ ?side1 ?side2 A3.out).mono ?_); (case side1 => exact Kd.C_below HR0_1.out (by repeat G6_)); (case side2 => exact HC0_1.out); rintro e w15 ⟨v139, rfl, ho0, hb⟩; refine ⟨_, rfl, ?_⟩; have n0_ := Aside0.mk (Kd.R_below (by G8_; exact (Kd.R_mono (Kd.R_far (p := ⟨gb134, 0, none⟩) (Kd.R_types HO137.out BK134.out (by decide)) (fun _ hk => hk.2) G65_) (fun _ h_ => h_.1))) hb); have n1_ := Aside0.mk (Kd.R_lower ho0 (below_size (by repeat G6_))); have n2_ := Aside0.mk (blk_below (g := gb132) (o := .cells G9_ 36 (0, 0)) (by G1_; refine blk_far ?_ NB132_134.out _; G1_; exact BK132.out) hb); have n3_ := Aside0.mk (blk_below (g := gb133) (o := .cells G29_ 42 (0, 0)) (by G1_; refine blk_far ?_ NB133_134.out _; G1_; exact BK133.out) hb); have n4_ := Aside0.mk (blk_below (g := gb134) (o := .cells #[.slice Ao11 t135.length co11, .slice none 0 0] 42 (0, 0)) (by G1_; refine blk_put (cs := G29_) ?_ 0 _ rfl; G1_; exact BK134.out) hb); have n5_ := Aside0.mk (below_step (by repeat G6_) hb); clear HO137; clear BK132; clear BK133; clear BK134; clear HB; have HO137 := n0_; have HO140 := n1_; have BK132 := n2_; have BK133 := n3_; have BK134 := n4_; have HB := n5_; clear n0_ n1_ n2_ n3_ n4_ n5_; (try clear hb); (try clear hb2); (try clear hk); (try clear hi); (try clear ho0); obtain ⟨Ao16, co16, eo16⟩ := Kd.R_slice HO140.out; subst eo16; have hcz17_0 : w15.cell? ⟨gb134, 0, none⟩ = some G65_ := (blk_cell BK134.out 0).trans rfl; have hcz17_1 : w15.cell? ⟨gb134, 1, none⟩ = some (.slice none 0 0) := (blk_cell BK134.out 1).trans rfl; have hfz17_0 := blk_frozen BK134.out 0; have hfz17_1 := blk_frozen BK134.out 1; have hcz18_0 : w15.cell? ⟨gb133, 0, none⟩ = some (.slice none 0 0) := (blk_cell BK133.out 0).trans rfl; have hcz18_1 : w15.cell? ⟨gb133, 1, none⟩ = some (.slice none 0 0) := (blk_cell BK133.out 1).trans rfl; have hfz18_0 := blk_frozen BK133.out 0; have hfz18_1 := blk_frozen BK133.out 1))
 refine bodyPost_ret (results_cell_row rfl _ _ gb133 42 #[.slice Ao11 t135.length co11, .slice Ao16 t138.length co16] (0, 0) _ rfl (by G1_; refine blk_put (cs := #[.slice Ao11 t135.length co11, .slice none 0 0]) ?_ 1 _ rfl; G1_; refine blk_put (cs := G29_) ?_ 0 _ rfl; G1_; refine blk_far ?_ NB133_134.out _; G1_; exact BK133.out) Try.underlying42 rfl (by kernel_rfl)) rfl ?_
 exact ⟨_, _, by first | rfl | (simp [errW_none, errW_some] <;> rfl) | (simp [*, errW_none, errW_some] <;> rfl), by G8_; exact Kd.R_mono (Kd.R_far (p := ⟨gb133, 1, none⟩) (Kd.R_far (p := ⟨gb133, 0, none⟩) (Kd.R_far (p := ⟨gb134, 1, none⟩) (Kd.R_types (Kd.R_types HO137.out BK134.out (by decide)) BK133.out (by decide)) (fun _ hk => hk.1.2) G66_) (fun _ hk => hk.2) G65_) (fun _ hk => hk.2) G66_) (fun _ hk => trivial), by G8_; exact Kd.R_mono (Kd.R_far (p := ⟨gb133, 1, none⟩) (Kd.R_far (p := ⟨gb133, 0, none⟩) (Kd.R_far (p := ⟨gb134, 1, none⟩) (Kd.R_types (Kd.R_types HO140.out BK134.out (by decide)) BK133.out (by decide)) (fun _ hk => hk.1.2) G66_) (fun _ hk => hk.2) G65_) (fun _ hk => hk.2) G66_) (fun _ hk => trivial), by repeat G6_⟩

/-! ### laws_eqSession: function 155 -/
def laws_eqSession.f (a0_0 : Int) (a0_1 : Int) (a0_2 : ByteArray) (a1_0 : Int) (a1_1 : Int) (a1_2 : ByteArray) : Option (Bool) := if a0_0 = a1_0 then (if a0_1 = a1_1 then (if a0_2.toList = a1_2.toList then (some true) else (some false)) else (some false)) else (some false)
set_option maxHeartbeats 8000000 in
set_option maxRecDepth 100000 in
theorem laws_eqSession.calls (a0_0 : Int) (a0_1 : Int) (a0_2 : ByteArray) (a1_0 : Int) (a1_1 : Int) (a1_2 : ByteArray) (r : Bool) (w : World) (h : laws_eqSession.f a0_0 a0_1 a0_2 a1_0 a1_1 a1_2 = some r) :
  Calls Try.prog 155 #[.agg #[.int .i64 a0_0, .int .i64 a0_1, .string a0_2], .agg #[.int .i64 a1_0, .int .i64 a1_1, .string a1_2]] w fun e w' => e = .returned (.bool r) ∧ Below w.heap.size w w' := by
 have hu119 := Try.underlying119
 J7_
 have H : (if a0_0 = a1_0 then (if a0_1 = a1_1 then (if a0_2.toList = a1_2.toList then (some true) else (some false)) else (some false)) else (some false)) = some r := h
 clear h
 by_cases c3 : a0_0 = a1_0
 ·rw [if_pos c3] at H
  have c3b0 : (a0_0 == a1_0) = true := beq_iff_eq.mpr c3
  have c3b1 : (a0_0 != a1_0) = false := bne_eq_false_iff_eq.mpr c3
  clear c3
  by_cases c4 : a0_1 = a1_1
  ·rw [if_pos c4] at H
   have c4b0 : (a0_1 == a1_1) = true := beq_iff_eq.mpr c4
   have c4b1 : (a0_1 != a1_1) = false := bne_eq_false_iff_eq.mpr c4
   clear c4
   by_cases c5 : a0_2.toList = a1_2.toList
   ·rw [if_pos c5] at H
    have c5b0 : (a0_2.toList == a1_2.toList) = true := beq_iff_eq.mpr c5
    have c5b1 : (a0_2.toList != a1_2.toList) = false := bne_eq_false_iff_eq.mpr c5
    clear c5
    J6_
    go_enter Try.func155, Try.ntmps155
    go_wp2_with (first | (G12_; refine box_event ?hg (N := 2) ?hd (cs := G7_) (t := 119) ?hr ?_; (case hd => rfl); (case hg => rfl); G4_; intro gb141 hg w6 hbox hb; have n0_ := Aside0.mk G13_; have n1_ := Aside0.mk (hbox); have n2_ := Aside0.mk (G27_); have n3_ := Aside0.mk (G27_); clear HB; have HB := n0_; have BK141 := n1_; have GW141 := n2_; have GE141 := n3_; clear n0_ n1_ n2_ n3_; clear hb hbox hg) | (G30_; refine box_event ?hg (N := 3) ?hd (cs := G50_) (t := 119) ?hr ?_; (case hd => rfl); (case hg => rfl); G4_; intro gb142 hg w7 hbox hb; have n0_ := Aside0.mk G31_; have n1_ := Aside0.mk (below_step G2_ hb); have n2_ := Aside0.mk (hbox); have n3_ := Aside0.mk (G21_); have n4_ := Aside0.mk (G21_); have n5_ := Aside0.mk (G44_); have n6_ := Aside0.mk (G43_); clear BK141; clear HB; have BK141 := n0_; have HB := n1_; have BK142 := n2_; have GW142 := n3_; have GE142 := n4_; have NB141_142 := n5_; have NB142_141 := n6_; clear n0_ n1_ n2_ n3_ n4_ n5_ n6_; clear hb hbox hg; have hnb8 := NB141_142.out; have hnc8 := NB142_141.out; have hcz9_0 : w7.cell? ⟨gb141, 0, none⟩ = some (.int .i64 a0_0) := (blk_cell BK141.out 0).trans rfl; have hcz9_1 : w7.cell? ⟨gb141, 1, none⟩ = some (.int .i64 a0_1) := (blk_cell BK141.out 1).trans rfl; have hcz9_2 : w7.cell? ⟨gb141, 2, none⟩ = some (.string a0_2) := (blk_cell BK141.out 2).trans rfl; have hfz9_0 := blk_frozen BK141.out 0; have hfz9_1 := blk_frozen BK141.out 1; have hfz9_2 := blk_frozen BK141.out 2; have hcz10_0 : w7.cell? ⟨gb142, 0, none⟩ = some (.int .i64 a1_0) := (blk_cell BK142.out 0).trans rfl; have hcz10_1 : w7.cell? ⟨gb142, 1, none⟩ = some (.int .i64 a1_1) := (blk_cell BK142.out 1).trans rfl; have hcz10_2 : w7.cell? ⟨gb142, 2, none⟩ = some (.string a1_2) := (blk_cell BK142.out 2).trans rfl; have hfz10_0 := blk_frozen BK142.out 0; have hfz10_1 := blk_frozen BK142.out 1; have hfz10_2 := blk_frozen BK142.out 2))
    J1_
   ·rw [if_neg c5] at H
    have c5b0 : (a0_2.toList == a1_2.toList) = false := beq_eq_false_iff_ne.mpr c5
    have c5b1 : (a0_2.toList != a1_2.toList) = true := bne_iff_ne.mpr c5
    J6_
    go_enter Try.func155, Try.ntmps155
    go_wp2_with (first | (G12_; refine box_event ?hg (N := 2) ?hd (cs := G7_) (t := 119) ?hr ?_; (case hd => rfl); (case hg => rfl); G4_; intro gb141 hg w11 hbox hb; have n0_ := Aside0.mk G13_; have n1_ := Aside0.mk (hbox); have n2_ := Aside0.mk (G27_); have n3_ := Aside0.mk (G27_); clear HB; have HB := n0_; have BK141 := n1_; have GW141 := n2_; have GE141 := n3_; clear n0_ n1_ n2_ n3_; clear hb hbox hg) | (G30_; refine box_event ?hg (N := 3) ?hd (cs := G50_) (t := 119) ?hr ?_; (case hd => rfl); (case hg => rfl); G4_; intro gb142 hg w12 hbox hb; have n0_ := Aside0.mk G31_; have n1_ := Aside0.mk (below_step G2_ hb); have n2_ := Aside0.mk (hbox); have n3_ := Aside0.mk (G21_); have n4_ := Aside0.mk (G21_); have n5_ := Aside0.mk (G44_); have n6_ := Aside0.mk (G43_); clear BK141; clear HB; have BK141 := n0_; have HB := n1_; have BK142 := n2_; have GW142 := n3_; have GE142 := n4_; have NB141_142 := n5_; have NB142_141 := n6_; clear n0_ n1_ n2_ n3_ n4_ n5_ n6_; clear hb hbox hg; have hnb13 := NB141_142.out; have hnc13 := NB142_141.out; have hcz14_0 : w12.cell? ⟨gb141, 0, none⟩ = some (.int .i64 a0_0) := (blk_cell BK141.out 0).trans rfl; have hcz14_1 : w12.cell? ⟨gb141, 1, none⟩ = some (.int .i64 a0_1) := (blk_cell BK141.out 1).trans rfl; have hcz14_2 : w12.cell? ⟨gb141, 2, none⟩ = some (.string a0_2) := (blk_cell BK141.out 2).trans rfl; have hfz14_0 := blk_frozen BK141.out 0; have hfz14_1 := blk_frozen BK141.out 1; have hfz14_2 := blk_frozen BK141.out 2; have hcz15_0 : w12.cell? ⟨gb142, 0, none⟩ = some (.int .i64 a1_0) := (blk_cell BK142.out 0).trans rfl; have hcz15_1 : w12.cell? ⟨gb142, 1, none⟩ = some (.int .i64 a1_1) := (blk_cell BK142.out 1).trans rfl; have hcz15_2 : w12.cell? ⟨gb142, 2, none⟩ = some (.string a1_2) := (blk_cell BK142.out 2).trans rfl; have hfz15_0 := blk_frozen BK142.out 0; have hfz15_1 := blk_frozen BK142.out 1; have hfz15_2 := blk_frozen BK142.out 2))
    J1_
  ·rw [if_neg c4] at H
   have c4b0 : (a0_1 == a1_1) = false := beq_eq_false_iff_ne.mpr c4
   have c4b1 : (a0_1 != a1_1) = true := bne_iff_ne.mpr c4
   J6_
   go_enter Try.func155, Try.ntmps155
   go_wp2_with (first | (G12_; refine box_event ?hg (N := 2) ?hd (cs := G7_) (t := 119) ?hr ?_; (case hd => rfl); (case hg => rfl); G4_; intro gb141 hg w16 hbox hb; have n0_ := Aside0.mk G13_; have n1_ := Aside0.mk (hbox); have n2_ := Aside0.mk (G27_); have n3_ := Aside0.mk (G27_); clear HB; have HB := n0_; have BK141 := n1_; have GW141 := n2_; have GE141 := n3_; clear n0_ n1_ n2_ n3_; clear hb hbox hg) | (G30_; refine box_event ?hg (N := 3) ?hd (cs := G50_) (t := 119) ?hr ?_; (case hd => rfl); (case hg => rfl); G4_; intro gb142 hg w17 hbox hb; have n0_ := Aside0.mk G31_; have n1_ := Aside0.mk (below_step G2_ hb); have n2_ := Aside0.mk (hbox); have n3_ := Aside0.mk (G21_); have n4_ := Aside0.mk (G21_); have n5_ := Aside0.mk (G44_); have n6_ := Aside0.mk (G43_); clear BK141; clear HB; have BK141 := n0_; have HB := n1_; have BK142 := n2_; have GW142 := n3_; have GE142 := n4_; have NB141_142 := n5_; have NB142_141 := n6_; clear n0_ n1_ n2_ n3_ n4_ n5_ n6_; clear hb hbox hg; have hnb18 := NB141_142.out; have hnc18 := NB142_141.out; have hcz19_0 : w17.cell? ⟨gb141, 0, none⟩ = some (.int .i64 a0_0) := (blk_cell BK141.out 0).trans rfl; have hcz19_1 : w17.cell? ⟨gb141, 1, none⟩ = some (.int .i64 a0_1) := (blk_cell BK141.out 1).trans rfl; have hcz19_2 : w17.cell? ⟨gb141, 2, none⟩ = some (.string a0_2) := (blk_cell BK141.out 2).trans rfl; have hfz19_0 := blk_frozen BK141.out 0; have hfz19_1 := blk_frozen BK141.out 1; have hfz19_2 := blk_frozen BK141.out 2; have hcz20_0 : w17.cell? ⟨gb142, 0, none⟩ = some (.int .i64 a1_0) := (blk_cell BK142.out 0).trans rfl; have hcz20_1 : w17.cell? ⟨gb142, 1, none⟩ = some (.int .i64 a1_1) := (blk_cell BK142.out 1).trans rfl; have hcz20_2 : w17.cell? ⟨gb142, 2, none⟩ = some (.string a1_2) := (blk_cell BK142.out 2).trans rfl; have hfz20_0 := blk_frozen BK142.out 0; have hfz20_1 := blk_frozen BK142.out 1; have hfz20_2 := blk_frozen BK142.out 2))
   J1_
 ·rw [if_neg c3] at H
  have c3b0 : (a0_0 == a1_0) = false := beq_eq_false_iff_ne.mpr c3
  have c3b1 : (a0_0 != a1_0) = true := bne_iff_ne.mpr c3
  J6_
  go_enter Try.func155, Try.ntmps155
  go_wp2_with (first | (G12_; refine box_event ?hg (N := 2) ?hd (cs := G7_) (t := 119) ?hr ?_; (case hd => rfl); (case hg => rfl); G4_; intro gb141 hg w21 hbox hb; have n0_ := Aside0.mk G13_; have n1_ := Aside0.mk (hbox); have n2_ := Aside0.mk (G27_); have n3_ := Aside0.mk (G27_); clear HB; have HB := n0_; have BK141 := n1_; have GW141 := n2_; have GE141 := n3_; clear n0_ n1_ n2_ n3_; clear hb hbox hg) | (G30_; refine box_event ?hg (N := 3) ?hd (cs := G50_) (t := 119) ?hr ?_; (case hd => rfl); (case hg => rfl); G4_; intro gb142 hg w22 hbox hb; have n0_ := Aside0.mk G31_; have n1_ := Aside0.mk (below_step G2_ hb); have n2_ := Aside0.mk (hbox); have n3_ := Aside0.mk (G21_); have n4_ := Aside0.mk (G21_); have n5_ := Aside0.mk (G44_); have n6_ := Aside0.mk (G43_); clear BK141; clear HB; have BK141 := n0_; have HB := n1_; have BK142 := n2_; have GW142 := n3_; have GE142 := n4_; have NB141_142 := n5_; have NB142_141 := n6_; clear n0_ n1_ n2_ n3_ n4_ n5_ n6_; clear hb hbox hg; have hnb23 := NB141_142.out; have hnc23 := NB142_141.out; have hcz24_0 : w22.cell? ⟨gb141, 0, none⟩ = some (.int .i64 a0_0) := (blk_cell BK141.out 0).trans rfl; have hcz24_1 : w22.cell? ⟨gb141, 1, none⟩ = some (.int .i64 a0_1) := (blk_cell BK141.out 1).trans rfl; have hcz24_2 : w22.cell? ⟨gb141, 2, none⟩ = some (.string a0_2) := (blk_cell BK141.out 2).trans rfl; have hfz24_0 := blk_frozen BK141.out 0; have hfz24_1 := blk_frozen BK141.out 1; have hfz24_2 := blk_frozen BK141.out 2; have hcz25_0 : w22.cell? ⟨gb142, 0, none⟩ = some (.int .i64 a1_0) := (blk_cell BK142.out 0).trans rfl; have hcz25_1 : w22.cell? ⟨gb142, 1, none⟩ = some (.int .i64 a1_1) := (blk_cell BK142.out 1).trans rfl; have hcz25_2 : w22.cell? ⟨gb142, 2, none⟩ = some (.string a1_2) := (blk_cell BK142.out 2).trans rfl; have hfz25_0 := blk_frozen BK142.out 0; have hfz25_1 := blk_frozen BK142.out 1; have hfz25_2 := blk_frozen BK142.out 2))
  J1_

end Go.Proofs.Ytjijbffecppeiaa.QFnExactKeepText
