/- Functions that a law reaches, as functions of Lean, and the walks that show that the calls come to their answers: written by a program of this project out of the translation. No condition. -/
import Derived.Test.YtjijbffecppeiaaQFnDgramsx0
import Derived.Test.YtjijbffecppeiaaQFnDgramsx5
import Derived.Test.YtjijbffecppeiaaShort
namespace Go.Proofs.Ytjijbffecppeiaa.QFnDgrams
open Go.RowKit Go.Proofs.YtjijbffecppeiaaW.PrintWords Go.Proofs.YtjijbffecppeiaaW.PrintLast Go.Proofs.YtjijbffecppeiaaW.PrintMore Go.Proofs.Ytjijbffecppeiaa.Short
attribute [local go_sem] max2_int min2_int max_two min_two max_three min_three max_four min_four   -- for this text's walks alone
set_option linter.unusedVariables false
set_option linter.unusedSimpArgs false

/-! ### spec_l11Head: function 171 -/
def spec_l11Head.f (a0_0 : Int) (a0_1 : Int) (a0_2 : Int) (a0_3 : Int) (a0_4 : Bool) (a0_5 : ByteArray) : Option (ByteArray) := if a0_4 = true then ((some (([(a0_0) % 256, (a0_1) % 256] : List Int) : List Int)).bind fun y327 => ((spec_l11Two.f a0_2).bind fun t330 => (if (strOfNums y327).size + t330.size ≤ 9223372036854775807 then ((some (([(wrap64 (Int.tdiv a0_3 8)) % 256, 1] : List Int) : List Int)).bind fun y331 => (if ((strOfNums y327) ++ t330).size + (strOfNums y331).size ≤ 9223372036854775807 then (some (((strOfNums y327) ++ t330) ++ (strOfNums y331))) else (none))) else (none)))) else ((some (([(a0_0) % 256, (a0_1) % 256] : List Int) : List Int)).bind fun y334 => ((spec_l11Two.f a0_2).bind fun t337 => (if (strOfNums y334).size + t337.size ≤ 9223372036854775807 then ((some (([(wrap64 (Int.tdiv a0_3 8)) % 256, 0] : List Int) : List Int)).bind fun y338 => (if ((strOfNums y334) ++ t337).size + (strOfNums y338).size ≤ 9223372036854775807 then (some (((strOfNums y334) ++ t337) ++ (strOfNums y338))) else (none))) else (none))))
def spec_l11Head.T4 : Bool × List (List Nat × List Nat) := (true, [([], []), ([0], [0]), ([1], [1]), ([], []), ([3], [3]), ([4], [4]), ([2, 5], [2, 5]), ([6], [6]), ([], []), ([8], [8]), ([9], [9]), ([7, 10], [7, 10]), ([], []), ([12], [12]), ([13], [13]), ([14], [14]), ([], []), ([15, 16], [15, 16]), ([17], [17]), ([11, 18], [11, 18]), ([19, 10, 0, 1, 2, 3, 4, 5, 6, 7, 8, 9, 10, 11, 12, 13, 14, 15, 16, 17, 18, 19], [19])])
def spec_l11Head.B4 : List Nat := [0, 1, 3, 0, 8, 24, 63, 127, 0, 256, 768, 2047, 0, 4096, 12288, 28672, 0, 126976, 258048, 524287, 1048575]
theorem spec_l11Head.tab4 : rtab .any (opsOf Try.f171 4) = spec_l11Head.T4 := by kernel_rfl
theorem spec_l11Head.bits4 : waitsOk spec_l11Head.T4.2 spec_l11Head.B4 = true := by kernel_rfl
set_option hygiene false
local macro:max "G0_" : term => `((by repeat (first | (with_reducible first | exact HB.out | apply below_alloc | apply pw_below_drewN | apply below_drew1 | refine below_set ?_ GE326.out) | exact HB.out)))
local macro:max "G1_" : term => `((by first | (simp only [putAll, Act.put, List.setIfInBounds_toArray, List.set_cons_zero, List.set_cons_succ]; done) | (simp only [putAll, Act.put, List.setIfInBounds_toArray, List.set_cons_zero, List.set_cons_succ]; rfl)))
local macro:max "G2_" : tactic => `(tactic| (with_reducible repeat (first | apply Kd.R_alloc | apply Kd.R_drewN | apply Kd.R_drew)))
local macro:max "G3_" : term => `((by (with_reducible repeat (first | refine blk_drewN ?_ _ | refine blk_drew ?_ | refine blk_alloc ?_ _)); exact BK326.out))
local macro:max "G4_" : term => `(#[.int .i64 a0_0, .int .i64 a0_1, .int .i64 a0_2, .int .i64 a0_3, .bool false, .string a0_5])
local macro:max "G5_" : term => `(#[.int .i64 a0_0, .int .i64 a0_1, .int .i64 a0_2, .int .i64 a0_3, .bool true, .string a0_5])
local macro:max "G6_" : term => `((by repeat (first | (with_reducible first | exact HB.out | apply below_alloc | apply pw_below_drewN | apply below_drew1) | exact HB.out)))
local macro:max "G7_" : term => `((fun k_ => some k_ ≠ (s_.1 : Value).ownBlock))
local macro:max "G8_" : term => `((fun k_ => some k_ ≠ (s_.2 : Value).ownBlock))
local macro:max "G9_" : term => `(#[true, true, true, true, true, true, true, false, true, true, true, false, true, true, true, true, true, true, false, false, false])
local macro:max "G10_" : term => `(#[true, true, true, true, true, true, true, false, true, true, true, false, true, true, true, true, true, true, true, false, false])
local macro:max "G11_" : term => `(#[true, true, true, true, true, true, false, false, true, true, true, false, true, true, true, true, true, true, false, false, false])
local macro:max "G12_" : term => `(#[true, true, true, true, true, true, true, false, true, true, false, false, true, true, true, true, true, true, false, false, false])
local macro:max "G13_" : term => `(#[true, true, true, true, true, true, true, false, true, true, true, false, true, true, true, true, true, false, false, false, false])
local macro:max "G14_" : term => `(#[true, true, true, true, true, true, false, false, true, true, true, false, true, true, true, true, true, true, true, false, false])
local macro:max "G15_" : term => `(#[true, true, true, true, true, true, true, false, true, true, false, false, true, true, true, true, true, true, true, false, false])
local macro:max "G16_" : term => `(#[true, true, true, true, true, true, true, true, true, true, false, false, true, true, true, true, true, true, false, false, false])
local macro:max "G17_" : term => `(#[true, true, true, true, true, true, true, true, true, true, false, false, true, true, true, true, true, true, true, false, false])
local macro:max "G18_" : term => `((by G2_; exact HO329.out))
local macro:max "G19_" : term => `((by G2_; exact HO333.out))
local macro:max "G20_" : term => `((by G2_; exact HO336.out))
local macro:max "G21_" : term => `((by G2_; exact HO340.out))
local macro:max "G22_" : term => `((fun _ hk => hk.2))
local macro:max "G23_" : tactic => `(tactic| (refine norm_ (a' := ?_) ?_ ?_))
local macro:max "G24_" : term => `(#[true, true, true, true, true, true, false, false, true, true, false, false, true, true, true, true, true, true, false, false, false])
local macro:max "G25_" : term => `(#[true, true, true, true, true, true, false, false, true, true, true, false, true, true, true, true, true, false, false, false, false])
local macro:max "G26_" : term => `(#[true, true, true, true, true, true, true, false, true, true, false, false, true, true, true, true, true, false, false, false, false])
local macro:max "G27_" : term => `(#[true, true, true, true, true, true, false, false, true, true, false, false, true, true, true, true, true, true, true, false, false])
local macro:max "G28_" : term => `(#[true, true, true, true, true, true, true, true, true, true, false, false, true, true, true, true, true, false, false, false, false])
local macro:max "G29_" : term => `(#[true, true, true, true, true, true, true, true, true, true, true, true, true, true, true, true, true, true, false, false, false])
local macro:max "G30_" : term => `(#[true, true, true, true, true, true, true, true, true, true, true, true, true, true, true, true, true, true, true, false, false])
local macro:max "G31_" : tactic => `(tactic| (have H2_ := (Option.bind_some _ _).symm.trans H; with_reducible exact H2_))
local macro:max "G32_" : term => `((Kd.R (Kd.int .u8) 5 w' w.heap.size G7_ s_.2 y331))
local macro:max "G33_" : term => `((Kd.R (Kd.int .u8) 5 w' w.heap.size G7_ s_.2 y338))
local macro:max "G34_" : term => `((Kd.R (Kd.int .u8) 5 w' w.heap.size G8_ s_.1 y327))
local macro:max "G35_" : term => `((Kd.R (Kd.int .u8) 5 w' w.heap.size G8_ s_.1 y334))
local macro:max "G36_" : tactic => `(tactic| (case hr => first | (go_simp; done) | (go_simp; rfl)))
local macro:max "G37_" : term => `((by G2_; exact Kd.R_mono HO329.out G22_))
local macro:max "G38_" : term => `((by G2_; exact Kd.R_mono HO333.out G22_))
local macro:max "G39_" : term => `((by G2_; exact Kd.R_mono HO336.out G22_))
local macro:max "G40_" : term => `((by G2_; exact Kd.R_mono HO340.out G22_))
local macro:max "G41_" : term => `((Kd.R (Kd.int .u8) 5 w' w.heap.size (fun _ => True) s_ y327))
local macro:max "G42_" : term => `((Kd.R (Kd.int .u8) 5 w' w.heap.size (fun _ => True) s_ y331))
local macro:max "G43_" : term => `((Kd.R (Kd.int .u8) 5 w' w.heap.size (fun _ => True) s_ y334))
local macro:max "G44_" : term => `((Kd.R (Kd.int .u8) 5 w' w.heap.size (fun _ => True) s_ y338))
local macro:max "G45_" : term => `((by rw [hg]; exact (below_size G6_) : w.heap.size ≤ gb326))
local macro:max "G46_" : term => `(#[false, false, false, false, false, false, false, false, false, false, false, false, false, false, false, false, false, false, false, false, false])
local macro:max "G47_" : term => `(#[true, true, true, true, true, true, true, true, true, true, true, false, true, true, true, true, true, false, false, false, false])
local macro:max "G48_" : term => `(#[true, true, true, true, true, true, true, true, true, true, true, false, true, true, true, true, true, true, false, false, false])
local macro:max "G49_" : term => `(#[true, true, true, true, true, true, true, true, true, true, true, true, true, true, true, true, true, false, false, false, false])
local macro:max "G50_" : term => `((fun k_ => some k_ ≠ (v328 : Value).ownBlock))
local macro:max "G51_" : term => `((fun k_ => some k_ ≠ (v332 : Value).ownBlock))
local macro:max "G52_" : term => `((fun k_ => some k_ ≠ (v335 : Value).ownBlock))
local macro:max "G53_" : term => `((fun k_ => some k_ ≠ (v339 : Value).ownBlock))
local macro:max "G54_" : term => `(#[true, true, true, true, true, true, true, true, true, true, true, false, true, true, true, true, true, true, true, false, false])
local macro:max "G55_" : term => `((show Kd.M (Kd.int .u8) _ _ _ ((wrap64 (Int.tdiv a0_3 8)) % 256) [.int .u8 ((wrap64 (Int.tdiv a0_3 8)) % 256)] from rfl))
local macro:max "G56_" : term => `((blk_below (g := gb326) (o := .cells G4_ 85 (0, 0)) G3_ hb))
local macro:max "G57_" : term => `((blk_below (g := gb326) (o := .cells G5_ 85 (0, 0)) G3_ hb))
local macro:max "G58_" : tactic => `(tactic| (refine pu_ 11 17 HT_ ?_))
local macro:max "G59_" : term => `((Kd.own_of_R HO329.out))
local macro:max "G60_" : term => `((Kd.own_of_R HO333.out))
local macro:max "G61_" : term => `((Kd.own_of_R HO336.out))
local macro:max "G62_" : term => `((Kd.own_of_R HO340.out))
local macro:max "G63_" : tactic => `(tactic| (clear n0_ n1_ n2_ n3_))
local macro:max "G64_" : term => `((blk_cell BK326.out 0))
local macro:max "G65_" : term => `((blk_cell BK326.out 1))
local macro:max "G66_" : term => `((blk_cell BK326.out 2))
local macro:max "G67_" : term => `((blk_cell BK326.out 3))
local macro:max "G68_" : term => `((blk_cell BK326.out 4))
local macro:max "G69_" : term => `((blk_cell BK326.out 5))
local macro "J0_" : tactic => `(tactic| ((refine hK.out _ _ ⟨(G64_).trans rfl, (G65_).trans rfl, (G66_).trans rfl, (G67_).trans rfl, (G68_).trans rfl, (G69_).trans rfl⟩ (fun hHeld => ?_)); (clear hK K); G23_; (rotate_left)))
local macro "J1_" : tactic => `(tactic| ((refine Kd.R_lit_step (Kd.int .u8) _ 5 ?hg (N := 12) ?hd (xs := ([(a0_0) % 256, (a0_1) % 256] : List Int)) (inner := [.int .u8 ((a0_0) % 256), .int .u8 ((a0_1) % 256)]) (ok := fun _ => True) (okp := fun _ => True) ?hr ?hp (fun _ hk => hk) trivial (Below.refl _ _) (Nat.le_refl _) (by simp) ?_; (case hd => rfl); (case hg => rfl); G36_; (case hp => exact (Reps.one (show Kd.M (Kd.int .u8) _ _ _ ((a0_0) % 256) [.int .u8 ((a0_0) % 256)] from rfl) (Reps.one (show Kd.M (Kd.int .u8) _ _ _ ((a0_1) % 256) [.int .u8 ((a0_1) % 256)] from rfl) (Reps.none _ _)))))))
local macro "J2_" : tactic => `(tactic| ((simp only [Act.put, List.setIfInBounds_toArray, List.set_cons_zero, List.set_cons_succ, i64_w, i32_w])))
local macro "J3_" : tactic => `(tactic| ((have n2_ := Aside0.mk G56_); (have n3_ := Aside0.mk (below_step G0_ hb))))
local macro "J4_" : tactic => `(tactic| ((have n2_ := Aside0.mk G57_); (have n3_ := Aside0.mk (below_step G0_ hb))))
local macro "J5_" : tactic => `(tactic| ((refine goes_ Try.func158 (by kernel_rfl) rfl #[.int .i64 a0_2] (by rfl) rfl rfl (by (try simp only [List.map_toArray, List.map_cons, List.map_nil]); first | done | rfl | (simp only [List.length_drop, List.length_take]; rfl)) ?_)))
local macro "J6_" : tactic => `(tactic| ((have n1_ := Aside0.mk G56_); (have n2_ := Aside0.mk (below_step G0_ hb))))
local macro "J7_" : tactic => `(tactic| ((have n1_ := Aside0.mk G57_); (have n2_ := Aside0.mk (below_step G0_ hb))))
local macro "J8_" : tactic => `(tactic| ((refine Kd.R_lit_step (Kd.int .u8) _ 5 ?hg (N := 23) ?hd (xs := ([(wrap64 (Int.tdiv a0_3 8)) % 256, 0] : List Int)) (inner := [.int .u8 ((wrap64 (Int.tdiv a0_3 8)) % 256), .int .u8 0]) (ok := fun _ => True) (okp := fun _ => True) ?hr ?hp (fun _ hk => hk) trivial (Below.refl _ _) (Nat.le_refl _) (by simp) ?_; (case hd => rfl); (case hg => rfl); G36_; (case hp => exact (Reps.one G55_ (Reps.one (show Kd.M (Kd.int .u8) _ _ _ 0 [.int .u8 0] from rfl) (Reps.none _ _)))))))
local macro "J9_" : tactic => `(tactic| ((refine Kd.R_lit_step (Kd.int .u8) _ 5 ?hg (N := 23) ?hd (xs := ([(wrap64 (Int.tdiv a0_3 8)) % 256, 1] : List Int)) (inner := [.int .u8 ((wrap64 (Int.tdiv a0_3 8)) % 256), .int .u8 1]) (ok := fun _ => True) (okp := fun _ => True) ?hr ?hp (fun _ hk => hk) trivial (Below.refl _ _) (Nat.le_refl _) (by simp) ?_; (case hd => rfl); (case hg => rfl); G36_; (case hp => exact (Reps.one G55_ (Reps.one (show Kd.M (Kd.int .u8) _ _ _ 1 [.int .u8 1] from rfl) (Reps.none _ _)))))))
local macro "J10_" : tactic => `(tactic| ((rintro ⟨v335, v339⟩ w28 ⟨hS_, h0_, h1_, h2_, h3_⟩); (have n0_ : Aside0 (Kd.R (Kd.int .u8) 5 w28 w.heap.size G53_ v335 y334) := ⟨h0_⟩); (have n1_ : Aside0 (Kd.R (Kd.int .u8) 5 w28 w.heap.size G52_ v339 y338) := ⟨h1_⟩); (have n2_ : Aside0 (w28.heap[gb326]? = some (.cells G4_ 85 (0, 0))) := ⟨h2_⟩); (have n3_ : Aside0 (Below w.heap.size w w28) := ⟨h3_⟩); (clear BK326); (clear HB); (clear h0_ h1_ h2_ h3_); (have HO336 := n0_); (have HO340 := n1_); (have BK326 := n2_); (have HB := n3_); G63_; (have hHeld : w28.cell? ⟨gb326, 0, none⟩ = some (.int .i64 a0_0) ∧ w28.cell? ⟨gb326, 1, none⟩ = some (.int .i64 a0_1) ∧ w28.cell? ⟨gb326, 2, none⟩ = some (.int .i64 a0_2) ∧ w28.cell? ⟨gb326, 3, none⟩ = some (.int .i64 a0_3) ∧ w28.cell? ⟨gb326, 4, none⟩ = some (.bool false) ∧ w28.cell? ⟨gb326, 5, none⟩ = some (.string a0_5) := hS_); G23_; (rotate_left)))
local macro "J11_" : tactic => `(tactic| ((rintro ⟨v335, v339⟩ w29 ⟨hS_, h0_, h1_, h2_, h3_⟩); (have n0_ : Aside0 (Kd.R (Kd.int .u8) 5 w29 w.heap.size G53_ v335 y334) := ⟨h0_⟩); (have n1_ : Aside0 (Kd.R (Kd.int .u8) 5 w29 w.heap.size G52_ v339 y338) := ⟨h1_⟩); (have n2_ : Aside0 (w29.heap[gb326]? = some (.cells G4_ 85 (0, 0))) := ⟨h2_⟩); (have n3_ : Aside0 (Below w.heap.size w w29) := ⟨h3_⟩); (clear BK326); (clear HB); (clear h0_ h1_ h2_ h3_); (have HO336 := n0_); (have HO340 := n1_); (have BK326 := n2_); (have HB := n3_); G63_; (have hHeld : w29.cell? ⟨gb326, 0, none⟩ = some (.int .i64 a0_0) ∧ w29.cell? ⟨gb326, 1, none⟩ = some (.int .i64 a0_1) ∧ w29.cell? ⟨gb326, 2, none⟩ = some (.int .i64 a0_2) ∧ w29.cell? ⟨gb326, 3, none⟩ = some (.int .i64 a0_3) ∧ w29.cell? ⟨gb326, 4, none⟩ = some (.bool false) ∧ w29.cell? ⟨gb326, 5, none⟩ = some (.string a0_5) := hS_); G23_; (rotate_left)))
local macro "J12_" : tactic => `(tactic| ((rintro ⟨v328, v332⟩ w14 ⟨hS_, h0_, h1_, h2_, h3_⟩); (have n0_ : Aside0 (Kd.R (Kd.int .u8) 5 w14 w.heap.size G51_ v328 y327) := ⟨h0_⟩); (have n1_ : Aside0 (Kd.R (Kd.int .u8) 5 w14 w.heap.size G50_ v332 y331) := ⟨h1_⟩); (have n2_ : Aside0 (w14.heap[gb326]? = some (.cells G5_ 85 (0, 0))) := ⟨h2_⟩); (have n3_ : Aside0 (Below w.heap.size w w14) := ⟨h3_⟩); (clear BK326); (clear HB); (clear h0_ h1_ h2_ h3_); (have HO329 := n0_); (have HO333 := n1_); (have BK326 := n2_); (have HB := n3_); G63_; (have hHeld : w14.cell? ⟨gb326, 0, none⟩ = some (.int .i64 a0_0) ∧ w14.cell? ⟨gb326, 1, none⟩ = some (.int .i64 a0_1) ∧ w14.cell? ⟨gb326, 2, none⟩ = some (.int .i64 a0_2) ∧ w14.cell? ⟨gb326, 3, none⟩ = some (.int .i64 a0_3) ∧ w14.cell? ⟨gb326, 4, none⟩ = some (.bool true) ∧ w14.cell? ⟨gb326, 5, none⟩ = some (.string a0_5) := hS_); G23_; (rotate_left)))
local macro "J13_" : tactic => `(tactic| ((rintro ⟨v328, v332⟩ w15 ⟨hS_, h0_, h1_, h2_, h3_⟩); (have n0_ : Aside0 (Kd.R (Kd.int .u8) 5 w15 w.heap.size G51_ v328 y327) := ⟨h0_⟩); (have n1_ : Aside0 (Kd.R (Kd.int .u8) 5 w15 w.heap.size G50_ v332 y331) := ⟨h1_⟩); (have n2_ : Aside0 (w15.heap[gb326]? = some (.cells G5_ 85 (0, 0))) := ⟨h2_⟩); (have n3_ : Aside0 (Below w.heap.size w w15) := ⟨h3_⟩); (clear BK326); (clear HB); (clear h0_ h1_ h2_ h3_); (have HO329 := n0_); (have HO333 := n1_); (have BK326 := n2_); (have HB := n3_); G63_; (have hHeld : w15.cell? ⟨gb326, 0, none⟩ = some (.int .i64 a0_0) ∧ w15.cell? ⟨gb326, 1, none⟩ = some (.int .i64 a0_1) ∧ w15.cell? ⟨gb326, 2, none⟩ = some (.int .i64 a0_2) ∧ w15.cell? ⟨gb326, 3, none⟩ = some (.int .i64 a0_3) ∧ w15.cell? ⟨gb326, 4, none⟩ = some (.bool true) ∧ w15.cell? ⟨gb326, 5, none⟩ = some (.string a0_5) := hS_); G23_; (rotate_left)))
local macro "J14_" : tactic => `(tactic| ((exact norm_ G1_ (hJ6_7_10_17_18 (v328, v332) _ ⟨hHeld, G18_, G19_, G3_, G0_⟩))))
local macro "J15_" : tactic => `(tactic| ((exact norm_ G1_ (hJ6_7_10_17_18 (v335, v339) _ ⟨hHeld, G20_, G21_, G3_, G0_⟩))))
local macro "J16_" : tactic => `(tactic| ((have BK326 := n1_); (have HB := n2_); (clear n0_ n1_ n2_)))
local macro "J17_" : tactic => `(tactic| ((refine value_ (w1 := ?_) (v := ?_) (by rfl) rfl ?_ ?_); (rotate_left 2)))
local macro "J18_" : tactic => `(tactic| ((have BK326 := n2_); (have HB := n3_); G63_))
local macro "J19_" : tactic => `(tactic| ((clear BK326); (clear HB)))
local macro "J20_" : tactic => `(tactic| ((have hHeld : w26.cell? ⟨gb326, 0, none⟩ = some (.int .i64 a0_0) ∧ w26.cell? ⟨gb326, 1, none⟩ = some (.int .i64 a0_1) ∧ w26.cell? ⟨gb326, 2, none⟩ = some (.int .i64 a0_2) ∧ w26.cell? ⟨gb326, 3, none⟩ = some (.int .i64 a0_3) ∧ w26.cell? ⟨gb326, 4, none⟩ = some (.bool false) ∧ w26.cell? ⟨gb326, 5, none⟩ = some (.string a0_5) := hS_); G23_; (rotate_left)))
local macro "J21_" : tactic => `(tactic| ((have hHeld : w12.cell? ⟨gb326, 0, none⟩ = some (.int .i64 a0_0) ∧ w12.cell? ⟨gb326, 1, none⟩ = some (.int .i64 a0_1) ∧ w12.cell? ⟨gb326, 2, none⟩ = some (.int .i64 a0_2) ∧ w12.cell? ⟨gb326, 3, none⟩ = some (.int .i64 a0_3) ∧ w12.cell? ⟨gb326, 4, none⟩ = some (.bool true) ∧ w12.cell? ⟨gb326, 5, none⟩ = some (.string a0_5) := hS_); G23_; (rotate_left)))
local macro "J22_" : tactic => `(tactic| ((try clear hb); (try clear hb2); (try clear hk); (try clear hi)))
local macro "J23_" : tactic => `(tactic| ((refine ⟨_, rfl, ?_⟩); (have n0_ := Aside0.mk (Kd.R_below G18_ hb)); (have n1_ := Aside0.mk (Kd.R_below G19_ hb))))
local macro "J24_" : tactic => `(tactic| ((refine ⟨_, rfl, ?_⟩); (have n0_ := Aside0.mk (Kd.R_below G20_ hb)); (have n1_ := Aside0.mk (Kd.R_below G21_ hb))))
local macro "J25_" : tactic => `(tactic| ((exact norm_ G1_ (hJ6_10_17 (v328, v332) _ ⟨hHeld, G37_, G38_, G3_, G0_⟩))))
local macro "J26_" : tactic => `(tactic| ((exact norm_ G1_ (hJ6_10_17 (v335, v339) _ ⟨hHeld, G39_, G40_, G3_, G0_⟩))))
local macro "J27_" : tactic => `(tactic| ((exact norm_ G1_ (hJ6_17 (v328, v332) _ ⟨hHeld, G37_, G38_, G3_, G0_⟩))))
local macro "J28_" : tactic => `(tactic| ((exact norm_ G1_ (hJ6_17 (v335, v339) _ ⟨hHeld, G39_, G40_, G3_, G0_⟩))))
local macro "J29_" : tactic => `(tactic| ((have hHeld : w27.cell? ⟨gb326, 0, none⟩ = some (.int .i64 a0_0) ∧ w27.cell? ⟨gb326, 1, none⟩ = some (.int .i64 a0_1) ∧ w27.cell? ⟨gb326, 2, none⟩ = some (.int .i64 a0_2) ∧ w27.cell? ⟨gb326, 3, none⟩ = some (.int .i64 a0_3) ∧ w27.cell? ⟨gb326, 4, none⟩ = some (.bool false) ∧ w27.cell? ⟨gb326, 5, none⟩ = some (.string a0_5) := hS_); G23_; (rotate_left)))
local macro "J30_" : tactic => `(tactic| (G58_; (exact norm_ G1_ (hJ6_7_10_17 (v328, v332) _ ⟨hHeld, G18_, G19_, G3_, G0_⟩))))
local macro "J31_" : tactic => `(tactic| (G58_; (exact norm_ G1_ (hJ6_7_10_17 (v335, v339) _ ⟨hHeld, G20_, G21_, G3_, G0_⟩))))
local macro "J32_" : tactic => `(tactic| ((have hHeld : w13.cell? ⟨gb326, 0, none⟩ = some (.int .i64 a0_0) ∧ w13.cell? ⟨gb326, 1, none⟩ = some (.int .i64 a0_1) ∧ w13.cell? ⟨gb326, 2, none⟩ = some (.int .i64 a0_2) ∧ w13.cell? ⟨gb326, 3, none⟩ = some (.int .i64 a0_3) ∧ w13.cell? ⟨gb326, 4, none⟩ = some (.bool true) ∧ w13.cell? ⟨gb326, 5, none⟩ = some (.string a0_5) := hS_); G23_; (rotate_left)))
local macro "J33_" : tactic => `(tactic| ((exact norm_ G1_ (hJ6_10_17_18 (v328, v332) _ ⟨hHeld, G18_, G19_, G3_, G0_⟩))))
local macro "J34_" : tactic => `(tactic| ((exact norm_ G1_ (hJ6_10_17_18 (v335, v339) _ ⟨hHeld, G20_, G21_, G3_, G0_⟩))))
local macro "J35_" : tactic => `(tactic| ((exact norm_ G1_ (hJ6_7_17_18 (v328, v332) _ ⟨hHeld, G18_, G19_, G3_, G0_⟩))))
local macro "J36_" : tactic => `(tactic| ((exact norm_ G1_ (hJ6_7_17_18 (v335, v339) _ ⟨hHeld, G20_, G21_, G3_, G0_⟩))))
local macro "J37_" : tactic => `(tactic| (G58_; (exact norm_ G1_ (hJ6_7_10 (v328) _ ⟨hHeld, G18_, G3_, G0_⟩))))
local macro "J38_" : tactic => `(tactic| (G58_; (exact norm_ G1_ (hJ6_7_10 (v335) _ ⟨hHeld, G20_, G3_, G0_⟩))))
local macro "J39_" : tactic => `(tactic| ((have n1_ : Aside0 (w26.heap[gb326]? = some (.cells G4_ 85 (0, 0))) := ⟨h1_⟩); (have n2_ : Aside0 (Below w.heap.size w w26) := ⟨h2_⟩)))
local macro "J40_" : tactic => `(tactic| ((exact norm_ G1_ (hJ10_17_18 (v332) _ ⟨hHeld, G19_, G3_, G0_⟩))))
local macro "J41_" : tactic => `(tactic| ((exact norm_ G1_ (hJ10_17_18 (v339) _ ⟨hHeld, G21_, G3_, G0_⟩))))
local macro "J42_" : tactic => `(tactic| ((have n1_ : Aside0 (w12.heap[gb326]? = some (.cells G5_ 85 (0, 0))) := ⟨h1_⟩); (have n2_ : Aside0 (Below w.heap.size w w12) := ⟨h2_⟩)))
local macro "J43_" : tactic => `(tactic| ((exact norm_ G1_ (hJ10_17 (v332) _ ⟨hHeld, G19_, G3_, G0_⟩))))
local macro "J44_" : tactic => `(tactic| ((exact norm_ G1_ (hJ10_17 (v339) _ ⟨hHeld, G21_, G3_, G0_⟩))))
local macro "J45_" : tactic => `(tactic| ((exact norm_ G1_ (hJ6_10 (v328) _ ⟨hHeld, G18_, G3_, G0_⟩))))
local macro "J46_" : tactic => `(tactic| ((exact norm_ G1_ (hJ6_10 (v335) _ ⟨hHeld, G20_, G3_, G0_⟩))))
local macro "J47_" : tactic => `(tactic| ((clear hg_ hnew_); (first | rw [← Ny327.out] at ho14 | (simp only [Int.reduceToNat] at ho14; rw [← Ny327.out] at ho14)); (have n0_ := Aside0.mk (Kd.R_elder' G19_ (Kd.R_base ho14) hb)); (have n1_ := Aside0.mk (Kd.R_lower (Kd.R_new' ho14 (Kd.R_lt G19_)) (below_size G0_)))))
local macro "J48_" : tactic => `(tactic| ((clear hg_ hnew_); (first | rw [← Ny331.out] at ho14 | (simp only [Int.reduceToNat] at ho14; rw [← Ny331.out] at ho14)); (have n0_ := Aside0.mk (Kd.R_elder' G18_ (Kd.R_base ho14) hb)); (have n1_ := Aside0.mk (Kd.R_lower (Kd.R_new' ho14 (Kd.R_lt G18_)) (below_size G0_)))))
local macro "J49_" : tactic => `(tactic| ((clear hg_ hnew_); (first | rw [← Ny334.out] at ho28 | (simp only [Int.reduceToNat] at ho28; rw [← Ny334.out] at ho28)); (have n0_ := Aside0.mk (Kd.R_elder' G21_ (Kd.R_base ho28) hb)); (have n1_ := Aside0.mk (Kd.R_lower (Kd.R_new' ho28 (Kd.R_lt G21_)) (below_size G0_)))))
local macro "J50_" : tactic => `(tactic| ((clear hg_ hnew_); (first | rw [← Ny338.out] at ho28 | (simp only [Int.reduceToNat] at ho28; rw [← Ny338.out] at ho28)); (have n0_ := Aside0.mk (Kd.R_elder' G20_ (Kd.R_base ho28) hb)); (have n1_ := Aside0.mk (Kd.R_lower (Kd.R_new' ho28 (Kd.R_lt G20_)) (below_size G0_)))))
local macro "J51_" : tactic => `(tactic| ((refine three_ (i := 6) (j := 10) (k := 17) (Ni := some 12) (Nj := some 16) (Nk := some 23) G26_ G25_ G24_ rfl rfl rfl rfl rfl rfl (three_of HT_.out (by kernel_rfl)) (by decide) (by decide) (by decide) (fun K hK => ?_) (fun K hK => ?_) (fun K hK => ?_))))
local macro "J52_" : tactic => `(tactic| ((refine three_ (i := 6) (j := 10) (k := 18) (Ni := some 12) (Nj := some 16) (Nk := some 24) G12_ G11_ G27_ rfl rfl rfl rfl rfl rfl (three_of HT_.out (by kernel_rfl)) (by decide) (by decide) (by decide) (fun K hK => ?_) (fun K hK => ?_) (fun K hK => ?_))))
local macro "J53_" : tactic => `(tactic| ((refine three_ (i := 7) (j := 10) (k := 17) (Ni := some 13) (Nj := some 16) (Nk := some 23) G28_ G13_ G12_ rfl rfl rfl rfl rfl rfl (three_of HT_.out (by kernel_rfl)) (by decide) (by decide) (by decide) (fun K hK => ?_) (fun K hK => ?_) (fun K hK => ?_))))
local macro "J54_" : tactic => `(tactic| ((refine three_ (i := 7) (j := 10) (k := 18) (Ni := some 13) (Nj := some 16) (Nk := some 24) G16_ G9_ G15_ rfl rfl rfl rfl rfl rfl (three_of HT_.out (by kernel_rfl)) (by decide) (by decide) (by decide) (fun K hK => ?_) (fun K hK => ?_) (fun K hK => ?_))))
local macro "J55_" : tactic => `(tactic| ((exact norm_ G1_ (hJ10 () _ ⟨hHeld, G3_, G0_⟩))))
local macro "J56_" : tactic => `(tactic| ((refine two_ (i := 6) (j := 17) (Ni := some 12) (Nj := some 23) G13_ G11_ rfl rfl rfl rfl (two_of HT_.out (by kernel_rfl)) (by decide) (by decide) (fun K hK => ?_) (fun K hK => ?_))))
local macro "J57_" : tactic => `(tactic| ((refine two_ (i := 10) (j := 17) (Ni := some 16) (Nj := some 23) G47_ G16_ rfl rfl rfl rfl (two_of HT_.out (by kernel_rfl)) (by decide) (by decide) (fun K hK => ?_) (fun K hK => ?_))))
local macro "J58_" : tactic => `(tactic| ((refine two_ (i := 6) (j := 10) (Ni := some 12) (Nj := some 16) G15_ G14_ rfl rfl rfl rfl (two_of HT_.out (by kernel_rfl)) (by decide) (by decide) (fun K hK => ?_) (fun K hK => ?_))))
local macro "J59_" : tactic => `(tactic| ((refine two_ (i := 6) (j := 18) (Ni := some 12) (Nj := some 24) G9_ G14_ rfl rfl rfl rfl (two_of HT_.out (by kernel_rfl)) (by decide) (by decide) (fun K hK => ?_) (fun K hK => ?_))))
local macro "J60_" : tactic => `(tactic| ((refine two_ (i := 7) (j := 17) (Ni := some 13) (Nj := some 23) G47_ G9_ rfl rfl rfl rfl (two_of HT_.out (by kernel_rfl)) (by decide) (by decide) (fun K hK => ?_) (fun K hK => ?_))))
local macro "J61_" : tactic => `(tactic| ((refine two_ (i := 10) (j := 18) (Ni := some 16) (Nj := some 24) G48_ G17_ rfl rfl rfl rfl (two_of HT_.out (by kernel_rfl)) (by decide) (by decide) (fun K hK => ?_) (fun K hK => ?_))))
local macro "J62_" : tactic => `(tactic| ((refine two_ (i := 7) (j := 10) (Ni := some 13) (Nj := some 16) G17_ G10_ rfl rfl rfl rfl (two_of HT_.out (by kernel_rfl)) (by decide) (by decide) (fun K hK => ?_) (fun K hK => ?_))))
local macro "J63_" : tactic => `(tactic| ((refine two_ (i := 7) (j := 18) (Ni := some 13) (Nj := some 24) G48_ G10_ rfl rfl rfl rfl (two_of HT_.out (by kernel_rfl)) (by decide) (by decide) (fun K hK => ?_) (fun K hK => ?_))))
local macro "J64_" : tactic => `(tactic| ((have hHeld : w25.cell? ⟨gb326, 0, none⟩ = some (.int .i64 a0_0) ∧ w25.cell? ⟨gb326, 1, none⟩ = some (.int .i64 a0_1) ∧ w25.cell? ⟨gb326, 2, none⟩ = some (.int .i64 a0_2) ∧ w25.cell? ⟨gb326, 3, none⟩ = some (.int .i64 a0_3) ∧ w25.cell? ⟨gb326, 4, none⟩ = some (.bool false) ∧ w25.cell? ⟨gb326, 5, none⟩ = some (.string a0_5) := hS_); G23_; (rotate_left)))
local macro "J65_" : tactic => `(tactic| ((have hHeld : w11.cell? ⟨gb326, 0, none⟩ = some (.int .i64 a0_0) ∧ w11.cell? ⟨gb326, 1, none⟩ = some (.int .i64 a0_1) ∧ w11.cell? ⟨gb326, 2, none⟩ = some (.int .i64 a0_2) ∧ w11.cell? ⟨gb326, 3, none⟩ = some (.int .i64 a0_3) ∧ w11.cell? ⟨gb326, 4, none⟩ = some (.bool true) ∧ w11.cell? ⟨gb326, 5, none⟩ = some (.string a0_5) := hS_); G23_; (rotate_left)))
local macro "J66_" : tactic => `(tactic| ((refine pu_ 19 25 HT_ ?_); (refine pu_ 20 2 HT_ ?_); (refine done_ (done_of HT_.out (by kernel_rfl)) ?_); (try go_wp2); (go_ret); (exact ⟨by first | rfl | (simp [errW_none, errW_some] <;> rfl) | (simp [*, errW_none, errW_some] <;> rfl), by repeat (first | (with_reducible first | exact HB.out | apply below_alloc | apply pw_below_drewN | apply below_drew1 | refine below_set ?_ GE326.out) | exact HB.out)⟩)))
local macro "J67_" : tactic => `(tactic| ((refine pu_ 0 6 HT_ ?_); (refine pu_ 3 9 HT_ ?_); (refine pu_ 8 14 HT_ ?_); (refine pu_ 12 18 HT_ ?_); (refine pu_ 16 22 HT_ ?_); (refine ta_ 1 7 HT_ HW_ hHeld ?_); (refine pu_ 2 8 HT_ ?_); (refine ta_ 4 10 HT_ HW_ hHeld ?_); (refine pu_ 5 11 HT_ ?_); (refine ta_ 9 15 HT_ HW_ hHeld ?_); (refine ta_ 13 19 HT_ HW_ hHeld ?_); (refine pu_ 14 20 HT_ ?_); (refine pu_ 15 21 HT_ ?_)))
local macro "J68_" : tactic => `(tactic| ((have HO329 := n0_); (have HO333 := n1_)))
local macro "J69_" : tactic => `(tactic| ((have HO336 := n0_); (have HO340 := n1_)))
local macro "J70_" : tactic => `(tactic| ((rotate_left)))
local macro "J71_" : tactic => `(tactic| ((have BK326 := n0_); (have HB := n1_); (clear n0_ n1_)))
local macro "J72_" : tactic => `(tactic| ((refine one_ (i := 10) (N := some 16) G54_ rfl rfl (one_of HT_.out (by kernel_rfl)) (by decide) (fun K hK => ?_))))
local macro "J73_" : tactic => `(tactic| ((refine one_ (i := 17) (N := some 23) G29_ rfl rfl (one_of HT_.out (by kernel_rfl)) (by decide) (fun K hK => ?_))))
local macro "J74_" : tactic => `(tactic| ((refine one_ (i := 6) (N := some 12) G10_ rfl rfl (one_of HT_.out (by kernel_rfl)) (by decide) (fun K hK => ?_))))
local macro "J75_" : tactic => `(tactic| ((refine one_ (i := 18) (N := some 24) G30_ rfl rfl (one_of HT_.out (by kernel_rfl)) (by decide) (fun K hK => ?_))))
local macro "J76_" : tactic => `(tactic| ((refine one_ (i := 7) (N := some 13) G54_ rfl rfl (one_of HT_.out (by kernel_rfl)) (by decide) (fun K hK => ?_))))
local macro "J77_" : tactic => `(tactic| ((have n1_ : Aside0 (w25.heap[gb326]? = some (.cells G4_ 85 (0, 0))) := ⟨h1_⟩); (have n2_ : Aside0 (Below w.heap.size w w25) := ⟨h2_⟩)))
local macro "J78_" : tactic => `(tactic| ((have n1_ : Aside0 (w27.heap[gb326]? = some (.cells G4_ 85 (0, 0))) := ⟨h1_⟩); (have n2_ : Aside0 (Below w.heap.size w w27) := ⟨h2_⟩)))
local macro "J79_" : tactic => `(tactic| ((have n1_ : Aside0 (w11.heap[gb326]? = some (.cells G5_ 85 (0, 0))) := ⟨h1_⟩); (have n2_ : Aside0 (Below w.heap.size w w11) := ⟨h2_⟩)))
local macro "J80_" : tactic => `(tactic| ((have n1_ : Aside0 (w13.heap[gb326]? = some (.cells G5_ 85 (0, 0))) := ⟨h1_⟩); (have n2_ : Aside0 (Below w.heap.size w w13) := ⟨h2_⟩)))
local macro "J81_" : tactic => `(tactic| ((have n0_ := Aside0.mk (Kd.R_lower ho10 (below_size G0_)))))
local macro "J82_" : tactic => `(tactic| ((have n0_ := Aside0.mk (Kd.R_lower ho12 (below_size G0_)))))
local macro "J83_" : tactic => `(tactic| ((have n0_ := Aside0.mk (Kd.R_lower ho24 (below_size G0_)))))
local macro "J84_" : tactic => `(tactic| ((have n0_ := Aside0.mk (Kd.R_lower ho26 (below_size G0_)))))
local macro "J85_" : tactic => `(tactic| ((clear h0_ h1_ h2_)))
local macro "J86_" : tactic => `(tactic| ((have n1_ := Aside0.mk (below_step G0_ hb))))
local macro "J87_" : tactic => `(tactic| ((clear hg_ hnew_)))
local macro "J88_" : tactic => `(tactic| ((refine ⟨_, rfl, ?_⟩)))
local macro "J89_" : tactic => `(tactic| ((have HO333 := n0_)))
local macro "J90_" : tactic => `(tactic| ((have HO340 := n0_)))
local macro "J91_" : tactic => `(tactic| ((have n0_ := Aside0.mk (Kd.R_below G18_ hb))))
local macro "J92_" : tactic => `(tactic| ((have n0_ := Aside0.mk (Kd.R_below G19_ hb))))
local macro "J93_" : tactic => `(tactic| ((have n0_ := Aside0.mk (Kd.R_below G20_ hb))))
local macro "J94_" : tactic => `(tactic| ((have n0_ := Aside0.mk (Kd.R_below G21_ hb))))
local macro "J95_" : tactic => `(tactic| ((rintro v328 w12 ⟨hS_, h0_, h1_, h2_⟩); (have n0_ : Aside0 (Kd.R (Kd.int .u8) 5 w12 w.heap.size (fun _ => True) v328 y327) := ⟨h0_⟩)))
local macro "J96_" : tactic => `(tactic| ((rintro v332 w12 ⟨hS_, h0_, h1_, h2_⟩); (have n0_ : Aside0 (Kd.R (Kd.int .u8) 5 w12 w.heap.size (fun _ => True) v332 y331) := ⟨h0_⟩)))
local macro "J97_" : tactic => `(tactic| ((rintro v335 w26 ⟨hS_, h0_, h1_, h2_⟩); (have n0_ : Aside0 (Kd.R (Kd.int .u8) 5 w26 w.heap.size (fun _ => True) v335 y334) := ⟨h0_⟩)))
local macro "J98_" : tactic => `(tactic| ((rintro v339 w26 ⟨hS_, h0_, h1_, h2_⟩); (have n0_ : Aside0 (Kd.R (Kd.int .u8) 5 w26 w.heap.size (fun _ => True) v339 y338) := ⟨h0_⟩)))
local macro "J99_" : tactic => `(tactic| ((have hcv15 := own_string (P := Try.prog) Try.underlying45 Try.underlying5 Try.underlying9 G59_)))
local macro "J100_" : tactic => `(tactic| ((have hcv15 := own_string (P := Try.prog) Try.underlying45 Try.underlying5 Try.underlying9 G60_)))
local macro "J101_" : tactic => `(tactic| ((have hcv29 := own_string (P := Try.prog) Try.underlying45 Try.underlying5 Try.underlying9 G61_)))
local macro "J102_" : tactic => `(tactic| ((have hcv29 := own_string (P := Try.prog) Try.underlying45 Try.underlying5 Try.underlying9 G62_)))
local macro "J103_" : tactic => `(tactic| ((have HO329 := n0_)))
local macro "J104_" : tactic => `(tactic| ((have HO336 := n0_)))
local macro "J105_" : tactic => `(tactic| ((have n0_ := Aside0.mk (blk_drew BK326.out)); (have n1_ := Aside0.mk (below_drew1 HB.out))))
local macro "J106_" : tactic => `(tactic| (G23_))
local macro "J107_" : tactic => `(tactic| ((clear HO329)))
local macro "J108_" : tactic => `(tactic| ((clear HO333)))
local macro "J109_" : tactic => `(tactic| ((clear HO336)))
local macro "J110_" : tactic => `(tactic| ((clear HO340)))
local macro "J111_" : tactic => `(tactic| ((exact absurd H (by simp))))
local macro "J112_" : tactic => `(tactic| (G58_))
set_option hygiene true
set_option maxHeartbeats 8000000 in
set_option maxRecDepth 100000 in
theorem spec_l11Head.calls (a0_0 : Int) (a0_1 : Int) (a0_2 : Int) (a0_3 : Int) (a0_4 : Bool) (a0_5 : ByteArray) (r : ByteArray) (w : World) (h : spec_l11Head.f a0_0 a0_1 a0_2 a0_3 a0_4 a0_5 = some r) :
  Calls Try.prog 171 #[.agg #[.int .i64 a0_0, .int .i64 a0_1, .int .i64 a0_2, .int .i64 a0_3, .bool a0_4, .string a0_5]] w fun e w' => e = .returned (.string r) ∧ Below w.heap.size w w' := by
 have hu85 := Try.underlying85
 have HB := Aside0.mk (Below.refl w.heap.size w)
 have H : (if a0_4 = true then ((some (([(a0_0) % 256, (a0_1) % 256] : List Int) : List Int)).bind fun y327 => ((spec_l11Two.f a0_2).bind fun t330 => (if (strOfNums y327).size + t330.size ≤ 9223372036854775807 then ((some (([(wrap64 (Int.tdiv a0_3 8)) % 256, 1] : List Int) : List Int)).bind fun y331 => (if ((strOfNums y327) ++ t330).size + (strOfNums y331).size ≤ 9223372036854775807 then (some (((strOfNums y327) ++ t330) ++ (strOfNums y331))) else (none))) else (none)))) else ((some (([(a0_0) % 256, (a0_1) % 256] : List Int) : List Int)).bind fun y334 => ((spec_l11Two.f a0_2).bind fun t337 => (if (strOfNums y334).size + t337.size ≤ 9223372036854775807 then ((some (([(wrap64 (Int.tdiv a0_3 8)) % 256, 0] : List Int) : List Int)).bind fun y338 => (if ((strOfNums y334) ++ t337).size + (strOfNums y338).size ≤ 9223372036854775807 then (some (((strOfNums y334) ++ t337) ++ (strOfNums y338))) else (none))) else (none))))) = some r := h
 clear h
 by_cases c2 : a0_4 = true
 ·subst c2
  rw [if_pos rfl] at H
  obtain ⟨y327, hy327⟩ : ∃ y_ : List Int, y_ = (([(a0_0) % 256, (a0_1) % 256] : List Int)) := ⟨_, rfl⟩
  replace H : ((spec_l11Two.f a0_2).bind fun t330 => (if (strOfNums y327).size + t330.size ≤ 9223372036854775807 then ((some (([(wrap64 (Int.tdiv a0_3 8)) % 256, 1] : List Int) : List Int)).bind fun y331 => (if ((strOfNums y327) ++ t330).size + (strOfNums y331).size ≤ 9223372036854775807 then (some (((strOfNums y327) ++ t330) ++ (strOfNums y331))) else (none))) else (none))) = some r := by first | (rw [hy327]; with_reducible exact H) | (have H2_ := (Option.bind_some _ _).symm.trans H; rw [hy327]; with_reducible exact H2_) | G31_ | with_reducible exact H | (rw [hy327]; exact H) | exact H
  have Ny327 := Aside0.mk hy327
  clear hy327
  replace H := Option.bind_eq_some_iff.mp H
  obtain ⟨t330, A30, H⟩ := H
  (try dsimp only at H)
  have A3 := Aside0.mk A30
  clear A30
  by_cases c4 : (strOfNums y327).size + t330.size ≤ 9223372036854775807
  ·rw [if_pos c4] at H
   have c4b0 := eq_true c4
   have c4b1 : decide ((strOfNums y327).size + t330.size ≤ 9223372036854775807) = true := decide_eq_true c4
   try have c4b2 : (9223372036854775807 < (strOfNums y327).size + t330.size) = False := eq_false (Nat.not_lt.2 c4)
   try (have c4b9 := c4b2; simp only [ByteArray.size_append] at c4b9)
   obtain ⟨y331, hy331⟩ : ∃ y_ : List Int, y_ = (([(wrap64 (Int.tdiv a0_3 8)) % 256, 1] : List Int)) := ⟨_, rfl⟩
   replace H : (if ((strOfNums y327) ++ t330).size + (strOfNums y331).size ≤ 9223372036854775807 then (some (((strOfNums y327) ++ t330) ++ (strOfNums y331))) else (none)) = some r := by first | (rw [hy331]; with_reducible exact H) | (have H2_ := (Option.bind_some _ _).symm.trans H; rw [hy331]; with_reducible exact H2_) | G31_ | with_reducible exact H | (rw [hy331]; exact H) | exact H
   have Ny331 := Aside0.mk hy331
   clear hy331
   by_cases c5 : ((strOfNums y327) ++ t330).size + (strOfNums y331).size ≤ 9223372036854775807
   ·rw [if_pos c5] at H
    have c5b0 := eq_true c5
    have c5b1 : decide (((strOfNums y327) ++ t330).size + (strOfNums y331).size ≤ 9223372036854775807) = true := decide_eq_true c5
    try have c5b2 : (9223372036854775807 < ((strOfNums y327) ++ t330).size + (strOfNums y331).size) = False := eq_false (Nat.not_lt.2 c5)
    try have c5b8 : (9223372036854775807 < (strOfNums y327).size + t330.size + (strOfNums y331).size) = False := eq_false (by have h_ := c5; simp only [ByteArray.size_append, ByteArray.size_extract, decide_eq_true_eq, decide_eq_false_iff_not] at *; omega)
    try (have c5b9 := c5b2; simp only [ByteArray.size_append] at c5b9)
    obtain rfl := Option.some.inj H
    go_enter Try.func171, Try.ntmps171
    try go_wp2_with (first | ((with_reducible refine gate_dst (N := 1) rfl ?_); refine box_event ?hg (N := 1) ?hd (cs := G5_) (t := 85) ?hr ?_; (case hd => rfl); (case hg => rfl); G36_; intro gb326 hg w6 hbox hb; have n0_ := Aside0.mk (below_step G6_ hb); have n1_ := Aside0.mk (hbox); have n2_ := Aside0.mk (G45_); have n3_ := Aside0.mk (G45_); clear HB; have HB := n0_; have BK326 := n1_; have GW326 := n2_; have GE326 := n3_; clear n0_ n1_ n2_ n3_; clear hb hbox hg; have hcz7_0 : w6.cell? ⟨gb326, 0, none⟩ = some (.int .i64 a0_0) := (G64_).trans rfl; have hcz7_1 : w6.cell? ⟨gb326, 1, none⟩ = some (.int .i64 a0_1) := (G65_).trans rfl; have hcz7_2 : w6.cell? ⟨gb326, 2, none⟩ = some (.int .i64 a0_2) := (G66_).trans rfl; have hcz7_3 : w6.cell? ⟨gb326, 3, none⟩ = some (.int .i64 a0_3) := (G67_).trans rfl; have hcz7_4 : w6.cell? ⟨gb326, 4, none⟩ = some (.bool true) := (G68_).trans rfl; have hcz7_5 : w6.cell? ⟨gb326, 5, none⟩ = some (.string a0_5) := (G69_).trans rfl; have hfz7_0 := blk_frozen BK326.out 0; have hfz7_1 := blk_frozen BK326.out 1; have hfz7_2 := blk_frozen BK326.out 2; have hfz7_3 := blk_frozen BK326.out 3; have hfz7_4 := blk_frozen BK326.out 4; have hfz7_5 := blk_frozen BK326.out 5))
    J105_
    J19_
    J71_
    refine start_ (n := 21) (S := fun w' => w'.cell? ⟨gb326, 0, none⟩ = some (.int .i64 a0_0) ∧ w'.cell? ⟨gb326, 1, none⟩ = some (.int .i64 a0_1) ∧ w'.cell? ⟨gb326, 2, none⟩ = some (.int .i64 a0_2) ∧ w'.cell? ⟨gb326, 3, none⟩ = some (.int .i64 a0_3) ∧ w'.cell? ⟨gb326, 4, none⟩ = some (.bool true) ∧ w'.cell? ⟨gb326, 5, none⟩ = some (.string a0_5)) (ds := []) G46_ (by kernel_rfl) rfl rfl ⟨(G64_).trans rfl, (G65_).trans rfl, (G66_).trans rfl, (G67_).trans rfl, (G68_).trans rfl, (G69_).trans rfl⟩ (fun hHeld => ?_); refine with_tabW spec_l11Head.tab4 spec_l11Head.bits4 (fun HT_ HW_ => ?_)
    generalize w6.drew = w8 at BK326 HB hHeld ⊢
    J67_
    refine join_ (σ := Value × Value) 2 G30_ (fun s_ => [(12, s_.1), (13, .string (strOfNums y327)), (16, .string t330), (23, s_.2), (24, .string (strOfNums y331)), (17, .string ((strOfNums y327) ++ t330))]) (fun s_ w' => (w'.cell? ⟨gb326, 0, none⟩ = some (.int .i64 a0_0) ∧ w'.cell? ⟨gb326, 1, none⟩ = some (.int .i64 a0_1) ∧ w'.cell? ⟨gb326, 2, none⟩ = some (.int .i64 a0_2) ∧ w'.cell? ⟨gb326, 3, none⟩ = some (.int .i64 a0_3) ∧ w'.cell? ⟨gb326, 4, none⟩ = some (.bool true) ∧ w'.cell? ⟨gb326, 5, none⟩ = some (.string a0_5)) ∧ G34_ ∧ G32_ ∧ (w'.heap[gb326]? = some (.cells G5_ 85 (0, 0))) ∧ (Below w.heap.size w w')) ?_ ?_
    J70_
    ·intro hJ6_7_10_17_18
     refine join_ (σ := Value × Value) 3 G29_ (fun s_ => [(12, s_.1), (13, .string (strOfNums y327)), (16, .string t330), (23, s_.2), (17, .string ((strOfNums y327) ++ t330))]) (fun s_ w' => (w'.cell? ⟨gb326, 0, none⟩ = some (.int .i64 a0_0) ∧ w'.cell? ⟨gb326, 1, none⟩ = some (.int .i64 a0_1) ∧ w'.cell? ⟨gb326, 2, none⟩ = some (.int .i64 a0_2) ∧ w'.cell? ⟨gb326, 3, none⟩ = some (.int .i64 a0_3) ∧ w'.cell? ⟨gb326, 4, none⟩ = some (.bool true) ∧ w'.cell? ⟨gb326, 5, none⟩ = some (.string a0_5)) ∧ G34_ ∧ G32_ ∧ (w'.heap[gb326]? = some (.cells G5_ 85 (0, 0))) ∧ (Below w.heap.size w w')) ?_ ?_
     J70_
     ·intro hJ6_7_10_17
      refine join_ (σ := Value × Value) 4 G17_ (fun s_ => [(12, s_.1), (13, .string (strOfNums y327)), (23, s_.2), (24, .string (strOfNums y331))]) (fun s_ w' => (w'.cell? ⟨gb326, 0, none⟩ = some (.int .i64 a0_0) ∧ w'.cell? ⟨gb326, 1, none⟩ = some (.int .i64 a0_1) ∧ w'.cell? ⟨gb326, 2, none⟩ = some (.int .i64 a0_2) ∧ w'.cell? ⟨gb326, 3, none⟩ = some (.int .i64 a0_3) ∧ w'.cell? ⟨gb326, 4, none⟩ = some (.bool true) ∧ w'.cell? ⟨gb326, 5, none⟩ = some (.string a0_5)) ∧ G34_ ∧ G32_ ∧ (w'.heap[gb326]? = some (.cells G5_ 85 (0, 0))) ∧ (Below w.heap.size w w')) ?_ ?_
      J70_
      ·intro hJ6_7_17_18
       refine join_ (σ := Value × Value) 4 G10_ (fun s_ => [(12, s_.1), (16, .string t330), (23, s_.2), (24, .string (strOfNums y331))]) (fun s_ w' => (w'.cell? ⟨gb326, 0, none⟩ = some (.int .i64 a0_0) ∧ w'.cell? ⟨gb326, 1, none⟩ = some (.int .i64 a0_1) ∧ w'.cell? ⟨gb326, 2, none⟩ = some (.int .i64 a0_2) ∧ w'.cell? ⟨gb326, 3, none⟩ = some (.int .i64 a0_3) ∧ w'.cell? ⟨gb326, 4, none⟩ = some (.bool true) ∧ w'.cell? ⟨gb326, 5, none⟩ = some (.string a0_5)) ∧ G34_ ∧ G32_ ∧ (w'.heap[gb326]? = some (.cells G5_ 85 (0, 0))) ∧ (Below w.heap.size w w')) ?_ ?_
       J70_
       ·intro hJ6_10_17_18
        refine join_ (σ := Value) 4 G49_ (fun s_ => [(12, s_), (13, .string (strOfNums y327)), (16, .string t330), (17, .string ((strOfNums y327) ++ t330))]) (fun s_ w' => (w'.cell? ⟨gb326, 0, none⟩ = some (.int .i64 a0_0) ∧ w'.cell? ⟨gb326, 1, none⟩ = some (.int .i64 a0_1) ∧ w'.cell? ⟨gb326, 2, none⟩ = some (.int .i64 a0_2) ∧ w'.cell? ⟨gb326, 3, none⟩ = some (.int .i64 a0_3) ∧ w'.cell? ⟨gb326, 4, none⟩ = some (.bool true) ∧ w'.cell? ⟨gb326, 5, none⟩ = some (.string a0_5)) ∧ G41_ ∧ (w'.heap[gb326]? = some (.cells G5_ 85 (0, 0))) ∧ (Below w.heap.size w w')) ?_ ?_
        J70_
        ·intro hJ6_7_10
         refine join_ (σ := Value × Value) 5 G16_ (fun s_ => [(12, s_.1), (13, .string (strOfNums y327)), (23, s_.2)]) (fun s_ w' => (w'.cell? ⟨gb326, 0, none⟩ = some (.int .i64 a0_0) ∧ w'.cell? ⟨gb326, 1, none⟩ = some (.int .i64 a0_1) ∧ w'.cell? ⟨gb326, 2, none⟩ = some (.int .i64 a0_2) ∧ w'.cell? ⟨gb326, 3, none⟩ = some (.int .i64 a0_3) ∧ w'.cell? ⟨gb326, 4, none⟩ = some (.bool true) ∧ w'.cell? ⟨gb326, 5, none⟩ = some (.string a0_5)) ∧ G34_ ∧ G32_ ∧ (w'.heap[gb326]? = some (.cells G5_ 85 (0, 0))) ∧ (Below w.heap.size w w')) ?_ ?_
         J70_
         ·intro hJ6_7_17
          refine join_ (σ := Value × Value) 5 G9_ (fun s_ => [(12, s_.1), (16, .string t330), (23, s_.2)]) (fun s_ w' => (w'.cell? ⟨gb326, 0, none⟩ = some (.int .i64 a0_0) ∧ w'.cell? ⟨gb326, 1, none⟩ = some (.int .i64 a0_1) ∧ w'.cell? ⟨gb326, 2, none⟩ = some (.int .i64 a0_2) ∧ w'.cell? ⟨gb326, 3, none⟩ = some (.int .i64 a0_3) ∧ w'.cell? ⟨gb326, 4, none⟩ = some (.bool true) ∧ w'.cell? ⟨gb326, 5, none⟩ = some (.string a0_5)) ∧ G34_ ∧ G32_ ∧ (w'.heap[gb326]? = some (.cells G5_ 85 (0, 0))) ∧ (Below w.heap.size w w')) ?_ ?_
          J70_
          ·intro hJ6_10_17
           refine join_ (σ := Value × Value) 5 G15_ (fun s_ => [(12, s_.1), (23, s_.2), (24, .string (strOfNums y331))]) (fun s_ w' => (w'.cell? ⟨gb326, 0, none⟩ = some (.int .i64 a0_0) ∧ w'.cell? ⟨gb326, 1, none⟩ = some (.int .i64 a0_1) ∧ w'.cell? ⟨gb326, 2, none⟩ = some (.int .i64 a0_2) ∧ w'.cell? ⟨gb326, 3, none⟩ = some (.int .i64 a0_3) ∧ w'.cell? ⟨gb326, 4, none⟩ = some (.bool true) ∧ w'.cell? ⟨gb326, 5, none⟩ = some (.string a0_5)) ∧ G34_ ∧ G32_ ∧ (w'.heap[gb326]? = some (.cells G5_ 85 (0, 0))) ∧ (Below w.heap.size w w')) ?_ ?_
           J70_
           ·intro hJ6_17_18
            refine join_ (σ := Value) 5 G14_ (fun s_ => [(16, .string t330), (23, s_), (24, .string (strOfNums y331))]) (fun s_ w' => (w'.cell? ⟨gb326, 0, none⟩ = some (.int .i64 a0_0) ∧ w'.cell? ⟨gb326, 1, none⟩ = some (.int .i64 a0_1) ∧ w'.cell? ⟨gb326, 2, none⟩ = some (.int .i64 a0_2) ∧ w'.cell? ⟨gb326, 3, none⟩ = some (.int .i64 a0_3) ∧ w'.cell? ⟨gb326, 4, none⟩ = some (.bool true) ∧ w'.cell? ⟨gb326, 5, none⟩ = some (.string a0_5)) ∧ G42_ ∧ (w'.heap[gb326]? = some (.cells G5_ 85 (0, 0))) ∧ (Below w.heap.size w w')) ?_ ?_
            J70_
            ·intro hJ10_17_18
             refine join_ (σ := Value) 6 G28_ (fun s_ => [(12, s_), (13, .string (strOfNums y327))]) (fun s_ w' => (w'.cell? ⟨gb326, 0, none⟩ = some (.int .i64 a0_0) ∧ w'.cell? ⟨gb326, 1, none⟩ = some (.int .i64 a0_1) ∧ w'.cell? ⟨gb326, 2, none⟩ = some (.int .i64 a0_2) ∧ w'.cell? ⟨gb326, 3, none⟩ = some (.int .i64 a0_3) ∧ w'.cell? ⟨gb326, 4, none⟩ = some (.bool true) ∧ w'.cell? ⟨gb326, 5, none⟩ = some (.string a0_5)) ∧ G41_ ∧ (w'.heap[gb326]? = some (.cells G5_ 85 (0, 0))) ∧ (Below w.heap.size w w')) ?_ ?_
             J70_
             ·intro hJ6_7
              refine join_ (σ := Value) 6 G13_ (fun s_ => [(12, s_), (16, .string t330)]) (fun s_ w' => (w'.cell? ⟨gb326, 0, none⟩ = some (.int .i64 a0_0) ∧ w'.cell? ⟨gb326, 1, none⟩ = some (.int .i64 a0_1) ∧ w'.cell? ⟨gb326, 2, none⟩ = some (.int .i64 a0_2) ∧ w'.cell? ⟨gb326, 3, none⟩ = some (.int .i64 a0_3) ∧ w'.cell? ⟨gb326, 4, none⟩ = some (.bool true) ∧ w'.cell? ⟨gb326, 5, none⟩ = some (.string a0_5)) ∧ G41_ ∧ (w'.heap[gb326]? = some (.cells G5_ 85 (0, 0))) ∧ (Below w.heap.size w w')) ?_ ?_
              J70_
              ·intro hJ6_10
               refine join_ (σ := Value × Value) 6 G12_ (fun s_ => [(12, s_.1), (23, s_.2)]) (fun s_ w' => (w'.cell? ⟨gb326, 0, none⟩ = some (.int .i64 a0_0) ∧ w'.cell? ⟨gb326, 1, none⟩ = some (.int .i64 a0_1) ∧ w'.cell? ⟨gb326, 2, none⟩ = some (.int .i64 a0_2) ∧ w'.cell? ⟨gb326, 3, none⟩ = some (.int .i64 a0_3) ∧ w'.cell? ⟨gb326, 4, none⟩ = some (.bool true) ∧ w'.cell? ⟨gb326, 5, none⟩ = some (.string a0_5)) ∧ G34_ ∧ G32_ ∧ (w'.heap[gb326]? = some (.cells G5_ 85 (0, 0))) ∧ (Below w.heap.size w w')) ?_ ?_
               J70_
               ·intro hJ6_17
                refine join_ (σ := Value) 6 G11_ (fun s_ => [(16, .string t330), (23, s_)]) (fun s_ w' => (w'.cell? ⟨gb326, 0, none⟩ = some (.int .i64 a0_0) ∧ w'.cell? ⟨gb326, 1, none⟩ = some (.int .i64 a0_1) ∧ w'.cell? ⟨gb326, 2, none⟩ = some (.int .i64 a0_2) ∧ w'.cell? ⟨gb326, 3, none⟩ = some (.int .i64 a0_3) ∧ w'.cell? ⟨gb326, 4, none⟩ = some (.bool true) ∧ w'.cell? ⟨gb326, 5, none⟩ = some (.string a0_5)) ∧ G42_ ∧ (w'.heap[gb326]? = some (.cells G5_ 85 (0, 0))) ∧ (Below w.heap.size w w')) ?_ ?_
                J70_
                ·intro hJ10_17
                 refine join_ (σ := Value) 6 G27_ (fun s_ => [(23, s_), (24, .string (strOfNums y331))]) (fun s_ w' => (w'.cell? ⟨gb326, 0, none⟩ = some (.int .i64 a0_0) ∧ w'.cell? ⟨gb326, 1, none⟩ = some (.int .i64 a0_1) ∧ w'.cell? ⟨gb326, 2, none⟩ = some (.int .i64 a0_2) ∧ w'.cell? ⟨gb326, 3, none⟩ = some (.int .i64 a0_3) ∧ w'.cell? ⟨gb326, 4, none⟩ = some (.bool true) ∧ w'.cell? ⟨gb326, 5, none⟩ = some (.string a0_5)) ∧ G42_ ∧ (w'.heap[gb326]? = some (.cells G5_ 85 (0, 0))) ∧ (Below w.heap.size w w')) ?_ ?_
                 J70_
                 ·intro hJ17_18
                  refine join_ (σ := Value) 7 G26_ (fun s_ => [(12, s_)]) (fun s_ w' => (w'.cell? ⟨gb326, 0, none⟩ = some (.int .i64 a0_0) ∧ w'.cell? ⟨gb326, 1, none⟩ = some (.int .i64 a0_1) ∧ w'.cell? ⟨gb326, 2, none⟩ = some (.int .i64 a0_2) ∧ w'.cell? ⟨gb326, 3, none⟩ = some (.int .i64 a0_3) ∧ w'.cell? ⟨gb326, 4, none⟩ = some (.bool true) ∧ w'.cell? ⟨gb326, 5, none⟩ = some (.string a0_5)) ∧ G41_ ∧ (w'.heap[gb326]? = some (.cells G5_ 85 (0, 0))) ∧ (Below w.heap.size w w')) ?_ ?_
                  J70_
                  ·intro hJ6
                   refine join_ (σ := Unit) 7 G25_ (fun s_ => [(16, .string t330)]) (fun s_ w' => (w'.cell? ⟨gb326, 0, none⟩ = some (.int .i64 a0_0) ∧ w'.cell? ⟨gb326, 1, none⟩ = some (.int .i64 a0_1) ∧ w'.cell? ⟨gb326, 2, none⟩ = some (.int .i64 a0_2) ∧ w'.cell? ⟨gb326, 3, none⟩ = some (.int .i64 a0_3) ∧ w'.cell? ⟨gb326, 4, none⟩ = some (.bool true) ∧ w'.cell? ⟨gb326, 5, none⟩ = some (.string a0_5)) ∧ (w'.heap[gb326]? = some (.cells G5_ 85 (0, 0))) ∧ (Below w.heap.size w w')) ?_ ?_
                   J70_
                   ·intro hJ10
                    refine join_ (σ := Value) 7 G24_ (fun s_ => [(23, s_)]) (fun s_ w' => (w'.cell? ⟨gb326, 0, none⟩ = some (.int .i64 a0_0) ∧ w'.cell? ⟨gb326, 1, none⟩ = some (.int .i64 a0_1) ∧ w'.cell? ⟨gb326, 2, none⟩ = some (.int .i64 a0_2) ∧ w'.cell? ⟨gb326, 3, none⟩ = some (.int .i64 a0_3) ∧ w'.cell? ⟨gb326, 4, none⟩ = some (.bool true) ∧ w'.cell? ⟨gb326, 5, none⟩ = some (.string a0_5)) ∧ G42_ ∧ (w'.heap[gb326]? = some (.cells G5_ 85 (0, 0))) ∧ (Below w.heap.size w w')) ?_ ?_
                    J70_
                    ·intro hJ17
                     J51_
                     ·skip
                      J1_
                      intro v328 w9 ho10 hb hg_ hnew_
                      J87_
                      (first | rw [← Ny327.out] at ho10 | (simp only [Int.reduceToNat] at ho10; rw [← Ny327.out] at ho10))
                      J81_
                      J7_
                      J19_
                      J103_
                      J16_
                      clear hb ho10
                      J0_
                      ·show Act.put _ (some 12) _ = _
                       J2_
                       rfl
                      exact norm_ G1_ (hJ6 (v328) _ ⟨hHeld, G18_, G3_, G0_⟩)
                     ·skip
                      J5_
                      with_reducible refine (spec_l11Two.calls a0_2 t330 _ A3.out).mono ?_
                      rintro e w9 ⟨rfl, hb⟩
                      J88_
                      have n0_ := Aside0.mk G57_
                      J86_
                      J19_
                      J71_
                      J22_
                      J0_
                      ·show Act.put _ (some 16) _ = _
                       J2_
                       rfl
                      J55_
                     ·skip
                      J9_
                      intro v332 w9 ho10 hb hg_ hnew_
                      J87_
                      (first | rw [← Ny331.out] at ho10 | (simp only [Int.reduceToNat] at ho10; rw [← Ny331.out] at ho10))
                      J81_
                      J7_
                      J19_
                      J89_
                      J16_
                      clear hb ho10
                      J0_
                      ·show Act.put _ (some 23) _ = _
                       J2_
                       rfl
                      exact norm_ G1_ (hJ17 (v332) _ ⟨hHeld, G19_, G3_, G0_⟩)
                    ·skip
                     rintro v332 w11 ⟨hS_, h0_, h1_, h2_⟩
                     have n0_ : Aside0 (Kd.R (Kd.int .u8) 5 w11 w.heap.size (fun _ => True) v332 y331) := ⟨h0_⟩
                     J79_
                     J19_
                     J85_
                     J89_
                     J16_
                     J65_
                     ·simp only [putAll, Act.put, List.setIfInBounds_toArray, List.set_cons_zero, List.set_cons_succ]
                      rfl
                     J52_
                     ·skip
                      J1_
                      intro v328 w12 ho13 hb hg_ hnew_
                      J87_
                      (first | rw [← Ny327.out] at ho13 | (simp only [Int.reduceToNat] at ho13; rw [← Ny327.out] at ho13))
                      have n0_ := Aside0.mk (Kd.R_elder' G19_ (Kd.R_base ho13) hb)
                      have n1_ := Aside0.mk (Kd.R_lower (Kd.R_new' ho13 (Kd.R_lt G19_)) (below_size G0_))
                      J4_
                      J108_
                      J19_
                      J89_
                      have HO329 := n1_
                      J18_
                      clear hb ho13
                      J0_
                      ·show Act.put _ (some 12) _ = _
                       J2_
                       rfl
                      J27_
                     ·skip
                      J5_
                      with_reducible refine (spec_l11Two.calls a0_2 t330 _ A3.out).mono ?_
                      rintro e w12 ⟨rfl, hb⟩
                      J88_
                      J92_
                      J7_
                      J108_
                      J19_
                      J89_
                      J16_
                      J22_
                      J0_
                      ·show Act.put _ (some 16) _ = _
                       J2_
                       rfl
                      J43_
                     ·skip
                      have hcv12 := own_string (P := Try.prog) Try.underlying45 Try.underlying5 Try.underlying9 G60_
                      J17_
                      ·go_simp
                       constructor
                       ·rfl
                       ·rfl
                      clear hcv12
                      J0_
                      ·show Act.put _ (some 24) _ = _
                       J2_
                       rfl
                      exact norm_ G1_ (hJ17_18 (v332) _ ⟨hHeld, G19_, G3_, G0_⟩)
                   ·skip
                    rintro _ w10 ⟨hS_, h0_, h1_⟩
                    have n0_ : Aside0 (w10.heap[gb326]? = some (.cells G5_ 85 (0, 0))) := ⟨h0_⟩
                    have n1_ : Aside0 (Below w.heap.size w w10) := ⟨h1_⟩
                    J19_
                    clear h0_ h1_
                    J71_
                    have hHeld : w10.cell? ⟨gb326, 0, none⟩ = some (.int .i64 a0_0) ∧ w10.cell? ⟨gb326, 1, none⟩ = some (.int .i64 a0_1) ∧ w10.cell? ⟨gb326, 2, none⟩ = some (.int .i64 a0_2) ∧ w10.cell? ⟨gb326, 3, none⟩ = some (.int .i64 a0_3) ∧ w10.cell? ⟨gb326, 4, none⟩ = some (.bool true) ∧ w10.cell? ⟨gb326, 5, none⟩ = some (.string a0_5) := hS_
                    J106_
                    J70_
                    ·simp only [putAll, Act.put, List.setIfInBounds_toArray, List.set_cons_zero, List.set_cons_succ]
                     rfl
                    J56_
                    ·skip
                     J1_
                     intro v328 w11 ho12 hb hg_ hnew_
                     J87_
                     (first | rw [← Ny327.out] at ho12 | (simp only [Int.reduceToNat] at ho12; rw [← Ny327.out] at ho12))
                     J82_
                     J7_
                     J19_
                     J103_
                     J16_
                     clear hb ho12
                     J0_
                     ·show Act.put _ (some 12) _ = _
                      J2_
                      rfl
                     J45_
                    ·skip
                     J9_
                     intro v332 w11 ho12 hb hg_ hnew_
                     J87_
                     (first | rw [← Ny331.out] at ho12 | (simp only [Int.reduceToNat] at ho12; rw [← Ny331.out] at ho12))
                     J82_
                     J7_
                     J19_
                     J89_
                     J16_
                     clear hb ho12
                     J0_
                     ·show Act.put _ (some 23) _ = _
                      J2_
                      rfl
                     J43_
                  ·skip
                   rintro v328 w11 ⟨hS_, h0_, h1_, h2_⟩
                   have n0_ : Aside0 (Kd.R (Kd.int .u8) 5 w11 w.heap.size (fun _ => True) v328 y327) := ⟨h0_⟩
                   J79_
                   J19_
                   J85_
                   J103_
                   J16_
                   J65_
                   ·simp only [putAll, Act.put, List.setIfInBounds_toArray, List.set_cons_zero, List.set_cons_succ]
                    rfl
                   J53_
                   ·skip
                    have hcv12 := own_string (P := Try.prog) Try.underlying45 Try.underlying5 Try.underlying9 G59_
                    J17_
                    ·go_simp
                     constructor
                     ·rfl
                     ·rfl
                    clear hcv12
                    J0_
                    ·show Act.put _ (some 13) _ = _
                     J2_
                     rfl
                    exact norm_ G1_ (hJ6_7 (v328) _ ⟨hHeld, G18_, G3_, G0_⟩)
                   ·skip
                    J5_
                    with_reducible refine (spec_l11Two.calls a0_2 t330 _ A3.out).mono ?_
                    rintro e w12 ⟨rfl, hb⟩
                    J88_
                    J91_
                    J7_
                    J107_
                    J19_
                    J103_
                    J16_
                    J22_
                    J0_
                    ·show Act.put _ (some 16) _ = _
                     J2_
                     rfl
                    J45_
                   ·skip
                    J9_
                    intro v332 w12 ho13 hb hg_ hnew_
                    J87_
                    (first | rw [← Ny331.out] at ho13 | (simp only [Int.reduceToNat] at ho13; rw [← Ny331.out] at ho13))
                    have n0_ := Aside0.mk (Kd.R_elder' G18_ (Kd.R_base ho13) hb)
                    have n1_ := Aside0.mk (Kd.R_lower (Kd.R_new' ho13 (Kd.R_lt G18_)) (below_size G0_))
                    J4_
                    J107_
                    J19_
                    J68_
                    J18_
                    clear hb ho13
                    J0_
                    ·show Act.put _ (some 23) _ = _
                     J2_
                     rfl
                    J27_
                 ·skip
                  J96_
                  J42_
                  J19_
                  J85_
                  J89_
                  J16_
                  J21_
                  ·simp only [putAll, Act.put, List.setIfInBounds_toArray, List.set_cons_zero, List.set_cons_succ]
                   rfl
                  J58_
                  ·skip
                   J1_
                   intro v328 w13 ho14 hb hg_ hnew_
                   J47_
                   J4_
                   J108_
                   J19_
                   J89_
                   have HO329 := n1_
                   J18_
                   clear hb ho14
                   J0_
                   ·show Act.put _ (some 12) _ = _
                    J2_
                    rfl
                   exact norm_ G1_ (hJ6_17_18 (v328, v332) _ ⟨hHeld, G37_, G38_, G3_, G0_⟩)
                  ·skip
                   J5_
                   with_reducible refine (spec_l11Two.calls a0_2 t330 _ A3.out).mono ?_
                   rintro e w13 ⟨rfl, hb⟩
                   J88_
                   J92_
                   J7_
                   J108_
                   J19_
                   J89_
                   J16_
                   J22_
                   J0_
                   ·show Act.put _ (some 16) _ = _
                    J2_
                    rfl
                   J40_
                ·skip
                 J96_
                 J42_
                 J19_
                 J85_
                 J89_
                 J16_
                 J21_
                 ·simp only [putAll, Act.put, List.setIfInBounds_toArray, List.set_cons_zero, List.set_cons_succ]
                  rfl
                 J59_
                 ·skip
                  J1_
                  intro v328 w13 ho14 hb hg_ hnew_
                  J47_
                  J4_
                  J108_
                  J19_
                  J89_
                  have HO329 := n1_
                  J18_
                  clear hb ho14
                  J0_
                  ·show Act.put _ (some 12) _ = _
                   J2_
                   rfl
                  J25_
                 ·skip
                  have hcv13 := own_string (P := Try.prog) Try.underlying45 Try.underlying5 Try.underlying9 G60_
                  J17_
                  ·go_simp
                   constructor
                   ·rfl
                   ·rfl
                  clear hcv13
                  J0_
                  ·show Act.put _ (some 24) _ = _
                   J2_
                   rfl
                  J40_
               ·skip
                rintro ⟨v328, v332⟩ w13 ⟨hS_, h0_, h1_, h2_, h3_⟩
                have n0_ : Aside0 (Kd.R (Kd.int .u8) 5 w13 w.heap.size G51_ v328 y327) := ⟨h0_⟩
                have n1_ : Aside0 (Kd.R (Kd.int .u8) 5 w13 w.heap.size G50_ v332 y331) := ⟨h1_⟩
                have n2_ : Aside0 (w13.heap[gb326]? = some (.cells G5_ 85 (0, 0))) := ⟨h2_⟩
                have n3_ : Aside0 (Below w.heap.size w w13) := ⟨h3_⟩
                J19_
                clear h0_ h1_ h2_ h3_
                J68_
                J18_
                J32_
                ·simp only [putAll, Act.put, List.setIfInBounds_toArray, List.set_cons_zero, List.set_cons_succ]
                 rfl
                J54_
                ·skip
                 have hcv14 := own_string (P := Try.prog) Try.underlying45 Try.underlying5 Try.underlying9 G59_
                 J17_
                 ·go_simp
                  constructor
                  ·rfl
                  ·rfl
                 clear hcv14
                 J0_
                 ·show Act.put _ (some 13) _ = _
                  J2_
                  rfl
                 exact norm_ G1_ (hJ6_7_17 (v328, v332) _ ⟨hHeld, G18_, G19_, G3_, G0_⟩)
                ·skip
                 J5_
                 with_reducible refine (spec_l11Two.calls a0_2 t330 _ A3.out).mono ?_
                 rintro e w14 ⟨rfl, hb⟩
                 J23_
                 J4_
                 J107_
                 J108_
                 J19_
                 J68_
                 J18_
                 J22_
                 J0_
                 ·show Act.put _ (some 16) _ = _
                  J2_
                  rfl
                 exact norm_ G1_ (hJ6_10_17 (v328, v332) _ ⟨hHeld, G18_, G19_, G3_, G0_⟩)
                ·skip
                 have hcv14 := own_string (P := Try.prog) Try.underlying45 Try.underlying5 Try.underlying9 G60_
                 J17_
                 ·go_simp
                  constructor
                  ·rfl
                  ·rfl
                 clear hcv14
                 J0_
                 ·show Act.put _ (some 24) _ = _
                  J2_
                  rfl
                 exact norm_ G1_ (hJ6_17_18 (v328, v332) _ ⟨hHeld, G18_, G19_, G3_, G0_⟩)
              ·skip
               J95_
               J42_
               J19_
               J85_
               J103_
               J16_
               J21_
               ·simp only [putAll, Act.put, List.setIfInBounds_toArray, List.set_cons_zero, List.set_cons_succ]
                rfl
               J60_
               ·skip
                have hcv13 := own_string (P := Try.prog) Try.underlying45 Try.underlying5 Try.underlying9 G59_
                J17_
                ·go_simp
                 constructor
                 ·rfl
                 ·rfl
                clear hcv13
                J0_
                ·show Act.put _ (some 13) _ = _
                 J2_
                 rfl
                J37_
               ·skip
                J9_
                intro v332 w13 ho14 hb hg_ hnew_
                J48_
                J4_
                J107_
                J19_
                J68_
                J18_
                clear hb ho14
                J0_
                ·show Act.put _ (some 23) _ = _
                 J2_
                 rfl
                J25_
             ·skip
              J95_
              J42_
              J19_
              J85_
              J103_
              J16_
              J21_
              ·simp only [putAll, Act.put, List.setIfInBounds_toArray, List.set_cons_zero, List.set_cons_succ]
               rfl
              J57_
              ·skip
               J5_
               with_reducible refine (spec_l11Two.calls a0_2 t330 _ A3.out).mono ?_
               rintro e w13 ⟨rfl, hb⟩
               J88_
               J91_
               J7_
               J107_
               J19_
               J103_
               J16_
               J22_
               J0_
               ·show Act.put _ (some 16) _ = _
                J2_
                rfl
               J37_
              ·skip
               J9_
               intro v332 w13 ho14 hb hg_ hnew_
               J48_
               J4_
               J107_
               J19_
               J68_
               J18_
               clear hb ho14
               J0_
               ·show Act.put _ (some 23) _ = _
                J2_
                rfl
               exact norm_ G1_ (hJ6_7_17 (v328, v332) _ ⟨hHeld, G37_, G38_, G3_, G0_⟩)
            ·skip
             rintro v332 w13 ⟨hS_, h0_, h1_, h2_⟩
             have n0_ : Aside0 (Kd.R (Kd.int .u8) 5 w13 w.heap.size (fun _ => True) v332 y331) := ⟨h0_⟩
             J80_
             J19_
             J85_
             J89_
             J16_
             J32_
             ·simp only [putAll, Act.put, List.setIfInBounds_toArray, List.set_cons_zero, List.set_cons_succ]
              rfl
             J74_
             J1_
             intro v328 w14 ho15 hb hg_ hnew_
             J87_
             (first | rw [← Ny327.out] at ho15 | (simp only [Int.reduceToNat] at ho15; rw [← Ny327.out] at ho15))
             have n0_ := Aside0.mk (Kd.R_elder' G19_ (Kd.R_base ho15) hb)
             have n1_ := Aside0.mk (Kd.R_lower (Kd.R_new' ho15 (Kd.R_lt G19_)) (below_size G0_))
             J4_
             J108_
             J19_
             J89_
             have HO329 := n1_
             J18_
             clear hb ho15
             J0_
             ·show Act.put _ (some 12) _ = _
              J2_
              rfl
             exact norm_ G1_ (hJ6_10_17_18 (v328, v332) _ ⟨hHeld, G37_, G38_, G3_, G0_⟩)
           ·skip
            J12_
            ·simp only [putAll, Act.put, List.setIfInBounds_toArray, List.set_cons_zero, List.set_cons_succ]
             rfl
            J62_
            ·skip
             J99_
             J17_
             ·go_simp
              constructor
              ·rfl
              ·rfl
             clear hcv15
             J0_
             ·show Act.put _ (some 13) _ = _
              J2_
              rfl
             J35_
            ·skip
             J5_
             with_reducible refine (spec_l11Two.calls a0_2 t330 _ A3.out).mono ?_
             rintro e w15 ⟨rfl, hb⟩
             J23_
             J4_
             J107_
             J108_
             J19_
             J68_
             J18_
             J22_
             J0_
             ·show Act.put _ (some 16) _ = _
              J2_
              rfl
             J33_
          ·skip
           J12_
           ·simp only [putAll, Act.put, List.setIfInBounds_toArray, List.set_cons_zero, List.set_cons_succ]
            rfl
           J63_
           ·skip
            J99_
            J17_
            ·go_simp
             constructor
             ·rfl
             ·rfl
            clear hcv15
            J0_
            ·show Act.put _ (some 13) _ = _
             J2_
             rfl
            J30_
           ·skip
            J100_
            J17_
            ·go_simp
             constructor
             ·rfl
             ·rfl
            clear hcv15
            J0_
            ·show Act.put _ (some 24) _ = _
             J2_
             rfl
            J33_
         ·skip
          J12_
          ·simp only [putAll, Act.put, List.setIfInBounds_toArray, List.set_cons_zero, List.set_cons_succ]
           rfl
          J61_
          ·skip
           J5_
           with_reducible refine (spec_l11Two.calls a0_2 t330 _ A3.out).mono ?_
           rintro e w15 ⟨rfl, hb⟩
           J23_
           J4_
           J107_
           J108_
           J19_
           J68_
           J18_
           J22_
           J0_
           ·show Act.put _ (some 16) _ = _
            J2_
            rfl
           J30_
          ·skip
           J100_
           J17_
           ·go_simp
            constructor
            ·rfl
            ·rfl
           clear hcv15
           J0_
           ·show Act.put _ (some 24) _ = _
            J2_
            rfl
           J35_
        ·skip
         rintro v328 w13 ⟨hS_, h0_, h1_, h2_⟩
         have n0_ : Aside0 (Kd.R (Kd.int .u8) 5 w13 w.heap.size (fun _ => True) v328 y327) := ⟨h0_⟩
         J80_
         J19_
         J85_
         J103_
         J16_
         J32_
         ·simp only [putAll, Act.put, List.setIfInBounds_toArray, List.set_cons_zero, List.set_cons_succ]
          rfl
         J73_
         J9_
         intro v332 w14 ho15 hb hg_ hnew_
         J87_
         (first | rw [← Ny331.out] at ho15 | (simp only [Int.reduceToNat] at ho15; rw [← Ny331.out] at ho15))
         have n0_ := Aside0.mk (Kd.R_elder' G18_ (Kd.R_base ho15) hb)
         have n1_ := Aside0.mk (Kd.R_lower (Kd.R_new' ho15 (Kd.R_lt G18_)) (below_size G0_))
         J4_
         J107_
         J19_
         J68_
         J18_
         clear hb ho15
         J0_
         ·show Act.put _ (some 23) _ = _
          J2_
          rfl
         exact norm_ G1_ (hJ6_7_10_17 (v328, v332) _ ⟨hHeld, G37_, G38_, G3_, G0_⟩)
       ·skip
        J13_
        ·simp only [putAll, Act.put, List.setIfInBounds_toArray, List.set_cons_zero, List.set_cons_succ]
         rfl
        J76_
        have hcv16 := own_string (P := Try.prog) Try.underlying45 Try.underlying5 Try.underlying9 G59_
        J17_
        ·go_simp
         constructor
         ·rfl
         ·rfl
        clear hcv16
        J0_
        ·show Act.put _ (some 13) _ = _
         J2_
         rfl
        J112_
        J14_
      ·skip
       J13_
       ·simp only [putAll, Act.put, List.setIfInBounds_toArray, List.set_cons_zero, List.set_cons_succ]
        rfl
       J72_
       J5_
       with_reducible refine (spec_l11Two.calls a0_2 t330 _ A3.out).mono ?_
       rintro e w16 ⟨rfl, hb⟩
       J23_
       J4_
       J107_
       J108_
       J19_
       J68_
       J18_
       J22_
       J0_
       ·show Act.put _ (some 16) _ = _
        J2_
        rfl
       J112_
       J14_
     ·skip
      J13_
      ·simp only [putAll, Act.put, List.setIfInBounds_toArray, List.set_cons_zero, List.set_cons_succ]
       rfl
      J75_
      have hcv16 := own_string (P := Try.prog) Try.underlying45 Try.underlying5 Try.underlying9 G60_
      J17_
      ·go_simp
       constructor
       ·rfl
       ·rfl
      clear hcv16
      J0_
      ·show Act.put _ (some 24) _ = _
       J2_
       rfl
      J14_
    rintro ⟨v328, v332⟩ w16 ⟨hS_, h0_, h1_, h2_, h3_⟩
    have n0_ : Aside0 (Kd.R (Kd.int .u8) 5 w16 w.heap.size G51_ v328 y327) := ⟨h0_⟩
    have n1_ : Aside0 (Kd.R (Kd.int .u8) 5 w16 w.heap.size G50_ v332 y331) := ⟨h1_⟩
    have n2_ : Aside0 (w16.heap[gb326]? = some (.cells G5_ 85 (0, 0))) := ⟨h2_⟩
    have n3_ : Aside0 (Below w.heap.size w w16) := ⟨h3_⟩
    J19_
    clear h0_ h1_ h2_ h3_
    J68_
    J18_
    have hHeld : w16.cell? ⟨gb326, 0, none⟩ = some (.int .i64 a0_0) ∧ w16.cell? ⟨gb326, 1, none⟩ = some (.int .i64 a0_1) ∧ w16.cell? ⟨gb326, 2, none⟩ = some (.int .i64 a0_2) ∧ w16.cell? ⟨gb326, 3, none⟩ = some (.int .i64 a0_3) ∧ w16.cell? ⟨gb326, 4, none⟩ = some (.bool true) ∧ w16.cell? ⟨gb326, 5, none⟩ = some (.string a0_5) := hS_
    J106_
    J70_
    ·simp only [putAll, Act.put, List.setIfInBounds_toArray, List.set_cons_zero, List.set_cons_succ]
     rfl
    J66_
   ·rw [if_neg c5] at H
    J111_
  ·rw [if_neg c4] at H
   J111_
 ·replace c2 := Bool.eq_false_iff.mpr c2
  subst c2
  rw [if_neg (show ¬ (false = true) by decide)] at H
  obtain ⟨y334, hy334⟩ : ∃ y_ : List Int, y_ = (([(a0_0) % 256, (a0_1) % 256] : List Int)) := ⟨_, rfl⟩
  replace H : ((spec_l11Two.f a0_2).bind fun t337 => (if (strOfNums y334).size + t337.size ≤ 9223372036854775807 then ((some (([(wrap64 (Int.tdiv a0_3 8)) % 256, 0] : List Int) : List Int)).bind fun y338 => (if ((strOfNums y334) ++ t337).size + (strOfNums y338).size ≤ 9223372036854775807 then (some (((strOfNums y334) ++ t337) ++ (strOfNums y338))) else (none))) else (none))) = some r := by first | (rw [hy334]; with_reducible exact H) | (have H2_ := (Option.bind_some _ _).symm.trans H; rw [hy334]; with_reducible exact H2_) | G31_ | with_reducible exact H | (rw [hy334]; exact H) | exact H
  have Ny334 := Aside0.mk hy334
  clear hy334
  replace H := Option.bind_eq_some_iff.mp H
  obtain ⟨t337, A170, H⟩ := H
  (try dsimp only at H)
  have A17 := Aside0.mk A170
  clear A170
  by_cases c18 : (strOfNums y334).size + t337.size ≤ 9223372036854775807
  ·rw [if_pos c18] at H
   have c18b0 := eq_true c18
   have c18b1 : decide ((strOfNums y334).size + t337.size ≤ 9223372036854775807) = true := decide_eq_true c18
   try have c18b2 : (9223372036854775807 < (strOfNums y334).size + t337.size) = False := eq_false (Nat.not_lt.2 c18)
   try (have c18b9 := c18b2; simp only [ByteArray.size_append] at c18b9)
   obtain ⟨y338, hy338⟩ : ∃ y_ : List Int, y_ = (([(wrap64 (Int.tdiv a0_3 8)) % 256, 0] : List Int)) := ⟨_, rfl⟩
   replace H : (if ((strOfNums y334) ++ t337).size + (strOfNums y338).size ≤ 9223372036854775807 then (some (((strOfNums y334) ++ t337) ++ (strOfNums y338))) else (none)) = some r := by first | (rw [hy338]; with_reducible exact H) | (have H2_ := (Option.bind_some _ _).symm.trans H; rw [hy338]; with_reducible exact H2_) | G31_ | with_reducible exact H | (rw [hy338]; exact H) | exact H
   have Ny338 := Aside0.mk hy338
   clear hy338
   by_cases c19 : ((strOfNums y334) ++ t337).size + (strOfNums y338).size ≤ 9223372036854775807
   ·rw [if_pos c19] at H
    have c19b0 := eq_true c19
    have c19b1 : decide (((strOfNums y334) ++ t337).size + (strOfNums y338).size ≤ 9223372036854775807) = true := decide_eq_true c19
    try have c19b2 : (9223372036854775807 < ((strOfNums y334) ++ t337).size + (strOfNums y338).size) = False := eq_false (Nat.not_lt.2 c19)
    try have c19b8 : (9223372036854775807 < (strOfNums y334).size + t337.size + (strOfNums y338).size) = False := eq_false (by have h_ := c19; simp only [ByteArray.size_append, ByteArray.size_extract, decide_eq_true_eq, decide_eq_false_iff_not] at *; omega)
    try (have c19b9 := c19b2; simp only [ByteArray.size_append] at c19b9)
    obtain rfl := Option.some.inj H
    go_enter Try.func171, Try.ntmps171
    try go_wp2_with (first | ((with_reducible refine gate_dst (N := 1) rfl ?_); refine box_event ?hg (N := 1) ?hd (cs := G4_) (t := 85) ?hr ?_; (case hd => rfl); (case hg => rfl); G36_; intro gb326 hg w20 hbox hb; have n0_ := Aside0.mk (below_step G6_ hb); have n1_ := Aside0.mk (hbox); have n2_ := Aside0.mk (G45_); have n3_ := Aside0.mk (G45_); clear HB; have HB := n0_; have BK326 := n1_; have GW326 := n2_; have GE326 := n3_; clear n0_ n1_ n2_ n3_; clear hb hbox hg; have hcz21_0 : w20.cell? ⟨gb326, 0, none⟩ = some (.int .i64 a0_0) := (G64_).trans rfl; have hcz21_1 : w20.cell? ⟨gb326, 1, none⟩ = some (.int .i64 a0_1) := (G65_).trans rfl; have hcz21_2 : w20.cell? ⟨gb326, 2, none⟩ = some (.int .i64 a0_2) := (G66_).trans rfl; have hcz21_3 : w20.cell? ⟨gb326, 3, none⟩ = some (.int .i64 a0_3) := (G67_).trans rfl; have hcz21_4 : w20.cell? ⟨gb326, 4, none⟩ = some (.bool false) := (G68_).trans rfl; have hcz21_5 : w20.cell? ⟨gb326, 5, none⟩ = some (.string a0_5) := (G69_).trans rfl; have hfz21_0 := blk_frozen BK326.out 0; have hfz21_1 := blk_frozen BK326.out 1; have hfz21_2 := blk_frozen BK326.out 2; have hfz21_3 := blk_frozen BK326.out 3; have hfz21_4 := blk_frozen BK326.out 4; have hfz21_5 := blk_frozen BK326.out 5))
    J105_
    J19_
    J71_
    refine start_ (n := 21) (S := fun w' => w'.cell? ⟨gb326, 0, none⟩ = some (.int .i64 a0_0) ∧ w'.cell? ⟨gb326, 1, none⟩ = some (.int .i64 a0_1) ∧ w'.cell? ⟨gb326, 2, none⟩ = some (.int .i64 a0_2) ∧ w'.cell? ⟨gb326, 3, none⟩ = some (.int .i64 a0_3) ∧ w'.cell? ⟨gb326, 4, none⟩ = some (.bool false) ∧ w'.cell? ⟨gb326, 5, none⟩ = some (.string a0_5)) (ds := []) G46_ (by kernel_rfl) rfl rfl ⟨(G64_).trans rfl, (G65_).trans rfl, (G66_).trans rfl, (G67_).trans rfl, (G68_).trans rfl, (G69_).trans rfl⟩ (fun hHeld => ?_); refine with_tabW spec_l11Head.tab4 spec_l11Head.bits4 (fun HT_ HW_ => ?_)
    generalize w20.drew = w22 at BK326 HB hHeld ⊢
    J67_
    refine join_ (σ := Value × Value) 2 G30_ (fun s_ => [(12, s_.1), (13, .string (strOfNums y334)), (16, .string t337), (23, s_.2), (24, .string (strOfNums y338)), (17, .string ((strOfNums y334) ++ t337))]) (fun s_ w' => (w'.cell? ⟨gb326, 0, none⟩ = some (.int .i64 a0_0) ∧ w'.cell? ⟨gb326, 1, none⟩ = some (.int .i64 a0_1) ∧ w'.cell? ⟨gb326, 2, none⟩ = some (.int .i64 a0_2) ∧ w'.cell? ⟨gb326, 3, none⟩ = some (.int .i64 a0_3) ∧ w'.cell? ⟨gb326, 4, none⟩ = some (.bool false) ∧ w'.cell? ⟨gb326, 5, none⟩ = some (.string a0_5)) ∧ G35_ ∧ G33_ ∧ (w'.heap[gb326]? = some (.cells G4_ 85 (0, 0))) ∧ (Below w.heap.size w w')) ?_ ?_
    J70_
    ·intro hJ6_7_10_17_18
     refine join_ (σ := Value × Value) 3 G29_ (fun s_ => [(12, s_.1), (13, .string (strOfNums y334)), (16, .string t337), (23, s_.2), (17, .string ((strOfNums y334) ++ t337))]) (fun s_ w' => (w'.cell? ⟨gb326, 0, none⟩ = some (.int .i64 a0_0) ∧ w'.cell? ⟨gb326, 1, none⟩ = some (.int .i64 a0_1) ∧ w'.cell? ⟨gb326, 2, none⟩ = some (.int .i64 a0_2) ∧ w'.cell? ⟨gb326, 3, none⟩ = some (.int .i64 a0_3) ∧ w'.cell? ⟨gb326, 4, none⟩ = some (.bool false) ∧ w'.cell? ⟨gb326, 5, none⟩ = some (.string a0_5)) ∧ G35_ ∧ G33_ ∧ (w'.heap[gb326]? = some (.cells G4_ 85 (0, 0))) ∧ (Below w.heap.size w w')) ?_ ?_
     J70_
     ·intro hJ6_7_10_17
      refine join_ (σ := Value × Value) 4 G17_ (fun s_ => [(12, s_.1), (13, .string (strOfNums y334)), (23, s_.2), (24, .string (strOfNums y338))]) (fun s_ w' => (w'.cell? ⟨gb326, 0, none⟩ = some (.int .i64 a0_0) ∧ w'.cell? ⟨gb326, 1, none⟩ = some (.int .i64 a0_1) ∧ w'.cell? ⟨gb326, 2, none⟩ = some (.int .i64 a0_2) ∧ w'.cell? ⟨gb326, 3, none⟩ = some (.int .i64 a0_3) ∧ w'.cell? ⟨gb326, 4, none⟩ = some (.bool false) ∧ w'.cell? ⟨gb326, 5, none⟩ = some (.string a0_5)) ∧ G35_ ∧ G33_ ∧ (w'.heap[gb326]? = some (.cells G4_ 85 (0, 0))) ∧ (Below w.heap.size w w')) ?_ ?_
      J70_
      ·intro hJ6_7_17_18
       refine join_ (σ := Value × Value) 4 G10_ (fun s_ => [(12, s_.1), (16, .string t337), (23, s_.2), (24, .string (strOfNums y338))]) (fun s_ w' => (w'.cell? ⟨gb326, 0, none⟩ = some (.int .i64 a0_0) ∧ w'.cell? ⟨gb326, 1, none⟩ = some (.int .i64 a0_1) ∧ w'.cell? ⟨gb326, 2, none⟩ = some (.int .i64 a0_2) ∧ w'.cell? ⟨gb326, 3, none⟩ = some (.int .i64 a0_3) ∧ w'.cell? ⟨gb326, 4, none⟩ = some (.bool false) ∧ w'.cell? ⟨gb326, 5, none⟩ = some (.string a0_5)) ∧ G35_ ∧ G33_ ∧ (w'.heap[gb326]? = some (.cells G4_ 85 (0, 0))) ∧ (Below w.heap.size w w')) ?_ ?_
       J70_
       ·intro hJ6_10_17_18
        refine join_ (σ := Value) 4 G49_ (fun s_ => [(12, s_), (13, .string (strOfNums y334)), (16, .string t337), (17, .string ((strOfNums y334) ++ t337))]) (fun s_ w' => (w'.cell? ⟨gb326, 0, none⟩ = some (.int .i64 a0_0) ∧ w'.cell? ⟨gb326, 1, none⟩ = some (.int .i64 a0_1) ∧ w'.cell? ⟨gb326, 2, none⟩ = some (.int .i64 a0_2) ∧ w'.cell? ⟨gb326, 3, none⟩ = some (.int .i64 a0_3) ∧ w'.cell? ⟨gb326, 4, none⟩ = some (.bool false) ∧ w'.cell? ⟨gb326, 5, none⟩ = some (.string a0_5)) ∧ G43_ ∧ (w'.heap[gb326]? = some (.cells G4_ 85 (0, 0))) ∧ (Below w.heap.size w w')) ?_ ?_
        J70_
        ·intro hJ6_7_10
         refine join_ (σ := Value × Value) 5 G16_ (fun s_ => [(12, s_.1), (13, .string (strOfNums y334)), (23, s_.2)]) (fun s_ w' => (w'.cell? ⟨gb326, 0, none⟩ = some (.int .i64 a0_0) ∧ w'.cell? ⟨gb326, 1, none⟩ = some (.int .i64 a0_1) ∧ w'.cell? ⟨gb326, 2, none⟩ = some (.int .i64 a0_2) ∧ w'.cell? ⟨gb326, 3, none⟩ = some (.int .i64 a0_3) ∧ w'.cell? ⟨gb326, 4, none⟩ = some (.bool false) ∧ w'.cell? ⟨gb326, 5, none⟩ = some (.string a0_5)) ∧ G35_ ∧ G33_ ∧ (w'.heap[gb326]? = some (.cells G4_ 85 (0, 0))) ∧ (Below w.heap.size w w')) ?_ ?_
         J70_
         ·intro hJ6_7_17
          refine join_ (σ := Value × Value) 5 G9_ (fun s_ => [(12, s_.1), (16, .string t337), (23, s_.2)]) (fun s_ w' => (w'.cell? ⟨gb326, 0, none⟩ = some (.int .i64 a0_0) ∧ w'.cell? ⟨gb326, 1, none⟩ = some (.int .i64 a0_1) ∧ w'.cell? ⟨gb326, 2, none⟩ = some (.int .i64 a0_2) ∧ w'.cell? ⟨gb326, 3, none⟩ = some (.int .i64 a0_3) ∧ w'.cell? ⟨gb326, 4, none⟩ = some (.bool false) ∧ w'.cell? ⟨gb326, 5, none⟩ = some (.string a0_5)) ∧ G35_ ∧ G33_ ∧ (w'.heap[gb326]? = some (.cells G4_ 85 (0, 0))) ∧ (Below w.heap.size w w')) ?_ ?_
          J70_
          ·intro hJ6_10_17
           refine join_ (σ := Value × Value) 5 G15_ (fun s_ => [(12, s_.1), (23, s_.2), (24, .string (strOfNums y338))]) (fun s_ w' => (w'.cell? ⟨gb326, 0, none⟩ = some (.int .i64 a0_0) ∧ w'.cell? ⟨gb326, 1, none⟩ = some (.int .i64 a0_1) ∧ w'.cell? ⟨gb326, 2, none⟩ = some (.int .i64 a0_2) ∧ w'.cell? ⟨gb326, 3, none⟩ = some (.int .i64 a0_3) ∧ w'.cell? ⟨gb326, 4, none⟩ = some (.bool false) ∧ w'.cell? ⟨gb326, 5, none⟩ = some (.string a0_5)) ∧ G35_ ∧ G33_ ∧ (w'.heap[gb326]? = some (.cells G4_ 85 (0, 0))) ∧ (Below w.heap.size w w')) ?_ ?_
           J70_
           ·intro hJ6_17_18
            refine join_ (σ := Value) 5 G14_ (fun s_ => [(16, .string t337), (23, s_), (24, .string (strOfNums y338))]) (fun s_ w' => (w'.cell? ⟨gb326, 0, none⟩ = some (.int .i64 a0_0) ∧ w'.cell? ⟨gb326, 1, none⟩ = some (.int .i64 a0_1) ∧ w'.cell? ⟨gb326, 2, none⟩ = some (.int .i64 a0_2) ∧ w'.cell? ⟨gb326, 3, none⟩ = some (.int .i64 a0_3) ∧ w'.cell? ⟨gb326, 4, none⟩ = some (.bool false) ∧ w'.cell? ⟨gb326, 5, none⟩ = some (.string a0_5)) ∧ G44_ ∧ (w'.heap[gb326]? = some (.cells G4_ 85 (0, 0))) ∧ (Below w.heap.size w w')) ?_ ?_
            J70_
            ·intro hJ10_17_18
             refine join_ (σ := Value) 6 G28_ (fun s_ => [(12, s_), (13, .string (strOfNums y334))]) (fun s_ w' => (w'.cell? ⟨gb326, 0, none⟩ = some (.int .i64 a0_0) ∧ w'.cell? ⟨gb326, 1, none⟩ = some (.int .i64 a0_1) ∧ w'.cell? ⟨gb326, 2, none⟩ = some (.int .i64 a0_2) ∧ w'.cell? ⟨gb326, 3, none⟩ = some (.int .i64 a0_3) ∧ w'.cell? ⟨gb326, 4, none⟩ = some (.bool false) ∧ w'.cell? ⟨gb326, 5, none⟩ = some (.string a0_5)) ∧ G43_ ∧ (w'.heap[gb326]? = some (.cells G4_ 85 (0, 0))) ∧ (Below w.heap.size w w')) ?_ ?_
             J70_
             ·intro hJ6_7
              refine join_ (σ := Value) 6 G13_ (fun s_ => [(12, s_), (16, .string t337)]) (fun s_ w' => (w'.cell? ⟨gb326, 0, none⟩ = some (.int .i64 a0_0) ∧ w'.cell? ⟨gb326, 1, none⟩ = some (.int .i64 a0_1) ∧ w'.cell? ⟨gb326, 2, none⟩ = some (.int .i64 a0_2) ∧ w'.cell? ⟨gb326, 3, none⟩ = some (.int .i64 a0_3) ∧ w'.cell? ⟨gb326, 4, none⟩ = some (.bool false) ∧ w'.cell? ⟨gb326, 5, none⟩ = some (.string a0_5)) ∧ G43_ ∧ (w'.heap[gb326]? = some (.cells G4_ 85 (0, 0))) ∧ (Below w.heap.size w w')) ?_ ?_
              J70_
              ·intro hJ6_10
               refine join_ (σ := Value × Value) 6 G12_ (fun s_ => [(12, s_.1), (23, s_.2)]) (fun s_ w' => (w'.cell? ⟨gb326, 0, none⟩ = some (.int .i64 a0_0) ∧ w'.cell? ⟨gb326, 1, none⟩ = some (.int .i64 a0_1) ∧ w'.cell? ⟨gb326, 2, none⟩ = some (.int .i64 a0_2) ∧ w'.cell? ⟨gb326, 3, none⟩ = some (.int .i64 a0_3) ∧ w'.cell? ⟨gb326, 4, none⟩ = some (.bool false) ∧ w'.cell? ⟨gb326, 5, none⟩ = some (.string a0_5)) ∧ G35_ ∧ G33_ ∧ (w'.heap[gb326]? = some (.cells G4_ 85 (0, 0))) ∧ (Below w.heap.size w w')) ?_ ?_
               J70_
               ·intro hJ6_17
                refine join_ (σ := Value) 6 G11_ (fun s_ => [(16, .string t337), (23, s_)]) (fun s_ w' => (w'.cell? ⟨gb326, 0, none⟩ = some (.int .i64 a0_0) ∧ w'.cell? ⟨gb326, 1, none⟩ = some (.int .i64 a0_1) ∧ w'.cell? ⟨gb326, 2, none⟩ = some (.int .i64 a0_2) ∧ w'.cell? ⟨gb326, 3, none⟩ = some (.int .i64 a0_3) ∧ w'.cell? ⟨gb326, 4, none⟩ = some (.bool false) ∧ w'.cell? ⟨gb326, 5, none⟩ = some (.string a0_5)) ∧ G44_ ∧ (w'.heap[gb326]? = some (.cells G4_ 85 (0, 0))) ∧ (Below w.heap.size w w')) ?_ ?_
                J70_
                ·intro hJ10_17
                 refine join_ (σ := Value) 6 G27_ (fun s_ => [(23, s_), (24, .string (strOfNums y338))]) (fun s_ w' => (w'.cell? ⟨gb326, 0, none⟩ = some (.int .i64 a0_0) ∧ w'.cell? ⟨gb326, 1, none⟩ = some (.int .i64 a0_1) ∧ w'.cell? ⟨gb326, 2, none⟩ = some (.int .i64 a0_2) ∧ w'.cell? ⟨gb326, 3, none⟩ = some (.int .i64 a0_3) ∧ w'.cell? ⟨gb326, 4, none⟩ = some (.bool false) ∧ w'.cell? ⟨gb326, 5, none⟩ = some (.string a0_5)) ∧ G44_ ∧ (w'.heap[gb326]? = some (.cells G4_ 85 (0, 0))) ∧ (Below w.heap.size w w')) ?_ ?_
                 J70_
                 ·intro hJ17_18
                  refine join_ (σ := Value) 7 G26_ (fun s_ => [(12, s_)]) (fun s_ w' => (w'.cell? ⟨gb326, 0, none⟩ = some (.int .i64 a0_0) ∧ w'.cell? ⟨gb326, 1, none⟩ = some (.int .i64 a0_1) ∧ w'.cell? ⟨gb326, 2, none⟩ = some (.int .i64 a0_2) ∧ w'.cell? ⟨gb326, 3, none⟩ = some (.int .i64 a0_3) ∧ w'.cell? ⟨gb326, 4, none⟩ = some (.bool false) ∧ w'.cell? ⟨gb326, 5, none⟩ = some (.string a0_5)) ∧ G43_ ∧ (w'.heap[gb326]? = some (.cells G4_ 85 (0, 0))) ∧ (Below w.heap.size w w')) ?_ ?_
                  J70_
                  ·intro hJ6
                   refine join_ (σ := Unit) 7 G25_ (fun s_ => [(16, .string t337)]) (fun s_ w' => (w'.cell? ⟨gb326, 0, none⟩ = some (.int .i64 a0_0) ∧ w'.cell? ⟨gb326, 1, none⟩ = some (.int .i64 a0_1) ∧ w'.cell? ⟨gb326, 2, none⟩ = some (.int .i64 a0_2) ∧ w'.cell? ⟨gb326, 3, none⟩ = some (.int .i64 a0_3) ∧ w'.cell? ⟨gb326, 4, none⟩ = some (.bool false) ∧ w'.cell? ⟨gb326, 5, none⟩ = some (.string a0_5)) ∧ (w'.heap[gb326]? = some (.cells G4_ 85 (0, 0))) ∧ (Below w.heap.size w w')) ?_ ?_
                   J70_
                   ·intro hJ10
                    refine join_ (σ := Value) 7 G24_ (fun s_ => [(23, s_)]) (fun s_ w' => (w'.cell? ⟨gb326, 0, none⟩ = some (.int .i64 a0_0) ∧ w'.cell? ⟨gb326, 1, none⟩ = some (.int .i64 a0_1) ∧ w'.cell? ⟨gb326, 2, none⟩ = some (.int .i64 a0_2) ∧ w'.cell? ⟨gb326, 3, none⟩ = some (.int .i64 a0_3) ∧ w'.cell? ⟨gb326, 4, none⟩ = some (.bool false) ∧ w'.cell? ⟨gb326, 5, none⟩ = some (.string a0_5)) ∧ G44_ ∧ (w'.heap[gb326]? = some (.cells G4_ 85 (0, 0))) ∧ (Below w.heap.size w w')) ?_ ?_
                    J70_
                    ·intro hJ17
                     J51_
                     ·skip
                      J1_
                      intro v335 w23 ho24 hb hg_ hnew_
                      J87_
                      (first | rw [← Ny334.out] at ho24 | (simp only [Int.reduceToNat] at ho24; rw [← Ny334.out] at ho24))
                      J83_
                      J6_
                      J19_
                      J104_
                      J16_
                      clear hb ho24
                      J0_
                      ·show Act.put _ (some 12) _ = _
                       J2_
                       rfl
                      exact norm_ G1_ (hJ6 (v335) _ ⟨hHeld, G20_, G3_, G0_⟩)
                     ·skip
                      J5_
                      with_reducible refine (spec_l11Two.calls a0_2 t337 _ A17.out).mono ?_
                      rintro e w23 ⟨rfl, hb⟩
                      J88_
                      have n0_ := Aside0.mk G56_
                      J86_
                      J19_
                      J71_
                      J22_
                      J0_
                      ·show Act.put _ (some 16) _ = _
                       J2_
                       rfl
                      J55_
                     ·skip
                      J8_
                      intro v339 w23 ho24 hb hg_ hnew_
                      J87_
                      (first | rw [← Ny338.out] at ho24 | (simp only [Int.reduceToNat] at ho24; rw [← Ny338.out] at ho24))
                      J83_
                      J6_
                      J19_
                      J90_
                      J16_
                      clear hb ho24
                      J0_
                      ·show Act.put _ (some 23) _ = _
                       J2_
                       rfl
                      exact norm_ G1_ (hJ17 (v339) _ ⟨hHeld, G21_, G3_, G0_⟩)
                    ·skip
                     rintro v339 w25 ⟨hS_, h0_, h1_, h2_⟩
                     have n0_ : Aside0 (Kd.R (Kd.int .u8) 5 w25 w.heap.size (fun _ => True) v339 y338) := ⟨h0_⟩
                     J77_
                     J19_
                     J85_
                     J90_
                     J16_
                     J64_
                     ·simp only [putAll, Act.put, List.setIfInBounds_toArray, List.set_cons_zero, List.set_cons_succ]
                      rfl
                     J52_
                     ·skip
                      J1_
                      intro v335 w26 ho27 hb hg_ hnew_
                      J87_
                      (first | rw [← Ny334.out] at ho27 | (simp only [Int.reduceToNat] at ho27; rw [← Ny334.out] at ho27))
                      have n0_ := Aside0.mk (Kd.R_elder' G21_ (Kd.R_base ho27) hb)
                      have n1_ := Aside0.mk (Kd.R_lower (Kd.R_new' ho27 (Kd.R_lt G21_)) (below_size G0_))
                      J3_
                      J110_
                      J19_
                      J90_
                      have HO336 := n1_
                      J18_
                      clear hb ho27
                      J0_
                      ·show Act.put _ (some 12) _ = _
                       J2_
                       rfl
                      J28_
                     ·skip
                      J5_
                      with_reducible refine (spec_l11Two.calls a0_2 t337 _ A17.out).mono ?_
                      rintro e w26 ⟨rfl, hb⟩
                      J88_
                      J94_
                      J6_
                      J110_
                      J19_
                      J90_
                      J16_
                      J22_
                      J0_
                      ·show Act.put _ (some 16) _ = _
                       J2_
                       rfl
                      J44_
                     ·skip
                      have hcv26 := own_string (P := Try.prog) Try.underlying45 Try.underlying5 Try.underlying9 G62_
                      J17_
                      ·go_simp
                       constructor
                       ·rfl
                       ·rfl
                      clear hcv26
                      J0_
                      ·show Act.put _ (some 24) _ = _
                       J2_
                       rfl
                      exact norm_ G1_ (hJ17_18 (v339) _ ⟨hHeld, G21_, G3_, G0_⟩)
                   ·skip
                    rintro _ w24 ⟨hS_, h0_, h1_⟩
                    have n0_ : Aside0 (w24.heap[gb326]? = some (.cells G4_ 85 (0, 0))) := ⟨h0_⟩
                    have n1_ : Aside0 (Below w.heap.size w w24) := ⟨h1_⟩
                    J19_
                    clear h0_ h1_
                    J71_
                    have hHeld : w24.cell? ⟨gb326, 0, none⟩ = some (.int .i64 a0_0) ∧ w24.cell? ⟨gb326, 1, none⟩ = some (.int .i64 a0_1) ∧ w24.cell? ⟨gb326, 2, none⟩ = some (.int .i64 a0_2) ∧ w24.cell? ⟨gb326, 3, none⟩ = some (.int .i64 a0_3) ∧ w24.cell? ⟨gb326, 4, none⟩ = some (.bool false) ∧ w24.cell? ⟨gb326, 5, none⟩ = some (.string a0_5) := hS_
                    J106_
                    J70_
                    ·simp only [putAll, Act.put, List.setIfInBounds_toArray, List.set_cons_zero, List.set_cons_succ]
                     rfl
                    J56_
                    ·skip
                     J1_
                     intro v335 w25 ho26 hb hg_ hnew_
                     J87_
                     (first | rw [← Ny334.out] at ho26 | (simp only [Int.reduceToNat] at ho26; rw [← Ny334.out] at ho26))
                     J84_
                     J6_
                     J19_
                     J104_
                     J16_
                     clear hb ho26
                     J0_
                     ·show Act.put _ (some 12) _ = _
                      J2_
                      rfl
                     J46_
                    ·skip
                     J8_
                     intro v339 w25 ho26 hb hg_ hnew_
                     J87_
                     (first | rw [← Ny338.out] at ho26 | (simp only [Int.reduceToNat] at ho26; rw [← Ny338.out] at ho26))
                     J84_
                     J6_
                     J19_
                     J90_
                     J16_
                     clear hb ho26
                     J0_
                     ·show Act.put _ (some 23) _ = _
                      J2_
                      rfl
                     J44_
                  ·skip
                   rintro v335 w25 ⟨hS_, h0_, h1_, h2_⟩
                   have n0_ : Aside0 (Kd.R (Kd.int .u8) 5 w25 w.heap.size (fun _ => True) v335 y334) := ⟨h0_⟩
                   J77_
                   J19_
                   J85_
                   J104_
                   J16_
                   J64_
                   ·simp only [putAll, Act.put, List.setIfInBounds_toArray, List.set_cons_zero, List.set_cons_succ]
                    rfl
                   J53_
                   ·skip
                    have hcv26 := own_string (P := Try.prog) Try.underlying45 Try.underlying5 Try.underlying9 G61_
                    J17_
                    ·go_simp
                     constructor
                     ·rfl
                     ·rfl
                    clear hcv26
                    J0_
                    ·show Act.put _ (some 13) _ = _
                     J2_
                     rfl
                    exact norm_ G1_ (hJ6_7 (v335) _ ⟨hHeld, G20_, G3_, G0_⟩)
                   ·skip
                    J5_
                    with_reducible refine (spec_l11Two.calls a0_2 t337 _ A17.out).mono ?_
                    rintro e w26 ⟨rfl, hb⟩
                    J88_
                    J93_
                    J6_
                    J109_
                    J19_
                    J104_
                    J16_
                    J22_
                    J0_
                    ·show Act.put _ (some 16) _ = _
                     J2_
                     rfl
                    J46_
                   ·skip
                    J8_
                    intro v339 w26 ho27 hb hg_ hnew_
                    J87_
                    (first | rw [← Ny338.out] at ho27 | (simp only [Int.reduceToNat] at ho27; rw [← Ny338.out] at ho27))
                    have n0_ := Aside0.mk (Kd.R_elder' G20_ (Kd.R_base ho27) hb)
                    have n1_ := Aside0.mk (Kd.R_lower (Kd.R_new' ho27 (Kd.R_lt G20_)) (below_size G0_))
                    J3_
                    J109_
                    J19_
                    J69_
                    J18_
                    clear hb ho27
                    J0_
                    ·show Act.put _ (some 23) _ = _
                     J2_
                     rfl
                    J28_
                 ·skip
                  J98_
                  J39_
                  J19_
                  J85_
                  J90_
                  J16_
                  J20_
                  ·simp only [putAll, Act.put, List.setIfInBounds_toArray, List.set_cons_zero, List.set_cons_succ]
                   rfl
                  J58_
                  ·skip
                   J1_
                   intro v335 w27 ho28 hb hg_ hnew_
                   J49_
                   J3_
                   J110_
                   J19_
                   J90_
                   have HO336 := n1_
                   J18_
                   clear hb ho28
                   J0_
                   ·show Act.put _ (some 12) _ = _
                    J2_
                    rfl
                   exact norm_ G1_ (hJ6_17_18 (v335, v339) _ ⟨hHeld, G39_, G40_, G3_, G0_⟩)
                  ·skip
                   J5_
                   with_reducible refine (spec_l11Two.calls a0_2 t337 _ A17.out).mono ?_
                   rintro e w27 ⟨rfl, hb⟩
                   J88_
                   J94_
                   J6_
                   J110_
                   J19_
                   J90_
                   J16_
                   J22_
                   J0_
                   ·show Act.put _ (some 16) _ = _
                    J2_
                    rfl
                   J41_
                ·skip
                 J98_
                 J39_
                 J19_
                 J85_
                 J90_
                 J16_
                 J20_
                 ·simp only [putAll, Act.put, List.setIfInBounds_toArray, List.set_cons_zero, List.set_cons_succ]
                  rfl
                 J59_
                 ·skip
                  J1_
                  intro v335 w27 ho28 hb hg_ hnew_
                  J49_
                  J3_
                  J110_
                  J19_
                  J90_
                  have HO336 := n1_
                  J18_
                  clear hb ho28
                  J0_
                  ·show Act.put _ (some 12) _ = _
                   J2_
                   rfl
                  J26_
                 ·skip
                  have hcv27 := own_string (P := Try.prog) Try.underlying45 Try.underlying5 Try.underlying9 G62_
                  J17_
                  ·go_simp
                   constructor
                   ·rfl
                   ·rfl
                  clear hcv27
                  J0_
                  ·show Act.put _ (some 24) _ = _
                   J2_
                   rfl
                  J41_
               ·skip
                rintro ⟨v335, v339⟩ w27 ⟨hS_, h0_, h1_, h2_, h3_⟩
                have n0_ : Aside0 (Kd.R (Kd.int .u8) 5 w27 w.heap.size G53_ v335 y334) := ⟨h0_⟩
                have n1_ : Aside0 (Kd.R (Kd.int .u8) 5 w27 w.heap.size G52_ v339 y338) := ⟨h1_⟩
                have n2_ : Aside0 (w27.heap[gb326]? = some (.cells G4_ 85 (0, 0))) := ⟨h2_⟩
                have n3_ : Aside0 (Below w.heap.size w w27) := ⟨h3_⟩
                J19_
                clear h0_ h1_ h2_ h3_
                J69_
                J18_
                J29_
                ·simp only [putAll, Act.put, List.setIfInBounds_toArray, List.set_cons_zero, List.set_cons_succ]
                 rfl
                J54_
                ·skip
                 have hcv28 := own_string (P := Try.prog) Try.underlying45 Try.underlying5 Try.underlying9 G61_
                 J17_
                 ·go_simp
                  constructor
                  ·rfl
                  ·rfl
                 clear hcv28
                 J0_
                 ·show Act.put _ (some 13) _ = _
                  J2_
                  rfl
                 exact norm_ G1_ (hJ6_7_17 (v335, v339) _ ⟨hHeld, G20_, G21_, G3_, G0_⟩)
                ·skip
                 J5_
                 with_reducible refine (spec_l11Two.calls a0_2 t337 _ A17.out).mono ?_
                 rintro e w28 ⟨rfl, hb⟩
                 J24_
                 J3_
                 J109_
                 J110_
                 J19_
                 J69_
                 J18_
                 J22_
                 J0_
                 ·show Act.put _ (some 16) _ = _
                  J2_
                  rfl
                 exact norm_ G1_ (hJ6_10_17 (v335, v339) _ ⟨hHeld, G20_, G21_, G3_, G0_⟩)
                ·skip
                 have hcv28 := own_string (P := Try.prog) Try.underlying45 Try.underlying5 Try.underlying9 G62_
                 J17_
                 ·go_simp
                  constructor
                  ·rfl
                  ·rfl
                 clear hcv28
                 J0_
                 ·show Act.put _ (some 24) _ = _
                  J2_
                  rfl
                 exact norm_ G1_ (hJ6_17_18 (v335, v339) _ ⟨hHeld, G20_, G21_, G3_, G0_⟩)
              ·skip
               J97_
               J39_
               J19_
               J85_
               J104_
               J16_
               J20_
               ·simp only [putAll, Act.put, List.setIfInBounds_toArray, List.set_cons_zero, List.set_cons_succ]
                rfl
               J60_
               ·skip
                have hcv27 := own_string (P := Try.prog) Try.underlying45 Try.underlying5 Try.underlying9 G61_
                J17_
                ·go_simp
                 constructor
                 ·rfl
                 ·rfl
                clear hcv27
                J0_
                ·show Act.put _ (some 13) _ = _
                 J2_
                 rfl
                J38_
               ·skip
                J8_
                intro v339 w27 ho28 hb hg_ hnew_
                J50_
                J3_
                J109_
                J19_
                J69_
                J18_
                clear hb ho28
                J0_
                ·show Act.put _ (some 23) _ = _
                 J2_
                 rfl
                J26_
             ·skip
              J97_
              J39_
              J19_
              J85_
              J104_
              J16_
              J20_
              ·simp only [putAll, Act.put, List.setIfInBounds_toArray, List.set_cons_zero, List.set_cons_succ]
               rfl
              J57_
              ·skip
               J5_
               with_reducible refine (spec_l11Two.calls a0_2 t337 _ A17.out).mono ?_
               rintro e w27 ⟨rfl, hb⟩
               J88_
               J93_
               J6_
               J109_
               J19_
               J104_
               J16_
               J22_
               J0_
               ·show Act.put _ (some 16) _ = _
                J2_
                rfl
               J38_
              ·skip
               J8_
               intro v339 w27 ho28 hb hg_ hnew_
               J50_
               J3_
               J109_
               J19_
               J69_
               J18_
               clear hb ho28
               J0_
               ·show Act.put _ (some 23) _ = _
                J2_
                rfl
               exact norm_ G1_ (hJ6_7_17 (v335, v339) _ ⟨hHeld, G39_, G40_, G3_, G0_⟩)
            ·skip
             rintro v339 w27 ⟨hS_, h0_, h1_, h2_⟩
             have n0_ : Aside0 (Kd.R (Kd.int .u8) 5 w27 w.heap.size (fun _ => True) v339 y338) := ⟨h0_⟩
             J78_
             J19_
             J85_
             J90_
             J16_
             J29_
             ·simp only [putAll, Act.put, List.setIfInBounds_toArray, List.set_cons_zero, List.set_cons_succ]
              rfl
             J74_
             J1_
             intro v335 w28 ho29 hb hg_ hnew_
             J87_
             (first | rw [← Ny334.out] at ho29 | (simp only [Int.reduceToNat] at ho29; rw [← Ny334.out] at ho29))
             have n0_ := Aside0.mk (Kd.R_elder' G21_ (Kd.R_base ho29) hb)
             have n1_ := Aside0.mk (Kd.R_lower (Kd.R_new' ho29 (Kd.R_lt G21_)) (below_size G0_))
             J3_
             J110_
             J19_
             J90_
             have HO336 := n1_
             J18_
             clear hb ho29
             J0_
             ·show Act.put _ (some 12) _ = _
              J2_
              rfl
             exact norm_ G1_ (hJ6_10_17_18 (v335, v339) _ ⟨hHeld, G39_, G40_, G3_, G0_⟩)
           ·skip
            J10_
            ·simp only [putAll, Act.put, List.setIfInBounds_toArray, List.set_cons_zero, List.set_cons_succ]
             rfl
            J62_
            ·skip
             J101_
             J17_
             ·go_simp
              constructor
              ·rfl
              ·rfl
             clear hcv29
             J0_
             ·show Act.put _ (some 13) _ = _
              J2_
              rfl
             J36_
            ·skip
             J5_
             with_reducible refine (spec_l11Two.calls a0_2 t337 _ A17.out).mono ?_
             rintro e w29 ⟨rfl, hb⟩
             J24_
             J3_
             J109_
             J110_
             J19_
             J69_
             J18_
             J22_
             J0_
             ·show Act.put _ (some 16) _ = _
              J2_
              rfl
             J34_
          ·skip
           J10_
           ·simp only [putAll, Act.put, List.setIfInBounds_toArray, List.set_cons_zero, List.set_cons_succ]
            rfl
           J63_
           ·skip
            J101_
            J17_
            ·go_simp
             constructor
             ·rfl
             ·rfl
            clear hcv29
            J0_
            ·show Act.put _ (some 13) _ = _
             J2_
             rfl
            J31_
           ·skip
            J102_
            J17_
            ·go_simp
             constructor
             ·rfl
             ·rfl
            clear hcv29
            J0_
            ·show Act.put _ (some 24) _ = _
             J2_
             rfl
            J34_
         ·skip
          J10_
          ·simp only [putAll, Act.put, List.setIfInBounds_toArray, List.set_cons_zero, List.set_cons_succ]
           rfl
          J61_
          ·skip
           J5_
           with_reducible refine (spec_l11Two.calls a0_2 t337 _ A17.out).mono ?_
           rintro e w29 ⟨rfl, hb⟩
           J24_
           J3_
           J109_
           J110_
           J19_
           J69_
           J18_
           J22_
           J0_
           ·show Act.put _ (some 16) _ = _
            J2_
            rfl
           J31_
          ·skip
           J102_
           J17_
           ·go_simp
            constructor
            ·rfl
            ·rfl
           clear hcv29
           J0_
           ·show Act.put _ (some 24) _ = _
            J2_
            rfl
           J36_
        ·skip
         rintro v335 w27 ⟨hS_, h0_, h1_, h2_⟩
         have n0_ : Aside0 (Kd.R (Kd.int .u8) 5 w27 w.heap.size (fun _ => True) v335 y334) := ⟨h0_⟩
         J78_
         J19_
         J85_
         J104_
         J16_
         J29_
         ·simp only [putAll, Act.put, List.setIfInBounds_toArray, List.set_cons_zero, List.set_cons_succ]
          rfl
         J73_
         J8_
         intro v339 w28 ho29 hb hg_ hnew_
         J87_
         (first | rw [← Ny338.out] at ho29 | (simp only [Int.reduceToNat] at ho29; rw [← Ny338.out] at ho29))
         have n0_ := Aside0.mk (Kd.R_elder' G20_ (Kd.R_base ho29) hb)
         have n1_ := Aside0.mk (Kd.R_lower (Kd.R_new' ho29 (Kd.R_lt G20_)) (below_size G0_))
         J3_
         J109_
         J19_
         J69_
         J18_
         clear hb ho29
         J0_
         ·show Act.put _ (some 23) _ = _
          J2_
          rfl
         exact norm_ G1_ (hJ6_7_10_17 (v335, v339) _ ⟨hHeld, G39_, G40_, G3_, G0_⟩)
       ·skip
        J11_
        ·simp only [putAll, Act.put, List.setIfInBounds_toArray, List.set_cons_zero, List.set_cons_succ]
         rfl
        J76_
        have hcv30 := own_string (P := Try.prog) Try.underlying45 Try.underlying5 Try.underlying9 G61_
        J17_
        ·go_simp
         constructor
         ·rfl
         ·rfl
        clear hcv30
        J0_
        ·show Act.put _ (some 13) _ = _
         J2_
         rfl
        J112_
        J15_
      ·skip
       J11_
       ·simp only [putAll, Act.put, List.setIfInBounds_toArray, List.set_cons_zero, List.set_cons_succ]
        rfl
       J72_
       J5_
       with_reducible refine (spec_l11Two.calls a0_2 t337 _ A17.out).mono ?_
       rintro e w30 ⟨rfl, hb⟩
       J24_
       J3_
       J109_
       J110_
       J19_
       J69_
       J18_
       J22_
       J0_
       ·show Act.put _ (some 16) _ = _
        J2_
        rfl
       J112_
       J15_
     ·skip
      J11_
      ·simp only [putAll, Act.put, List.setIfInBounds_toArray, List.set_cons_zero, List.set_cons_succ]
       rfl
      J75_
      have hcv30 := own_string (P := Try.prog) Try.underlying45 Try.underlying5 Try.underlying9 G62_
      J17_
      ·go_simp
       constructor
       ·rfl
       ·rfl
      clear hcv30
      J0_
      ·show Act.put _ (some 24) _ = _
       J2_
       rfl
      J15_
    rintro ⟨v335, v339⟩ w30 ⟨hS_, h0_, h1_, h2_, h3_⟩
    have n0_ : Aside0 (Kd.R (Kd.int .u8) 5 w30 w.heap.size G53_ v335 y334) := ⟨h0_⟩
    have n1_ : Aside0 (Kd.R (Kd.int .u8) 5 w30 w.heap.size G52_ v339 y338) := ⟨h1_⟩
    have n2_ : Aside0 (w30.heap[gb326]? = some (.cells G4_ 85 (0, 0))) := ⟨h2_⟩
    have n3_ : Aside0 (Below w.heap.size w w30) := ⟨h3_⟩
    J19_
    clear h0_ h1_ h2_ h3_
    J69_
    J18_
    have hHeld : w30.cell? ⟨gb326, 0, none⟩ = some (.int .i64 a0_0) ∧ w30.cell? ⟨gb326, 1, none⟩ = some (.int .i64 a0_1) ∧ w30.cell? ⟨gb326, 2, none⟩ = some (.int .i64 a0_2) ∧ w30.cell? ⟨gb326, 3, none⟩ = some (.int .i64 a0_3) ∧ w30.cell? ⟨gb326, 4, none⟩ = some (.bool false) ∧ w30.cell? ⟨gb326, 5, none⟩ = some (.string a0_5) := hS_
    J106_
    J70_
    ·simp only [putAll, Act.put, List.setIfInBounds_toArray, List.set_cons_zero, List.set_cons_succ]
     rfl
    J66_
   ·rw [if_neg c19] at H
    J111_
  ·rw [if_neg c18] at H
   J111_

end Go.Proofs.Ytjijbffecppeiaa.QFnDgrams
