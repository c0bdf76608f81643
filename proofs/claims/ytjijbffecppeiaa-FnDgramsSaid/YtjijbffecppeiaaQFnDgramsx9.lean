/- Functions that a law reaches, as functions of Lean, and the walks that show that the calls come to their answers: written by a program of this project out of the translation. No condition. -/
import Derived.Test.YtjijbffecppeiaaQFnDgramsx0
import Derived.Test.YtjijbffecppeiaaQFnDgramsx1
import Derived.Test.YtjijbffecppeiaaQFnDgramsx2
import Derived.Test.YtjijbffecppeiaaQFnDgramsx3
import Derived.Test.YtjijbffecppeiaaQFnDgramsx4
import Derived.Test.YtjijbffecppeiaaQFnDgramsx5
import Derived.Test.YtjijbffecppeiaaQFnDgramsx7
import Derived.Test.YtjijbffecppeiaaQFnDgramsx8
import Derived.Test.YtjijbffecppeiaaShort2
import Derived.Test.YtjijbffecppeiaaShort
namespace Go.Proofs.Ytjijbffecppeiaa.QFnDgrams
open Go.RowKit Go.Proofs.YtjijbffecppeiaaW.PrintWords Go.Proofs.YtjijbffecppeiaaW.PrintLast Go.Proofs.YtjijbffecppeiaaW.PrintMore Go.Proofs.Ytjijbffecppeiaa.Short
attribute [local go_sem] max2_int min2_int max_two min_two max_three min_three max_four min_four   -- for this text's walks alone
set_option linter.unusedVariables false
set_option linter.unusedSimpArgs false

attribute [local go_sem high] eqA85
/-! ### spec_DrawSumOnes: function 61 -/
def spec_DrawSumOnes.f (k : Nat) (l0 : List Int) : Option (ByteArray) := (spec_l01New.f k l0).bind fun bt370 => ((spec_l01Below.f bt370.1 bt370.2.1 bt370.2.2 12).bind fun bt374 => ((spec_l01Text.f k bt370.1 bt374.2.1 bt374.2.2 bt374.1).bind fun bt377 => (some bt377.1)))
theorem spec_DrawSumOnes.mono : ∀ a0 k, LeO (spec_DrawSumOnes.f k a0) (spec_DrawSumOnes.f (k + 1) a0) := by
 intro a0 k
 unfold spec_DrawSumOnes.f
 repeat' first
   | (with_reducible exact spec_l01New.mono _ _)
   | (with_reducible exact spec_l01Text.mono _ _ _ _ _)
   | (with_reducible exact LeO.refl _)
   | (with_reducible exact LeO.none _)
   | (with_reducible refine LeO.ite ?_ ?_)
   | (with_reducible refine LeO.bind ?_ (fun _ => ?_))
   | exact spec_l01New.mono _ _
   | exact spec_l01Text.mono _ _ _ _ _
   | exact LeO.none _
   | refine LeO.ite ?_ ?_
   | refine LeO.bind ?_ (fun _ => ?_)
set_option hygiene false
local macro:max "G0_" : tactic => `(tactic| (with_reducible repeat (first | refine blk_drewN ?_ _ | refine blk_drew ?_ | refine blk_alloc ?_ _)))
local macro:max "G1_" : term => `((blk_below (g := gb397) (o := .cells #[.int .i64 t390, .int .i64 t391, .int .i64 t392, .int .i64 t393, .bool t394, .string t395] 85 (0, 0)) (by G0_; refine blk_put (cs := #[.int .i64 t390, .int .i64 t391, .int .i64 t392, .int .i64 t393, .bool t394, .string (⟨#[]⟩ : ByteArray)]) ?_ 5 _ rfl; G0_; refine blk_put (cs := #[.int .i64 t390, .int .i64 t391, .int .i64 t392, .int .i64 t393, .bool false, .string (⟨#[]⟩ : ByteArray)]) ?_ 4 _ rfl; G0_; refine blk_put (cs := #[.int .i64 t390, .int .i64 t391, .int .i64 t392, .int .i64 0, .bool false, .string (⟨#[]⟩ : ByteArray)]) ?_ 3 _ rfl; G0_; refine blk_put (cs := #[.int .i64 t390, .int .i64 t391, .int .i64 0, .int .i64 0, .bool false, .string (⟨#[]⟩ : ByteArray)]) ?_ 2 _ rfl; G0_; refine blk_put (cs := #[.int .i64 t390, .int .i64 0, .int .i64 0, .int .i64 0, .bool false, .string (⟨#[]⟩ : ByteArray)]) ?_ 1 _ rfl; G0_; refine blk_put (cs := #[.int .i64 0, .int .i64 0, .int .i64 0, .int .i64 0, .bool false, .string (⟨#[]⟩ : ByteArray)]) ?_ 0 _ rfl; G0_; exact BK397.out) hb))
local macro:max "G2_" : tactic => `(tactic| (first | (with_reducible first | exact HB.out | apply below_alloc | apply pw_below_drewN | apply below_drew1 | refine below_set ?_ GE387.out | refine below_set ?_ GE397.out) | exact HB.out))
local macro:max "G3_" : term => `(#[.int .i64 t381, .int .i64 t382, .int .i64 t383, .int .i64 t384, .bool t385, .string t386])
local macro:max "G4_" : term => `((by (try simp only [List.map_toArray, List.map_cons, List.map_nil]); first | done | rfl | (simp only [List.length_drop, List.length_take]; rfl)))
local macro:max "G5_" : term => `((blk_below (g := gb397) (o := .cells #[.int .i64 t390, .int .i64 t391, .int .i64 t392, .int .i64 t393, .bool t394, .string t395] 85 (0, 0)) (by G0_; exact BK397.out) hb))
local macro:max "G6_" : term => `((by repeat (first | (with_reducible first | exact HB.out | apply below_alloc | apply pw_below_drewN | apply below_drew1 | refine below_set ?_ GE387.out | refine below_set ?_ GE397.out | refine below_set ?_ GE409.out) | exact HB.out)))
local macro:max "G7_" : term => `((blk_below (g := gb387) (o := .cells G3_ 85 (0, 0)) (by G0_; refine blk_far ?_ NB387_397.out _; G0_; refine blk_far ?_ NB387_397.out _; G0_; refine blk_far ?_ NB387_397.out _; G0_; refine blk_far ?_ NB387_397.out _; G0_; refine blk_far ?_ NB387_397.out _; G0_; refine blk_far ?_ NB387_397.out _; G0_; exact BK387.out) hb))
local macro:max "G8_" : term => `((blk_below (g := gb387) (o := .cells G3_ 85 (0, 0)) (by G0_; exact BK387.out) hb))
local macro:max "G9_" : term => `(#[.int .i64 t402, .int .i64 t403, .int .i64 t404, .int .i64 t405, .bool t406, .string t407])
local macro:max "G10_" : term => `((blk_lt (g := gb397) (o := .cells #[.int .i64 t390, .int .i64 t391, .int .i64 t392, .int .i64 t393, .bool t394, .string t395] 85 (0, 0)) (by G0_; exact BK397.out)))
local macro:max "G11_" : term => `((blk_below (g := gb417) (o := .cells #[.int .i64 t410, .int .i64 t411, .int .i64 t412, .int .i64 t413, .bool t414, .string t415] 85 (0, 0)) (by G0_; refine blk_put (cs := #[.int .i64 t410, .int .i64 t411, .int .i64 t412, .int .i64 t413, .bool t414, .string (⟨#[]⟩ : ByteArray)]) ?_ 5 _ rfl; G0_; refine blk_put (cs := #[.int .i64 t410, .int .i64 t411, .int .i64 t412, .int .i64 t413, .bool false, .string (⟨#[]⟩ : ByteArray)]) ?_ 4 _ rfl; G0_; refine blk_put (cs := #[.int .i64 t410, .int .i64 t411, .int .i64 t412, .int .i64 0, .bool false, .string (⟨#[]⟩ : ByteArray)]) ?_ 3 _ rfl; G0_; refine blk_put (cs := #[.int .i64 t410, .int .i64 t411, .int .i64 0, .int .i64 0, .bool false, .string (⟨#[]⟩ : ByteArray)]) ?_ 2 _ rfl; G0_; refine blk_put (cs := #[.int .i64 t410, .int .i64 0, .int .i64 0, .int .i64 0, .bool false, .string (⟨#[]⟩ : ByteArray)]) ?_ 1 _ rfl; G0_; refine blk_put (cs := #[.int .i64 0, .int .i64 0, .int .i64 0, .int .i64 0, .bool false, .string (⟨#[]⟩ : ByteArray)]) ?_ 0 _ rfl; G0_; exact BK417.out) hb))
local macro:max "G12_" : tactic => `(tactic| (first | (with_reducible first | exact HB.out | apply below_alloc | apply pw_below_drewN | apply below_drew1 | refine below_set ?_ GE387.out | refine below_set ?_ GE397.out | refine below_set ?_ GE409.out | refine below_set ?_ GE417.out) | exact HB.out))
local macro:max "G13_" : term => `((by G0_; refine blk_put (cs := #[.int .i64 t402, .int .i64 t403, .int .i64 t404, .int .i64 t405, .bool t406, .string (⟨#[]⟩ : ByteArray)]) ?_ 5 _ rfl; G0_; refine blk_put (cs := #[.int .i64 t402, .int .i64 t403, .int .i64 t404, .int .i64 t405, .bool false, .string (⟨#[]⟩ : ByteArray)]) ?_ 4 _ rfl; G0_; refine blk_put (cs := #[.int .i64 t402, .int .i64 t403, .int .i64 t404, .int .i64 0, .bool false, .string (⟨#[]⟩ : ByteArray)]) ?_ 3 _ rfl; G0_; refine blk_put (cs := #[.int .i64 t402, .int .i64 t403, .int .i64 0, .int .i64 0, .bool false, .string (⟨#[]⟩ : ByteArray)]) ?_ 2 _ rfl; G0_; refine blk_put (cs := #[.int .i64 t402, .int .i64 0, .int .i64 0, .int .i64 0, .bool false, .string (⟨#[]⟩ : ByteArray)]) ?_ 1 _ rfl; G0_; refine blk_put (cs := #[.int .i64 0, .int .i64 0, .int .i64 0, .int .i64 0, .bool false, .string (⟨#[]⟩ : ByteArray)]) ?_ 0 _ rfl; G0_; exact BK409.out))
local macro:max "G14_" : term => `((by repeat (first | (with_reducible first | exact HB.out | apply below_alloc | apply pw_below_drewN | apply below_drew1 | refine below_set ?_ GE387.out) | exact HB.out)))
local macro:max "G15_" : term => `((blk_lt (g := gb387) (o := .cells G3_ 85 (0, 0)) (by G0_; exact BK387.out)))
local macro:max "G16_" : tactic => `(tactic| (first | (with_reducible first | exact HB.out | apply below_alloc | apply pw_below_drewN | apply below_drew1) | exact HB.out))
local macro:max "G17_" : tactic => `(tactic| (case side1 => repeat (first | exact (Kd.C_below HR0.out HB.out) | (with_reducible refine Kd.C_alloc ?_ _) | (with_reducible refine Kd.C_drewN ?_ _) | (with_reducible refine Kd.C_drew ?_))))
local macro:max "G18_" : tactic => `(tactic| (with_reducible refine (spec_DgramOk.calls t381 t382 t383 t384 t385 t386 t398 _ A16.out).mono ?_))
local macro:max "G19_" : term => `(#[.int .i64 0, .int .i64 0, .int .i64 0, .int .i64 0, .bool false, .string (⟨#[]⟩ : ByteArray)])
local macro:max "G20_" : term => `((below_step (by repeat G2_) hb))
local macro:max "G21_" : term => `((blk_below (g := gb397) (o := .cells #[.int .i64 t390, .int .i64 t391, .int .i64 t392, .int .i64 t393, .bool t394, .string t395] 85 (0, 0)) (by G0_; refine blk_far ?_ NB397_409.out _; G0_; refine blk_far ?_ NB397_409.out _; G0_; refine blk_far ?_ NB397_409.out _; G0_; refine blk_far ?_ NB397_409.out _; G0_; refine blk_far ?_ NB397_409.out _; G0_; refine blk_far ?_ NB397_409.out _; G0_; exact BK397.out) hb))
local macro:max "G22_" : term => `((blk_below (g := gb397) (o := .cells #[.int .i64 t390, .int .i64 t391, .int .i64 t392, .int .i64 t393, .bool t394, .string t395] 85 (0, 0)) (by G0_; refine blk_far ?_ NB397_417.out _; G0_; refine blk_far ?_ NB397_417.out _; G0_; refine blk_far ?_ NB397_417.out _; G0_; refine blk_far ?_ NB397_417.out _; G0_; refine blk_far ?_ NB397_417.out _; G0_; refine blk_far ?_ NB397_417.out _; G0_; exact BK397.out) hb))
local macro:max "G23_" : tactic => `(tactic| (with_reducible refine (impl_DgramOk.calls t381 t382 t383 t384 t385 t386 t399 _ A21.out).mono ?_))
local macro:max "G24_" : tactic => `(tactic| (case side1 => repeat (first | exact HR0.out | (with_reducible refine Kd.C_alloc ?_ _) | (with_reducible refine Kd.C_drewN ?_ _) | (with_reducible refine Kd.C_drew ?_))))
local macro:max "G25_" : tactic => `(tactic| (first | (with_reducible first | exact HB.out | apply below_alloc | apply pw_below_drewN | apply below_drew1 | refine below_set ?_ (IsS182.ge HI373.out)) | exact HB.out))
local macro:max "G26_" : term => `((blk_below (g := gb387) (o := .cells G3_ 85 (0, 0)) (by G0_; refine blk_far ?_ NB387_409.out _; G0_; refine blk_far ?_ NB387_409.out _; G0_; refine blk_far ?_ NB387_409.out _; G0_; refine blk_far ?_ NB387_409.out _; G0_; refine blk_far ?_ NB387_409.out _; G0_; refine blk_far ?_ NB387_409.out _; G0_; exact BK387.out) hb))
local macro:max "G27_" : term => `((blk_below (g := gb387) (o := .cells G3_ 85 (0, 0)) (by G0_; refine blk_far ?_ NB387_417.out _; G0_; refine blk_far ?_ NB387_417.out _; G0_; refine blk_far ?_ NB387_417.out _; G0_; refine blk_far ?_ NB387_417.out _; G0_; refine blk_far ?_ NB387_417.out _; G0_; refine blk_far ?_ NB387_417.out _; G0_; exact BK387.out) hb))
local macro:max "G28_" : term => `((blk_below (g := gb409) (o := .cells G9_ 85 (0, 0)) (by G0_; refine blk_far ?_ NB409_417.out _; G0_; refine blk_far ?_ NB409_417.out _; G0_; refine blk_far ?_ NB409_417.out _; G0_; refine blk_far ?_ NB409_417.out _; G0_; refine blk_far ?_ NB409_417.out _; G0_; refine blk_far ?_ NB409_417.out _; G0_; exact BK409.out) hb))
local macro:max "G29_" : tactic => `(tactic| (case hr => first | (go_simp; done) | (go_simp; rfl)))
local macro:max "G30_" : tactic => `(tactic| (with_reducible refine gate_callee (f := 56) rfl ?_))
local macro:max "G31_" : term => `((blk_below (g := gb409) (o := .cells G9_ 85 (0, 0)) (by G0_; exact BK409.out) hb))
local macro:max "G32_" : term => `((blk_cell BK387.out 0))
local macro:max "G33_" : term => `((blk_cell BK387.out 1))
local macro:max "G34_" : term => `((blk_cell BK387.out 2))
local macro:max "G35_" : term => `((blk_cell BK387.out 3))
local macro:max "G36_" : term => `((blk_cell BK387.out 4))
local macro:max "G37_" : term => `((blk_cell BK387.out 5))
local macro:max "G38_" : term => `((blk_lt (g := gb409) (o := .cells G9_ 85 (0, 0)) (by G0_; exact BK409.out)))
local macro:max "G39_" : term => `((by rw [hg]; exact (below_size (by repeat G2_)) : w.heap.size ≤ gb409))
local macro:max "G40_" : tactic => `(tactic| (case side1 => repeat (first | (with_reducible first | exact HI373.out | apply IsS182.alloc | apply IsS182.drewN | apply IsS182.drew | apply IsS182.set_1 | apply IsS182.set_2) | exact HI373.out)))
local macro:max "G41_" : term => `((by rw [hg]; exact (below_size G6_) : w.heap.size ≤ gb417))
local macro:max "G42_" : term => `((blk_below (g := gb417) (o := .cells #[.int .i64 t410, .int .i64 t411, .int .i64 t412, .int .i64 t413, .bool t414, .string t415] 85 (0, 0)) (by G0_; exact BK417.out) hb))
local macro:max "G43_" : tactic => `(tactic| (case side2 => exact HC0.out))
local macro:max "G44_" : term => `(#[.slice A0 l0.length c0])
local macro:max "G45_" : tactic => `(tactic| (with_reducible refine (impl_DgramText.calls kj6 t402 t403 t404 t405 t406 t407 t418 t419 _ A62.out).mono ?_))
local macro:max "G46_" : tactic => `(tactic| (with_reducible refine (spec_ReadDgram.calls kj6 t401 t410 t411 t412 t413 t414 t415 t416 _ A61.out).mono ?_))
local macro:max "G47_" : tactic => `(tactic| (with_reducible refine gate_callee (f := 54) rfl ?_))
local macro:max "G48_" : tactic => `(tactic| (with_reducible refine gate_callee (f := 55) rfl ?_))
local macro:max "G49_" : tactic => `(tactic| (with_reducible refine (spec_DrawReadDgram.calls kj6 _ _ l0 t401 _ ?side1 ?side2 A59.out).mono ?_))
local macro:max "G50_" : tactic => `(tactic| (with_reducible refine (spec_DrawSumOnes.calls kj6 _ _ l0 t420 _ ?side1 ?side2 A63.out).mono ?_))
local macro:max "G51_" : term => `((below_step (by repeat G12_) hb))
local macro:max "G52_" : term => `(⟨by first | omega | exact Nat.le_refl _⟩)
local macro:max "G53_" : term => `((by rw [hg]; exact (below_size (by repeat G16_)) : w.heap.size ≤ gb387))
local macro "J0_" : tactic => `(tactic| ((go_meet); (case rel => exact ⟨_, (true), (by be_), H', G52_, ⟨by G0_; exact BK387.out⟩, ⟨by G0_; exact BK397.out⟩, ⟨by repeat G2_⟩⟩)))
local macro "J1_" : tactic => `(tactic| ((replace H := Option.bind_eq_some_iff.mp H)))
local macro "J2_" : tactic => `(tactic| ((go_ret); (exact ⟨by first | rfl | (simp [errW_none, errW_some] <;> rfl) | (simp [*, errW_none, errW_some] <;> rfl), by repeat G12_⟩)))
local macro "J3_" : tactic => `(tactic| ((try dsimp only at H)))
local macro "J4_" : tactic => `(tactic| ((exact absurd ((Option.some.inj H).trans hr_.out) (by decide))))
local macro "J5_" : tactic => `(tactic| ((rw [if_neg (show ¬ (false = true) by decide)] at H)))
local macro "J6_" : tactic => `(tactic| ((have H' := Aside0.mk H); (clear H)))
local macro "J7_" : tactic => `(tactic| ((have HR0 := Aside0.mk hr0); (have HC0 := Aside0.mk hc0); (clear hr0 hc0); (have HB := Aside0.mk (Below.refl w.heap.size w))))
local macro "J8_" : tactic => `(tactic| ((obtain rfl := Option.some.inj H)))
local macro "J9_" : tactic => `(tactic| ((clear c17); (first | rw [c17b0] | (simp only [i64_w, i32_w]; rw [c17b0]) | skip)))
local macro "J10_" : tactic => `(tactic| ((rw [if_pos rfl] at H)))
set_option hygiene true
set_option maxHeartbeats 8000000 in
set_option maxRecDepth 100000 in
theorem spec_DrawSumOnes.calls (k : Nat) (A0 : Option Addr) (c0 : Nat) (l0 : List Int) (r : ByteArray) (w : World) (hr0 : Kd.C (Kd.int .u8) w A0 l0.length l0) (hc0 : l0.length ≤ c0) (h : spec_DrawSumOnes.f k l0 = some r) :
  Calls Try.prog 61 #[.slice A0 l0.length c0] w fun e w' => e = .returned (.string r) ∧ Below w.heap.size w w' := by
 J7_
 have H : ((spec_l01New.f k l0).bind fun bt370 => ((spec_l01Below.f bt370.1 bt370.2.1 bt370.2.2 12).bind fun bt374 => ((spec_l01Text.f k bt370.1 bt374.2.1 bt374.2.2 bt374.1).bind fun bt377 => (some bt377.1)))) = some r := h
 clear h
 J1_
 obtain ⟨⟨t370, t371, t372⟩, A20, H⟩ := H
 J3_
 have A2 := Aside0.mk A20
 clear A20
 J1_
 obtain ⟨⟨t374, t375, t376⟩, A30, H⟩ := H
 J3_
 have A3 := Aside0.mk A30
 clear A30
 J1_
 obtain ⟨⟨t377, t378, t379⟩, A40, H⟩ := H
 J3_
 have A4 := Aside0.mk A40
 clear A40
 J8_
 go_enter Try.func61, Try.ntmps61
 go_wp2_with (first | ((with_reducible refine gate_callee (f := 96) rfl ?_); refine goesL_ (some 5) rfl rfl Try.func96 (by kernel_rfl) rfl G44_ rfl G4_ ?_; (with_reducible refine (spec_l01New.calls k _ _ l0 t370 t371 t372 w _ ?side1 ?side2 ?side3 A2.out).mono ?_); (case side1 => repeat G16_); (case side2 => exact HR0.out); (case side3 => exact HC0.out); rintro e w5 ⟨g373, rfl, hi, hb, hb2⟩; refine ⟨_, rfl, ?_⟩; have n0_ := Aside0.mk (hb); have n1_ := Aside0.mk (hi); clear HB; have HB := n0_; have HI373 := n1_; clear n0_ n1_; (try clear hb); (try clear hb2); (try clear hk); (try clear hi)) | ((with_reducible refine gate_callee (f := 118) rfl ?_); refine goesL_ (some 8) rfl rfl Try.func118 (by kernel_rfl) rfl #[.pointer (some ⟨g373, 0, none⟩), .int .i64 12] rfl G4_ ?_; (with_reducible refine (spec_l01Below.calls g373 t370 t371 t372 12 t374 t375 t376 w _ ?side1 ?side2 A3.out).mono ?_); G40_; (case side2 => repeat G25_); rintro e w6 ⟨rfl, hi, hb, hk⟩; refine ⟨_, rfl, ?_⟩; have n0_ := Aside0.mk (hb); have n1_ := Aside0.mk (hi); clear HB; clear HI373; have HB := n0_; have HI373 := n1_; clear n0_ n1_; (try clear hb); (try clear hb2); (try clear hk); (try clear hi)) | ((with_reducible refine gate_callee (f := 132) rfl ?_); refine goesL_ (some 9) rfl rfl Try.func132 (by kernel_rfl) rfl #[.pointer (some ⟨g373, 0, none⟩), .int .i64 t374] rfl G4_ ?_; (with_reducible refine (spec_l01Text.calls k g373 t370 t375 t376 t374 t377 t378 t379 w _ ?side1 ?side2 A4.out).mono ?_); G40_; (case side2 => repeat G25_); rintro e w7 ⟨rfl, hi, hb, hk⟩; refine ⟨_, rfl, ?_⟩; have n0_ := Aside0.mk (hb); have n1_ := Aside0.mk (hi); clear HB; clear HI373; have HB := n0_; have HI373 := n1_; clear n0_ n1_; (try clear hb); (try clear hb2); (try clear hk); (try clear hi)))
 go_ret
 exact ⟨by first | rfl | (simp [errW_none, errW_some] <;> rfl) | (simp [*, errW_none, errW_some] <;> rfl), by repeat G25_⟩

/-! ### laws_FnDgrams: function 10 -/
def laws_FnDgrams.j0 : Nat → List Int → Bool → Option (Bool)
 | 0, _, _ => none
 | k + 1, x0, x57 => if x57 = true then (some false) else ((spec_DrawReadDgram.f k x0).bind fun t401 => ((impl_ReadDgram.f k t401).bind fun bt402 => ((spec_ReadDgram.f k t401).bind fun bt410 => ((impl_DgramText.f k bt402.1 bt402.2.1 bt402.2.2.1 bt402.2.2.2.1 bt402.2.2.2.2.1 bt402.2.2.2.2.2.1).bind fun bt418 => ((spec_DrawSumOnes.f k x0).bind fun t420 => (if (bt402.2.2.2.2.2.2 == bt410.2.2.2.2.2.2) = true then (if bt402.2.2.2.2.2.2 = true then (if bt418.1.toList = t401.toList then ((impl_SumOnes.f k t420).bind fun t421 => ((spec_SumOnes.f k t420).bind fun t422 => (if t421 = t422 then ((impl_SumOnes.f k (⟨#[]⟩ : ByteArray)).bind fun t423 => (some (t423 == 65535))) else (some false)))) else (some false)) else ((impl_SumOnes.f k t420).bind fun t424 => ((spec_SumOnes.f k t420).bind fun t425 => (if t424 = t425 then ((impl_SumOnes.f k (⟨#[]⟩ : ByteArray)).bind fun t426 => (some (t426 == 65535))) else (some false))))) else (some false)))))))
def laws_FnDgrams.f (k : Nat) (l0 : List Int) : Option (Bool) := (laws_big.f l0).bind fun t380 => (if t380 = true then (some true) else ((spec_DrawDgramText.f k l0).bind fun bt381 => ((impl_DgramText.f k bt381.1 bt381.2.1 bt381.2.2.1 bt381.2.2.2.1 bt381.2.2.2.2.1 bt381.2.2.2.2.2).bind fun bt388 => ((impl_ReadDgram.f k bt388.1).bind fun bt390 => ((spec_DgramOk.f bt381.1 bt381.2.1 bt381.2.2.1 bt381.2.2.2.1 bt381.2.2.2.2.1 bt381.2.2.2.2.2).bind fun t398 => (if (bt388.2 != t398) = true then (laws_FnDgrams.j0 k l0 true) else ((impl_DgramOk.f bt381.1 bt381.2.1 bt381.2.2.1 bt381.2.2.2.1 bt381.2.2.2.2.1 bt381.2.2.2.2.2).bind fun t399 => (if (t399 != bt388.2) = true then (laws_FnDgrams.j0 k l0 true) else (if bt388.2 = true then (if bt390.2.2.2.2.2.2 = true then (if (!(bt390.1 == bt381.1) || (!(bt390.2.1 == bt381.2.1) || (!(bt390.2.2.1 == bt381.2.2.1) || (!(bt390.2.2.2.1 == bt381.2.2.2.1) || (!(bt390.2.2.2.2.1 == bt381.2.2.2.2.1) || (!(bt390.2.2.2.2.2.1.toList == bt381.2.2.2.2.2.toList))))))) = true then (laws_FnDgrams.j0 k l0 true) else (if 0 ≤ 8 then (if 8 ≤ (bt388.1.size : Int) then ((impl_SumOnes.f k (bt388.1.extract 0 8)).bind fun t400 => (laws_FnDgrams.j0 k l0 (t400 != 0))) else (none)) else (none))) else (laws_FnDgrams.j0 k l0 true)) else (laws_FnDgrams.j0 k l0 false))))))))))
theorem laws_FnDgrams.mono_l : ∀ k, (∀ y0 y1, LeO (laws_FnDgrams.j0 k y0 y1) (laws_FnDgrams.j0 (k + 1) y0 y1))
 | 0 => fun _ _ r h => by simp [laws_FnDgrams.j0] at h
 | k + 1 => by
  have ih0 := laws_FnDgrams.mono_l k
  ·intro y0 y1
   unfold laws_FnDgrams.j0
   repeat' first
   | (with_reducible exact ih0 _ _)
   | (with_reducible exact impl_DgramText.mono _ _ _ _ _ _ _)
   | (with_reducible exact impl_ReadDgram.mono _ _)
   | (with_reducible exact impl_SumOnes.mono _ _)
   | (with_reducible exact spec_DrawDgramText.mono _ _)
   | (with_reducible exact spec_DrawReadDgram.mono _ _)
   | (with_reducible exact spec_DrawSumOnes.mono _ _)
   | (with_reducible exact spec_ReadDgram.mono _ _)
   | (with_reducible exact spec_SumOnes.mono _ _)
   | (with_reducible exact LeO.refl _)
   | (with_reducible exact LeO.none _)
   | (with_reducible refine LeO.ite ?_ ?_)
   | (with_reducible refine LeO.bind ?_ (fun _ => ?_))
   | exact ih0 _ _
   | exact impl_DgramText.mono _ _ _ _ _ _ _
   | exact impl_ReadDgram.mono _ _
   | exact impl_SumOnes.mono _ _
   | exact spec_DrawDgramText.mono _ _
   | exact spec_DrawReadDgram.mono _ _
   | exact spec_DrawSumOnes.mono _ _
   | exact spec_ReadDgram.mono _ _
   | exact spec_SumOnes.mono _ _
   | exact LeO.none _
   | refine LeO.ite ?_ ?_
   | refine LeO.bind ?_ (fun _ => ?_)
theorem laws_FnDgrams.mono : ∀ a0 k, LeO (laws_FnDgrams.f k a0) (laws_FnDgrams.f (k + 1) a0) := by
 intro a0 k
 have ih0 := laws_FnDgrams.mono_l k
 unfold laws_FnDgrams.f
 repeat' first
   | (with_reducible exact ih0 _ _)
   | (with_reducible exact impl_DgramText.mono _ _ _ _ _ _ _)
   | (with_reducible exact impl_ReadDgram.mono _ _)
   | (with_reducible exact impl_SumOnes.mono _ _)
   | (with_reducible exact spec_DrawDgramText.mono _ _)
   | (with_reducible exact spec_DrawReadDgram.mono _ _)
   | (with_reducible exact spec_DrawSumOnes.mono _ _)
   | (with_reducible exact spec_ReadDgram.mono _ _)
   | (with_reducible exact spec_SumOnes.mono _ _)
   | (with_reducible exact LeO.refl _)
   | (with_reducible exact LeO.none _)
   | (with_reducible refine LeO.ite ?_ ?_)
   | (with_reducible refine LeO.bind ?_ (fun _ => ?_))
   | exact ih0 _ _
   | exact impl_DgramText.mono _ _ _ _ _ _ _
   | exact impl_ReadDgram.mono _ _
   | exact impl_SumOnes.mono _ _
   | exact spec_DrawDgramText.mono _ _
   | exact spec_DrawReadDgram.mono _ _
   | exact spec_DrawSumOnes.mono _ _
   | exact spec_ReadDgram.mono _ _
   | exact spec_SumOnes.mono _ _
   | exact LeO.none _
   | refine LeO.ite ?_ ?_
   | refine LeO.bind ?_ (fun _ => ?_)
set_option maxHeartbeats 8000000 in
set_option maxRecDepth 100000 in
theorem laws_FnDgrams.calls (k : Nat) (A0 : Option Addr) (c0 : Nat) (l0 : List Int) (r : Bool) (w : World) (hr0 : Kd.C (Kd.int .u8) w A0 l0.length l0) (hc0 : l0.length ≤ c0) (h : laws_FnDgrams.f k l0 = some r) (hr_ : Aside0 (r = true)) :
  Calls Try.prog 10 #[.slice A0 l0.length c0] w fun e w' => e = .returned (.bool r) ∧ Below w.heap.size w w' := by
 have hu85 := Try.underlying85
 J7_
 have H : ((laws_big.f l0).bind fun t380 => (if t380 = true then (some true) else ((spec_DrawDgramText.f k l0).bind fun bt381 => ((impl_DgramText.f k bt381.1 bt381.2.1 bt381.2.2.1 bt381.2.2.2.1 bt381.2.2.2.2.1 bt381.2.2.2.2.2).bind fun bt388 => ((impl_ReadDgram.f k bt388.1).bind fun bt390 => ((spec_DgramOk.f bt381.1 bt381.2.1 bt381.2.2.1 bt381.2.2.2.1 bt381.2.2.2.2.1 bt381.2.2.2.2.2).bind fun t398 => (if (bt388.2 != t398) = true then (laws_FnDgrams.j0 k l0 true) else ((impl_DgramOk.f bt381.1 bt381.2.1 bt381.2.2.1 bt381.2.2.2.1 bt381.2.2.2.2.1 bt381.2.2.2.2.2).bind fun t399 => (if (t399 != bt388.2) = true then (laws_FnDgrams.j0 k l0 true) else (if bt388.2 = true then (if bt390.2.2.2.2.2.2 = true then (if (!(bt390.1 == bt381.1) || (!(bt390.2.1 == bt381.2.1) || (!(bt390.2.2.1 == bt381.2.2.1) || (!(bt390.2.2.2.1 == bt381.2.2.2.1) || (!(bt390.2.2.2.2.1 == bt381.2.2.2.2.1) || (!(bt390.2.2.2.2.2.1.toList == bt381.2.2.2.2.2.toList))))))) = true then (laws_FnDgrams.j0 k l0 true) else (if 0 ≤ 8 then (if 8 ≤ (bt388.1.size : Int) then ((impl_SumOnes.f k (bt388.1.extract 0 8)).bind fun t400 => (laws_FnDgrams.j0 k l0 (t400 != 0))) else (none)) else (none))) else (laws_FnDgrams.j0 k l0 true)) else (laws_FnDgrams.j0 k l0 false))))))))))) = some r := h
 clear h
 J1_
 obtain ⟨t380, A20, H⟩ := H
 J3_
 have A2 := Aside0.mk A20
 clear A20
 by_cases c3 : t380 = true
 ·subst c3
  J10_
  J8_
  go_enter Try.func10, Try.ntmps10
  go_wp2_with (first | ((with_reducible refine gate_callee (f := 25) rfl ?_); refine goesL_ (some 17) rfl rfl Try.func25 (by kernel_rfl) rfl G44_ rfl G4_ ?_; (with_reducible refine (laws_big.calls _ _ l0 true _ ?side1 ?side2 A2.out).mono ?_); G24_; G43_; rintro e w' ⟨rfl, ⟨nd, rfl⟩⟩; refine ⟨_, rfl, ?_⟩))
  go_ret
  exact ⟨by first | rfl | (simp [errW_none, errW_some] <;> rfl) | (simp [*, errW_none, errW_some] <;> rfl), by repeat G16_⟩
 ·replace c3 := Bool.eq_false_iff.mpr c3
  subst c3
  J5_
  J1_
  obtain ⟨⟨t381, t382, t383, t384, t385, t386⟩, A40, H⟩ := H
  J3_
  have A4 := Aside0.mk A40
  clear A40
  J1_
  obtain ⟨⟨t388, t389⟩, A50, H⟩ := H
  J3_
  have A5 := Aside0.mk A50
  clear A50
  J1_
  obtain ⟨⟨t390, t391, t392, t393, t394, t395, t396⟩, A60, H⟩ := H
  J3_
  have A6 := Aside0.mk A60
  clear A60
  have HC7 := Aside0.mk H
  clear H
  go_enter Try.func10, Try.ntmps10
  go_upto_region 6 with (first | ((with_reducible refine gate_callee (f := 25) rfl ?_); refine goesL_ (some 17) rfl rfl Try.func25 (by kernel_rfl) rfl G44_ rfl G4_ ?_; (with_reducible refine (laws_big.calls _ _ l0 false _ ?side1 ?side2 A2.out).mono ?_); G24_; G43_; rintro e w' ⟨rfl, ⟨nd, rfl⟩⟩; refine ⟨_, rfl, ?_⟩) | ((with_reducible refine gate_callee (f := 53) rfl ?_); refine goesL_ (some 19) rfl rfl Try.func53 (by kernel_rfl) rfl G44_ rfl G4_ ?_; (with_reducible refine (spec_DrawDgramText.calls k _ _ l0 t381 t382 t383 t384 t385 t386 _ ?side1 ?side2 A4.out).mono ?_); G24_; G43_; rintro e w8 ⟨rfl, hb⟩; refine ⟨_, rfl, ?_⟩; have n0_ := Aside0.mk (below_step (by repeat G16_) hb); clear HB; have HB := n0_; clear n0_; (try clear hb); (try clear hb2); (try clear hk); (try clear hi)) | ((with_reducible refine gate_dst (N := 3) rfl ?_); refine box_event ?hg (N := 3) ?hd (cs := G19_) (t := 85) ?hr ?_; (case hd => rfl); (case hg => rfl); G29_; intro gb387 hg w9 hbox hb; have n0_ := Aside0.mk (below_step (by repeat G16_) hb); have n1_ := Aside0.mk (hbox); have n2_ := Aside0.mk (G53_); have n3_ := Aside0.mk (G53_); clear HB; have HB := n0_; have BK387 := n1_; have GW387 := n2_; have GE387 := n3_; clear n0_ n1_ n2_ n3_; clear hb hbox hg; have hcz10_0 : w9.cell? ⟨gb387, 0, none⟩ = some (.int .i64 0) := (G32_).trans rfl; have hcz10_1 : w9.cell? ⟨gb387, 1, none⟩ = some (.int .i64 0) := (G33_).trans rfl; have hcz10_2 : w9.cell? ⟨gb387, 2, none⟩ = some (.int .i64 0) := (G34_).trans rfl; have hcz10_3 : w9.cell? ⟨gb387, 3, none⟩ = some (.int .i64 0) := (G35_).trans rfl; have hcz10_4 : w9.cell? ⟨gb387, 4, none⟩ = some (.bool false) := (G36_).trans rfl; have hcz10_5 : w9.cell? ⟨gb387, 5, none⟩ = some (.string (⟨#[]⟩ : ByteArray)) := (G37_).trans rfl; have hfz10_0 := blk_frozen BK387.out 0; have hfz10_1 := blk_frozen BK387.out 1; have hfz10_2 := blk_frozen BK387.out 2; have hfz10_3 := blk_frozen BK387.out 3; have hfz10_4 := blk_frozen BK387.out 4; have hfz10_5 := blk_frozen BK387.out 5) | (G47_; refine goesL_ (some 22) rfl rfl Try.func54 (by kernel_rfl) rfl #[.agg G3_] rfl G4_ ?_; (with_reducible refine (impl_DgramText.calls k t381 t382 t383 t384 t385 t386 t388 t389 _ A5.out).mono ?_); rintro e w11 ⟨rfl, hb⟩; refine ⟨_, rfl, ?_⟩; have n0_ := Aside0.mk (blk_below (g := gb387) (o := .cells G3_ 85 (0, 0)) (by G0_; refine blk_put (cs := #[.int .i64 t381, .int .i64 t382, .int .i64 t383, .int .i64 t384, .bool t385, .string (⟨#[]⟩ : ByteArray)]) ?_ 5 _ rfl; G0_; refine blk_put (cs := #[.int .i64 t381, .int .i64 t382, .int .i64 t383, .int .i64 t384, .bool false, .string (⟨#[]⟩ : ByteArray)]) ?_ 4 _ rfl; G0_; refine blk_put (cs := #[.int .i64 t381, .int .i64 t382, .int .i64 t383, .int .i64 0, .bool false, .string (⟨#[]⟩ : ByteArray)]) ?_ 3 _ rfl; G0_; refine blk_put (cs := #[.int .i64 t381, .int .i64 t382, .int .i64 0, .int .i64 0, .bool false, .string (⟨#[]⟩ : ByteArray)]) ?_ 2 _ rfl; G0_; refine blk_put (cs := #[.int .i64 t381, .int .i64 0, .int .i64 0, .int .i64 0, .bool false, .string (⟨#[]⟩ : ByteArray)]) ?_ 1 _ rfl; G0_; refine blk_put (cs := G19_) ?_ 0 _ rfl; G0_; exact BK387.out) hb); have n1_ := Aside0.mk (below_step G14_ hb); clear BK387; clear HB; have BK387 := n0_; have HB := n1_; clear n0_ n1_; (try clear hb); (try clear hb2); (try clear hk); (try clear hi)) | (G48_; refine goesL_ (some 27) rfl rfl Try.func55 (by kernel_rfl) rfl #[.string t388] rfl G4_ ?_; (with_reducible refine (impl_ReadDgram.calls k t388 t390 t391 t392 t393 t394 t395 t396 _ A6.out).mono ?_); rintro e w12 ⟨rfl, hb⟩; refine ⟨_, rfl, ?_⟩; have n0_ := Aside0.mk G8_; have n1_ := Aside0.mk (below_step G14_ hb); clear BK387; clear HB; have BK387 := n0_; have HB := n1_; clear n0_ n1_; (try clear hb); (try clear hb2); (try clear hk); (try clear hi)) | ((with_reducible refine gate_dst (N := 6) rfl ?_); refine box_event ?hg (N := 6) ?hd (cs := G19_) (t := 85) ?hr ?_; (case hd => rfl); (case hg => rfl); G29_; intro gb397 hg w13 hbox hb; have n0_ := Aside0.mk G8_; have n1_ := Aside0.mk (below_step G14_ hb); have n2_ := Aside0.mk (hbox); have n3_ := Aside0.mk ((by rw [hg]; exact (below_size G14_) : w.heap.size ≤ gb397)); have n4_ := Aside0.mk ((by rw [hg]; exact (below_size G14_) : w.heap.size ≤ gb397)); have n5_ := Aside0.mk ((by rw [hg]; exact Nat.ne_of_lt G15_ : gb387 ≠ gb397)); have n6_ := Aside0.mk ((by rw [hg]; exact Nat.ne_of_gt G15_ : gb397 ≠ gb387)); clear BK387; clear HB; have BK387 := n0_; have HB := n1_; have BK397 := n2_; have GW397 := n3_; have GE397 := n4_; have NB387_397 := n5_; have NB397_387 := n6_; clear n0_ n1_ n2_ n3_ n4_ n5_ n6_; clear hb hbox hg; have hnb14 := NB397_387.out; have hnc14 := NB387_397.out; have hcz15_0 : w13.cell? ⟨gb397, 0, none⟩ = some (.int .i64 0) := (blk_cell BK397.out 0).trans rfl; have hcz15_1 : w13.cell? ⟨gb397, 1, none⟩ = some (.int .i64 0) := (blk_cell BK397.out 1).trans rfl; have hcz15_2 : w13.cell? ⟨gb397, 2, none⟩ = some (.int .i64 0) := (blk_cell BK397.out 2).trans rfl; have hcz15_3 : w13.cell? ⟨gb397, 3, none⟩ = some (.int .i64 0) := (blk_cell BK397.out 3).trans rfl; have hcz15_4 : w13.cell? ⟨gb397, 4, none⟩ = some (.bool false) := (blk_cell BK397.out 4).trans rfl; have hcz15_5 : w13.cell? ⟨gb397, 5, none⟩ = some (.string (⟨#[]⟩ : ByteArray)) := (blk_cell BK397.out 5).trans rfl; have hfz15_0 := blk_frozen BK397.out 0; have hfz15_1 := blk_frozen BK397.out 1; have hfz15_2 := blk_frozen BK397.out 2; have hfz15_3 := blk_frozen BK397.out 3; have hfz15_4 := blk_frozen BK397.out 4; have hfz15_5 := blk_frozen BK397.out 5))
  (try simp only [Act.put, List.setIfInBounds_toArray, List.set_cons_zero, List.set_cons_succ])
  go_cut [57] (fun v57 wc => ∃ (kq : Nat) (x57_6 : Bool), v57 = .bool x57_6 ∧ Aside0 (laws_FnDgrams.j0 kq l0 x57_6 = some r) ∧ Aside0 (kq ≤ k) ∧ Aside0 (wc.heap[gb387]? = some (.cells G3_ 85 (0, 0))) ∧ Aside0 (wc.heap[gb397]? = some (.cells #[.int .i64 t390, .int .i64 t391, .int .i64 t392, .int .i64 t393, .bool t394, .string t395] 85 (0, 0))) ∧ Aside0 (Below w.heap.size w wc))
  case first =>
   have H := HC7.out
   clear HC7
   J1_
   obtain ⟨t398, A160, H⟩ := H
   J3_
   have A16 := Aside0.mk A160
   clear A160
   by_cases c17 : (t389 != t398) = true
   ·rw [if_pos c17] at H
    have c17b0 : (t389 != t398) = true := c17
    (try (have c17b1 : decide (t389 = t398) = false := by simpa using c17))
    (try (have c17b2 : (t389 == t398) = false := by simpa using c17))
    (try (have c17b3 : ¬ (t389 = t398) := by simpa using c17))
    J9_
    J6_
    have hnb18 := NB387_397.out
    have hnc18 := NB397_387.out
    have hcz19_0 : w13.cell? ⟨gb387, 0, none⟩ = some (.int .i64 t381) := (G32_).trans rfl
    have hcz19_1 : w13.cell? ⟨gb387, 1, none⟩ = some (.int .i64 t382) := (G33_).trans rfl
    have hcz19_2 : w13.cell? ⟨gb387, 2, none⟩ = some (.int .i64 t383) := (G34_).trans rfl
    have hcz19_3 : w13.cell? ⟨gb387, 3, none⟩ = some (.int .i64 t384) := (G35_).trans rfl
    have hcz19_4 : w13.cell? ⟨gb387, 4, none⟩ = some (.bool t385) := (G36_).trans rfl
    have hcz19_5 : w13.cell? ⟨gb387, 5, none⟩ = some (.string t386) := (G37_).trans rfl
    have hfz19_0 := blk_frozen BK387.out 0
    have hfz19_1 := blk_frozen BK387.out 1
    have hfz19_2 := blk_frozen BK387.out 2
    have hfz19_3 := blk_frozen BK387.out 3
    have hfz19_4 := blk_frozen BK387.out 4
    have hfz19_5 := blk_frozen BK387.out 5
    go_wp2_with (first | (G30_; refine goesL_ (some 32) rfl rfl Try.func56 (by kernel_rfl) rfl #[.agg G3_] rfl G4_ ?_; G18_; rintro e w20 ⟨rfl, hb⟩; refine ⟨_, rfl, ?_⟩; have n0_ := Aside0.mk G7_; have n1_ := Aside0.mk G1_; have n2_ := Aside0.mk G20_; clear BK387; clear BK397; clear HB; have BK387 := n0_; have BK397 := n1_; have HB := n2_; clear n0_ n1_ n2_; (try clear hb); (try clear hb2); (try clear hk); (try clear hi)))
    J0_
   ·rw [if_neg c17] at H
    have c17b0 : (t389 != t398) = false := by simpa using c17
    (try (have c17b1 : decide (t389 = t398) = true := by simpa using c17))
    (try (have c17b2 : (t389 == t398) = true := by simpa using c17))
    J9_
    J1_
    obtain ⟨t399, A210, H⟩ := H
    J3_
    have A21 := Aside0.mk A210
    clear A210
    by_cases c22 : (t399 != t389) = true
    ·rw [if_pos c22] at H
     have c22b0 : (t399 != t389) = true := c22
     (try (have c22b1 : decide (t399 = t389) = false := by simpa using c22))
     (try (have c22b2 : (t399 == t389) = false := by simpa using c22))
     (try (have c22b3 : ¬ (t399 = t389) := by simpa using c22))
     clear c22
     J6_
     have hnb23 := NB387_397.out
     have hnc23 := NB397_387.out
     have hcz24_0 : w13.cell? ⟨gb387, 0, none⟩ = some (.int .i64 t381) := (G32_).trans rfl
     have hcz24_1 : w13.cell? ⟨gb387, 1, none⟩ = some (.int .i64 t382) := (G33_).trans rfl
     have hcz24_2 : w13.cell? ⟨gb387, 2, none⟩ = some (.int .i64 t383) := (G34_).trans rfl
     have hcz24_3 : w13.cell? ⟨gb387, 3, none⟩ = some (.int .i64 t384) := (G35_).trans rfl
     have hcz24_4 : w13.cell? ⟨gb387, 4, none⟩ = some (.bool t385) := (G36_).trans rfl
     have hcz24_5 : w13.cell? ⟨gb387, 5, none⟩ = some (.string t386) := (G37_).trans rfl
     have hfz24_0 := blk_frozen BK387.out 0
     have hfz24_1 := blk_frozen BK387.out 1
     have hfz24_2 := blk_frozen BK387.out 2
     have hfz24_3 := blk_frozen BK387.out 3
     have hfz24_4 := blk_frozen BK387.out 4
     have hfz24_5 := blk_frozen BK387.out 5
     go_wp2_with (first | (G30_; refine goesL_ (some 32) rfl rfl Try.func56 (by kernel_rfl) rfl #[.agg G3_] rfl G4_ ?_; G18_; rintro e w25 ⟨rfl, hb⟩; refine ⟨_, rfl, ?_⟩; have n0_ := Aside0.mk G7_; have n1_ := Aside0.mk G1_; have n2_ := Aside0.mk G20_; clear BK387; clear BK397; clear HB; have BK387 := n0_; have BK397 := n1_; have HB := n2_; clear n0_ n1_ n2_; (try clear hb); (try clear hb2); (try clear hk); (try clear hi); have hcz26_0 : w25.cell? ⟨gb387, 0, none⟩ = some (.int .i64 t381) := (G32_).trans rfl; have hcz26_1 : w25.cell? ⟨gb387, 1, none⟩ = some (.int .i64 t382) := (G33_).trans rfl; have hcz26_2 : w25.cell? ⟨gb387, 2, none⟩ = some (.int .i64 t383) := (G34_).trans rfl; have hcz26_3 : w25.cell? ⟨gb387, 3, none⟩ = some (.int .i64 t384) := (G35_).trans rfl; have hcz26_4 : w25.cell? ⟨gb387, 4, none⟩ = some (.bool t385) := (G36_).trans rfl; have hcz26_5 : w25.cell? ⟨gb387, 5, none⟩ = some (.string t386) := (G37_).trans rfl; have hfz26_0 := blk_frozen BK387.out 0; have hfz26_1 := blk_frozen BK387.out 1; have hfz26_2 := blk_frozen BK387.out 2; have hfz26_3 := blk_frozen BK387.out 3; have hfz26_4 := blk_frozen BK387.out 4; have hfz26_5 := blk_frozen BK387.out 5) | (go_at_call 57; G23_; rintro e w27 ⟨rfl, hb⟩; have n0_ := Aside0.mk G8_; have n1_ := Aside0.mk G5_; have n2_ := Aside0.mk G20_; clear BK387; clear BK397; clear HB; have BK387 := n0_; have BK397 := n1_; have HB := n2_; clear n0_ n1_ n2_; (try clear hb); (try clear hb2); (try clear hk); (try clear hi)))
     J0_
    ·rw [if_neg c22] at H
     have c22b0 : (t399 != t389) = false := by simpa using c22
     (try (have c22b1 : decide (t399 = t389) = true := by simpa using c22))
     (try (have c22b2 : (t399 == t389) = true := by simpa using c22))
     clear c22
     by_cases c28 : t389 = true
     ·subst c28
      J10_
      by_cases c29 : t396 = true
      ·subst c29
       J10_
       by_cases c30 : (!(t390 == t381) || (!(t391 == t382) || (!(t392 == t383) || (!(t393 == t384) || (!(t394 == t385) || (!(t395.toList == t386.toList))))))) = true
       ·rw [if_pos c30] at H
        have c30b0 : (!(t390 == t381) || (!(t391 == t382) || (!(t392 == t383) || (!(t393 == t384) || (!(t394 == t385) || (!(t395.toList == t386.toList))))))) = true := c30
        clear c30
        J6_
        have hnb31 := NB387_397.out
        have hnc31 := NB397_387.out
        have hcz32_0 : w13.cell? ⟨gb387, 0, none⟩ = some (.int .i64 t381) := (G32_).trans rfl
        have hcz32_1 : w13.cell? ⟨gb387, 1, none⟩ = some (.int .i64 t382) := (G33_).trans rfl
        have hcz32_2 : w13.cell? ⟨gb387, 2, none⟩ = some (.int .i64 t383) := (G34_).trans rfl
        have hcz32_3 : w13.cell? ⟨gb387, 3, none⟩ = some (.int .i64 t384) := (G35_).trans rfl
        have hcz32_4 : w13.cell? ⟨gb387, 4, none⟩ = some (.bool t385) := (G36_).trans rfl
        have hcz32_5 : w13.cell? ⟨gb387, 5, none⟩ = some (.string t386) := (G37_).trans rfl
        have hfz32_0 := blk_frozen BK387.out 0
        have hfz32_1 := blk_frozen BK387.out 1
        have hfz32_2 := blk_frozen BK387.out 2
        have hfz32_3 := blk_frozen BK387.out 3
        have hfz32_4 := blk_frozen BK387.out 4
        have hfz32_5 := blk_frozen BK387.out 5
        go_wp2_with (first | (G30_; refine goesL_ (some 32) rfl rfl Try.func56 (by kernel_rfl) rfl #[.agg G3_] rfl G4_ ?_; G18_; rintro e w33 ⟨rfl, hb⟩; refine ⟨_, rfl, ?_⟩; have n0_ := Aside0.mk G7_; have n1_ := Aside0.mk G1_; have n2_ := Aside0.mk G20_; clear BK387; clear BK397; clear HB; have BK387 := n0_; have BK397 := n1_; have HB := n2_; clear n0_ n1_ n2_; (try clear hb); (try clear hb2); (try clear hk); (try clear hi); have hcz34_0 : w33.cell? ⟨gb387, 0, none⟩ = some (.int .i64 t381) := (G32_).trans rfl; have hcz34_1 : w33.cell? ⟨gb387, 1, none⟩ = some (.int .i64 t382) := (G33_).trans rfl; have hcz34_2 : w33.cell? ⟨gb387, 2, none⟩ = some (.int .i64 t383) := (G34_).trans rfl; have hcz34_3 : w33.cell? ⟨gb387, 3, none⟩ = some (.int .i64 t384) := (G35_).trans rfl; have hcz34_4 : w33.cell? ⟨gb387, 4, none⟩ = some (.bool t385) := (G36_).trans rfl; have hcz34_5 : w33.cell? ⟨gb387, 5, none⟩ = some (.string t386) := (G37_).trans rfl; have hfz34_0 := blk_frozen BK387.out 0; have hfz34_1 := blk_frozen BK387.out 1; have hfz34_2 := blk_frozen BK387.out 2; have hfz34_3 := blk_frozen BK387.out 3; have hfz34_4 := blk_frozen BK387.out 4; have hfz34_5 := blk_frozen BK387.out 5) | (go_at_call 57; G23_; rintro e w35 ⟨rfl, hb⟩; have n0_ := Aside0.mk G8_; have n1_ := Aside0.mk G5_; have n2_ := Aside0.mk G20_; clear BK387; clear BK397; clear HB; have BK387 := n0_; have BK397 := n1_; have HB := n2_; clear n0_ n1_ n2_; (try clear hb); (try clear hb2); (try clear hk); (try clear hi); have hcz36_0 : w35.cell? ⟨gb397, 0, none⟩ = some (.int .i64 t390) := (blk_cell BK397.out 0).trans rfl; have hcz36_1 : w35.cell? ⟨gb397, 1, none⟩ = some (.int .i64 t391) := (blk_cell BK397.out 1).trans rfl; have hcz36_2 : w35.cell? ⟨gb397, 2, none⟩ = some (.int .i64 t392) := (blk_cell BK397.out 2).trans rfl; have hcz36_3 : w35.cell? ⟨gb397, 3, none⟩ = some (.int .i64 t393) := (blk_cell BK397.out 3).trans rfl; have hcz36_4 : w35.cell? ⟨gb397, 4, none⟩ = some (.bool t394) := (blk_cell BK397.out 4).trans rfl; have hcz36_5 : w35.cell? ⟨gb397, 5, none⟩ = some (.string t395) := (blk_cell BK397.out 5).trans rfl; have hfz36_0 := blk_frozen BK397.out 0; have hfz36_1 := blk_frozen BK397.out 1; have hfz36_2 := blk_frozen BK397.out 2; have hfz36_3 := blk_frozen BK397.out 3; have hfz36_4 := blk_frozen BK397.out 4; have hfz36_5 := blk_frozen BK397.out 5; have hcz37_0 : w35.cell? ⟨gb387, 0, none⟩ = some (.int .i64 t381) := (G32_).trans rfl; have hcz37_1 : w35.cell? ⟨gb387, 1, none⟩ = some (.int .i64 t382) := (G33_).trans rfl; have hcz37_2 : w35.cell? ⟨gb387, 2, none⟩ = some (.int .i64 t383) := (G34_).trans rfl; have hcz37_3 : w35.cell? ⟨gb387, 3, none⟩ = some (.int .i64 t384) := (G35_).trans rfl; have hcz37_4 : w35.cell? ⟨gb387, 4, none⟩ = some (.bool t385) := (G36_).trans rfl; have hcz37_5 : w35.cell? ⟨gb387, 5, none⟩ = some (.string t386) := (G37_).trans rfl; have hfz37_0 := blk_frozen BK387.out 0; have hfz37_1 := blk_frozen BK387.out 1; have hfz37_2 := blk_frozen BK387.out 2; have hfz37_3 := blk_frozen BK387.out 3; have hfz37_4 := blk_frozen BK387.out 4; have hfz37_5 := blk_frozen BK387.out 5))
        J0_
       ·rw [if_neg c30] at H
        have c30b0 : (!(t390 == t381) || (!(t391 == t382) || (!(t392 == t383) || (!(t393 == t384) || (!(t394 == t385) || (!(t395.toList == t386.toList))))))) = false := by simpa using c30
        clear c30
        by_cases c38 : 0 ≤ 8
        ·rw [if_pos c38] at H
         have c38b0 := eq_true c38
         have c38b1 : decide (0 ≤ 8) = true := decide_eq_true c38
         clear c38
         by_cases c39 : 8 ≤ (t388.size : Int)
         ·rw [if_pos c39] at H
          have c39b0 := eq_true c39
          have c39b1 : decide (8 ≤ (t388.size : Int)) = true := decide_eq_true c39
          clear c39
          J1_
          obtain ⟨t400, A400, H⟩ := H
          J3_
          have A40 := Aside0.mk A400
          clear A400
          J6_
          have hnb41 := NB387_397.out
          have hnc41 := NB397_387.out
          have hcz42_0 : w13.cell? ⟨gb387, 0, none⟩ = some (.int .i64 t381) := (G32_).trans rfl
          have hcz42_1 : w13.cell? ⟨gb387, 1, none⟩ = some (.int .i64 t382) := (G33_).trans rfl
          have hcz42_2 : w13.cell? ⟨gb387, 2, none⟩ = some (.int .i64 t383) := (G34_).trans rfl
          have hcz42_3 : w13.cell? ⟨gb387, 3, none⟩ = some (.int .i64 t384) := (G35_).trans rfl
          have hcz42_4 : w13.cell? ⟨gb387, 4, none⟩ = some (.bool t385) := (G36_).trans rfl
          have hcz42_5 : w13.cell? ⟨gb387, 5, none⟩ = some (.string t386) := (G37_).trans rfl
          have hfz42_0 := blk_frozen BK387.out 0
          have hfz42_1 := blk_frozen BK387.out 1
          have hfz42_2 := blk_frozen BK387.out 2
          have hfz42_3 := blk_frozen BK387.out 3
          have hfz42_4 := blk_frozen BK387.out 4
          have hfz42_5 := blk_frozen BK387.out 5
          go_wp2_with (first | (G30_; refine goesL_ (some 32) rfl rfl Try.func56 (by kernel_rfl) rfl #[.agg G3_] rfl G4_ ?_; G18_; rintro e w43 ⟨rfl, hb⟩; refine ⟨_, rfl, ?_⟩; have n0_ := Aside0.mk G7_; have n1_ := Aside0.mk G1_; have n2_ := Aside0.mk G20_; clear BK387; clear BK397; clear HB; have BK387 := n0_; have BK397 := n1_; have HB := n2_; clear n0_ n1_ n2_; (try clear hb); (try clear hb2); (try clear hk); (try clear hi); have hcz44_0 : w43.cell? ⟨gb387, 0, none⟩ = some (.int .i64 t381) := (G32_).trans rfl; have hcz44_1 : w43.cell? ⟨gb387, 1, none⟩ = some (.int .i64 t382) := (G33_).trans rfl; have hcz44_2 : w43.cell? ⟨gb387, 2, none⟩ = some (.int .i64 t383) := (G34_).trans rfl; have hcz44_3 : w43.cell? ⟨gb387, 3, none⟩ = some (.int .i64 t384) := (G35_).trans rfl; have hcz44_4 : w43.cell? ⟨gb387, 4, none⟩ = some (.bool t385) := (G36_).trans rfl; have hcz44_5 : w43.cell? ⟨gb387, 5, none⟩ = some (.string t386) := (G37_).trans rfl; have hfz44_0 := blk_frozen BK387.out 0; have hfz44_1 := blk_frozen BK387.out 1; have hfz44_2 := blk_frozen BK387.out 2; have hfz44_3 := blk_frozen BK387.out 3; have hfz44_4 := blk_frozen BK387.out 4; have hfz44_5 := blk_frozen BK387.out 5) | (go_at_call 57; G23_; rintro e w45 ⟨rfl, hb⟩; have n0_ := Aside0.mk G8_; have n1_ := Aside0.mk G5_; have n2_ := Aside0.mk G20_; clear BK387; clear BK397; clear HB; have BK387 := n0_; have BK397 := n1_; have HB := n2_; clear n0_ n1_ n2_; (try clear hb); (try clear hb2); (try clear hk); (try clear hi); have hcz46_0 : w45.cell? ⟨gb397, 0, none⟩ = some (.int .i64 t390) := (blk_cell BK397.out 0).trans rfl; have hcz46_1 : w45.cell? ⟨gb397, 1, none⟩ = some (.int .i64 t391) := (blk_cell BK397.out 1).trans rfl; have hcz46_2 : w45.cell? ⟨gb397, 2, none⟩ = some (.int .i64 t392) := (blk_cell BK397.out 2).trans rfl; have hcz46_3 : w45.cell? ⟨gb397, 3, none⟩ = some (.int .i64 t393) := (blk_cell BK397.out 3).trans rfl; have hcz46_4 : w45.cell? ⟨gb397, 4, none⟩ = some (.bool t394) := (blk_cell BK397.out 4).trans rfl; have hcz46_5 : w45.cell? ⟨gb397, 5, none⟩ = some (.string t395) := (blk_cell BK397.out 5).trans rfl; have hfz46_0 := blk_frozen BK397.out 0; have hfz46_1 := blk_frozen BK397.out 1; have hfz46_2 := blk_frozen BK397.out 2; have hfz46_3 := blk_frozen BK397.out 3; have hfz46_4 := blk_frozen BK397.out 4; have hfz46_5 := blk_frozen BK397.out 5; have hcz47_0 : w45.cell? ⟨gb387, 0, none⟩ = some (.int .i64 t381) := (G32_).trans rfl; have hcz47_1 : w45.cell? ⟨gb387, 1, none⟩ = some (.int .i64 t382) := (G33_).trans rfl; have hcz47_2 : w45.cell? ⟨gb387, 2, none⟩ = some (.int .i64 t383) := (G34_).trans rfl; have hcz47_3 : w45.cell? ⟨gb387, 3, none⟩ = some (.int .i64 t384) := (G35_).trans rfl; have hcz47_4 : w45.cell? ⟨gb387, 4, none⟩ = some (.bool t385) := (G36_).trans rfl; have hcz47_5 : w45.cell? ⟨gb387, 5, none⟩ = some (.string t386) := (G37_).trans rfl; have hfz47_0 := blk_frozen BK387.out 0; have hfz47_1 := blk_frozen BK387.out 1; have hfz47_2 := blk_frozen BK387.out 2; have hfz47_3 := blk_frozen BK387.out 3; have hfz47_4 := blk_frozen BK387.out 4; have hfz47_5 := blk_frozen BK387.out 5) | (go_at_call 58; (with_reducible refine (impl_SumOnes.calls k (t388.extract 0 8) t400 _ A40.out).mono ?_); rintro e w' ⟨rfl, ⟨nd, rfl⟩⟩))
          go_meet
          case rel => exact ⟨_, ((t400 != 0)), (by be_), H', G52_, ⟨by G0_; exact BK387.out⟩, ⟨by G0_; exact BK397.out⟩, ⟨by repeat G2_⟩⟩
         ·rw [if_neg c39] at H
          exact absurd H (by simp)
        ·rw [if_neg c38] at H
         exact absurd H (by simp)
      ·replace c29 := Bool.eq_false_iff.mpr c29
       subst c29
       J5_
       J6_
       have hnb48 := NB387_397.out
       have hnc48 := NB397_387.out
       have hcz49_0 : w13.cell? ⟨gb387, 0, none⟩ = some (.int .i64 t381) := (G32_).trans rfl
       have hcz49_1 : w13.cell? ⟨gb387, 1, none⟩ = some (.int .i64 t382) := (G33_).trans rfl
       have hcz49_2 : w13.cell? ⟨gb387, 2, none⟩ = some (.int .i64 t383) := (G34_).trans rfl
       have hcz49_3 : w13.cell? ⟨gb387, 3, none⟩ = some (.int .i64 t384) := (G35_).trans rfl
       have hcz49_4 : w13.cell? ⟨gb387, 4, none⟩ = some (.bool t385) := (G36_).trans rfl
       have hcz49_5 : w13.cell? ⟨gb387, 5, none⟩ = some (.string t386) := (G37_).trans rfl
       have hfz49_0 := blk_frozen BK387.out 0
       have hfz49_1 := blk_frozen BK387.out 1
       have hfz49_2 := blk_frozen BK387.out 2
       have hfz49_3 := blk_frozen BK387.out 3
       have hfz49_4 := blk_frozen BK387.out 4
       have hfz49_5 := blk_frozen BK387.out 5
       go_wp2_with (first | (G30_; refine goesL_ (some 32) rfl rfl Try.func56 (by kernel_rfl) rfl #[.agg G3_] rfl G4_ ?_; G18_; rintro e w50 ⟨rfl, hb⟩; refine ⟨_, rfl, ?_⟩; have n0_ := Aside0.mk G7_; have n1_ := Aside0.mk G1_; have n2_ := Aside0.mk G20_; clear BK387; clear BK397; clear HB; have BK387 := n0_; have BK397 := n1_; have HB := n2_; clear n0_ n1_ n2_; (try clear hb); (try clear hb2); (try clear hk); (try clear hi); have hcz51_0 : w50.cell? ⟨gb387, 0, none⟩ = some (.int .i64 t381) := (G32_).trans rfl; have hcz51_1 : w50.cell? ⟨gb387, 1, none⟩ = some (.int .i64 t382) := (G33_).trans rfl; have hcz51_2 : w50.cell? ⟨gb387, 2, none⟩ = some (.int .i64 t383) := (G34_).trans rfl; have hcz51_3 : w50.cell? ⟨gb387, 3, none⟩ = some (.int .i64 t384) := (G35_).trans rfl; have hcz51_4 : w50.cell? ⟨gb387, 4, none⟩ = some (.bool t385) := (G36_).trans rfl; have hcz51_5 : w50.cell? ⟨gb387, 5, none⟩ = some (.string t386) := (G37_).trans rfl; have hfz51_0 := blk_frozen BK387.out 0; have hfz51_1 := blk_frozen BK387.out 1; have hfz51_2 := blk_frozen BK387.out 2; have hfz51_3 := blk_frozen BK387.out 3; have hfz51_4 := blk_frozen BK387.out 4; have hfz51_5 := blk_frozen BK387.out 5) | (go_at_call 57; G23_; rintro e w52 ⟨rfl, hb⟩; have n0_ := Aside0.mk G8_; have n1_ := Aside0.mk G5_; have n2_ := Aside0.mk G20_; clear BK387; clear BK397; clear HB; have BK387 := n0_; have BK397 := n1_; have HB := n2_; clear n0_ n1_ n2_; (try clear hb); (try clear hb2); (try clear hk); (try clear hi)))
       J0_
     ·replace c28 := Bool.eq_false_iff.mpr c28
      subst c28
      J5_
      J6_
      have hnb53 := NB387_397.out
      have hnc53 := NB397_387.out
      have hcz54_0 : w13.cell? ⟨gb387, 0, none⟩ = some (.int .i64 t381) := (G32_).trans rfl
      have hcz54_1 : w13.cell? ⟨gb387, 1, none⟩ = some (.int .i64 t382) := (G33_).trans rfl
      have hcz54_2 : w13.cell? ⟨gb387, 2, none⟩ = some (.int .i64 t383) := (G34_).trans rfl
      have hcz54_3 : w13.cell? ⟨gb387, 3, none⟩ = some (.int .i64 t384) := (G35_).trans rfl
      have hcz54_4 : w13.cell? ⟨gb387, 4, none⟩ = some (.bool t385) := (G36_).trans rfl
      have hcz54_5 : w13.cell? ⟨gb387, 5, none⟩ = some (.string t386) := (G37_).trans rfl
      have hfz54_0 := blk_frozen BK387.out 0
      have hfz54_1 := blk_frozen BK387.out 1
      have hfz54_2 := blk_frozen BK387.out 2
      have hfz54_3 := blk_frozen BK387.out 3
      have hfz54_4 := blk_frozen BK387.out 4
      have hfz54_5 := blk_frozen BK387.out 5
      go_wp2_with (first | (G30_; refine goesL_ (some 32) rfl rfl Try.func56 (by kernel_rfl) rfl #[.agg G3_] rfl G4_ ?_; G18_; rintro e w55 ⟨rfl, hb⟩; refine ⟨_, rfl, ?_⟩; have n0_ := Aside0.mk G7_; have n1_ := Aside0.mk G1_; have n2_ := Aside0.mk G20_; clear BK387; clear BK397; clear HB; have BK387 := n0_; have BK397 := n1_; have HB := n2_; clear n0_ n1_ n2_; (try clear hb); (try clear hb2); (try clear hk); (try clear hi); have hcz56_0 : w55.cell? ⟨gb387, 0, none⟩ = some (.int .i64 t381) := (G32_).trans rfl; have hcz56_1 : w55.cell? ⟨gb387, 1, none⟩ = some (.int .i64 t382) := (G33_).trans rfl; have hcz56_2 : w55.cell? ⟨gb387, 2, none⟩ = some (.int .i64 t383) := (G34_).trans rfl; have hcz56_3 : w55.cell? ⟨gb387, 3, none⟩ = some (.int .i64 t384) := (G35_).trans rfl; have hcz56_4 : w55.cell? ⟨gb387, 4, none⟩ = some (.bool t385) := (G36_).trans rfl; have hcz56_5 : w55.cell? ⟨gb387, 5, none⟩ = some (.string t386) := (G37_).trans rfl; have hfz56_0 := blk_frozen BK387.out 0; have hfz56_1 := blk_frozen BK387.out 1; have hfz56_2 := blk_frozen BK387.out 2; have hfz56_3 := blk_frozen BK387.out 3; have hfz56_4 := blk_frozen BK387.out 4; have hfz56_5 := blk_frozen BK387.out 5) | (go_at_call 57; G23_; rintro e w57 ⟨rfl, hb⟩; have n0_ := Aside0.mk G8_; have n1_ := Aside0.mk G5_; have n2_ := Aside0.mk G20_; clear BK387; clear BK397; clear HB; have BK387 := n0_; have BK397 := n1_; have HB := n2_; clear n0_ n1_ n2_; (try clear hb); (try clear hb2); (try clear hk); (try clear hi)))
      go_meet
      case rel => exact ⟨_, (false), (by be_), H', G52_, ⟨by G0_; exact BK387.out⟩, ⟨by G0_; exact BK397.out⟩, ⟨by repeat G2_⟩⟩
  case rest =>
   clear HC7
   try clear c1
   try clear c2
   try clear p2
   try clear c3
   try clear c4
   try clear c5
   try clear c10
   try clear c14
   try clear c17
   try clear c17b0
   try clear c17b1
   try clear c17b2
   try clear c18
   try clear c22
   try clear c22b0
   try clear c22b1
   try clear c22b2
   try clear c23
   try clear c25
   try clear c28
   try clear c29
   try clear c30
   try clear c30b0
   try clear c31
   try clear c38
   try clear c38b0
   try clear c38b1
   try clear c39
   try clear c39b0
   try clear c39b1
   try clear c41
   try clear c48
   try clear c53
   try clear c54
   try clear c55
   try clear c56
   try clear hcz10_0
   try clear hcz10_1
   try clear hcz10_2
   try clear hcz10_3
   try clear hcz10_4
   try clear hcz10_5
   try clear hcz15_0
   try clear hcz15_1
   try clear hcz15_2
   try clear hcz15_3
   try clear hcz15_4
   try clear hcz15_5
   try clear hcz19_0
   try clear hcz19_1
   try clear hcz19_2
   try clear hcz19_3
   try clear hcz19_4
   try clear hcz19_5
   try clear hcz24_0
   try clear hcz24_1
   try clear hcz24_2
   try clear hcz24_3
   try clear hcz24_4
   try clear hcz24_5
   try clear hcz26_0
   try clear hcz26_1
   try clear hcz26_2
   try clear hcz26_3
   try clear hcz26_4
   try clear hcz26_5
   try clear hcz32_0
   try clear hcz32_1
   try clear hcz32_2
   try clear hcz32_3
   try clear hcz32_4
   try clear hcz32_5
   try clear hcz34_0
   try clear hcz34_1
   try clear hcz34_2
   try clear hcz34_3
   try clear hcz34_4
   try clear hcz34_5
   try clear hcz36_0
   try clear hcz36_1
   try clear hcz36_2
   try clear hcz36_3
   try clear hcz36_4
   try clear hcz36_5
   try clear hcz37_0
   try clear hcz37_1
   try clear hcz37_2
   try clear hcz37_3
   try clear hcz37_4
   try clear hcz37_5
   try clear hcz42_0
   try clear hcz42_1
   try clear hcz42_2
   try clear hcz42_3
   try clear hcz42_4
   try clear hcz42_5
   try clear hcz44_0
   try clear hcz44_1
   try clear hcz44_2
   try clear hcz44_3
   try clear hcz44_4
   try clear hcz44_5
   try clear hcz46_0
   try clear hcz46_1
   try clear hcz46_2
   try clear hcz46_3
   try clear hcz46_4
   try clear hcz46_5
   try clear hcz47_0
   try clear hcz47_1
   try clear hcz47_2
   try clear hcz47_3
   try clear hcz47_4
   try clear hcz47_5
   try clear hcz49_0
   try clear hcz49_1
   try clear hcz49_2
   try clear hcz49_3
   try clear hcz49_4
   try clear hcz49_5
   try clear hcz51_0
   try clear hcz51_1
   try clear hcz51_2
   try clear hcz51_3
   try clear hcz51_4
   try clear hcz51_5
   try clear hcz54_0
   try clear hcz54_1
   try clear hcz54_2
   try clear hcz54_3
   try clear hcz54_4
   try clear hcz54_5
   try clear hcz56_0
   try clear hcz56_1
   try clear hcz56_2
   try clear hcz56_3
   try clear hcz56_4
   try clear hcz56_5
   try clear hfz10_0
   try clear hfz10_1
   try clear hfz10_2
   try clear hfz10_3
   try clear hfz10_4
   try clear hfz10_5
   try clear hfz15_0
   try clear hfz15_1
   try clear hfz15_2
   try clear hfz15_3
   try clear hfz15_4
   try clear hfz15_5
   try clear hfz19_0
   try clear hfz19_1
   try clear hfz19_2
   try clear hfz19_3
   try clear hfz19_4
   try clear hfz19_5
   try clear hfz24_0
   try clear hfz24_1
   try clear hfz24_2
   try clear hfz24_3
   try clear hfz24_4
   try clear hfz24_5
   try clear hfz26_0
   try clear hfz26_1
   try clear hfz26_2
   try clear hfz26_3
   try clear hfz26_4
   try clear hfz26_5
   try clear hfz32_0
   try clear hfz32_1
   try clear hfz32_2
   try clear hfz32_3
   try clear hfz32_4
   try clear hfz32_5
   try clear hfz34_0
   try clear hfz34_1
   try clear hfz34_2
   try clear hfz34_3
   try clear hfz34_4
   try clear hfz34_5
   try clear hfz36_0
   try clear hfz36_1
   try clear hfz36_2
   try clear hfz36_3
   try clear hfz36_4
   try clear hfz36_5
   try clear hfz37_0
   try clear hfz37_1
   try clear hfz37_2
   try clear hfz37_3
   try clear hfz37_4
   try clear hfz37_5
   try clear hfz42_0
   try clear hfz42_1
   try clear hfz42_2
   try clear hfz42_3
   try clear hfz42_4
   try clear hfz42_5
   try clear hfz44_0
   try clear hfz44_1
   try clear hfz44_2
   try clear hfz44_3
   try clear hfz44_4
   try clear hfz44_5
   try clear hfz46_0
   try clear hfz46_1
   try clear hfz46_2
   try clear hfz46_3
   try clear hfz46_4
   try clear hfz46_5
   try clear hfz47_0
   try clear hfz47_1
   try clear hfz47_2
   try clear hfz47_3
   try clear hfz47_4
   try clear hfz47_5
   try clear hfz49_0
   try clear hfz49_1
   try clear hfz49_2
   try clear hfz49_3
   try clear hfz49_4
   try clear hfz49_5
   try clear hfz51_0
   try clear hfz51_1
   try clear hfz51_2
   try clear hfz51_3
   try clear hfz51_4
   try clear hfz51_5
   try clear hfz54_0
   try clear hfz54_1
   try clear hfz54_2
   try clear hfz54_3
   try clear hfz54_4
   try clear hfz54_5
   try clear hfz56_0
   try clear hfz56_1
   try clear hfz56_2
   try clear hfz56_3
   try clear hfz56_4
   try clear hfz56_5
   obtain ⟨kq, x57_6, rfl, HA, HJ6, BK387, BK397, HB⟩ := hcut
   cases kq with
   | zero => exact absurd HA.out (by simp [laws_FnDgrams.j0])
   | succ kj6 =>
    have H := HA.out
    clear HA
    simp only [laws_FnDgrams.j0] at H
    by_cases c58 : x57_6 = true
    ·subst c58
     J10_
     J4_
    ·replace c58 := Bool.eq_false_iff.mpr c58
     subst c58
     J5_
     J1_
     obtain ⟨t401, A590, H⟩ := H
     J3_
     have A59 := Aside0.mk A590
     clear A590
     J1_
     obtain ⟨⟨t402, t403, t404, t405, t406, t407, t408⟩, A600, H⟩ := H
     J3_
     have A60 := Aside0.mk A600
     clear A600
     J1_
     obtain ⟨⟨t410, t411, t412, t413, t414, t415, t416⟩, A610, H⟩ := H
     J3_
     have A61 := Aside0.mk A610
     clear A610
     J1_
     obtain ⟨⟨t418, t419⟩, A620, H⟩ := H
     J3_
     have A62 := Aside0.mk A620
     clear A620
     J1_
     obtain ⟨t420, A630, H⟩ := H
     J3_
     have A63 := Aside0.mk A630
     clear A630
     by_cases c64 : (t408 == t416) = true
     ·rw [if_pos c64] at H
      have c64b0 : (t408 == t416) = true := c64
      (try (have c64b1 : decide (t408 = t416) = true := by simpa using c64))
      (try (have c64b2 : (t408 == t416) = true := by simpa using c64))
      clear c64
      by_cases c65 : t408 = true
      ·subst c65
       J10_
       by_cases c66 : t418.toList = t401.toList
       ·rw [if_pos c66] at H
        have c66b0 : (t418.toList == t401.toList) = true := beq_iff_eq.mpr c66
        have c66b1 : (t418.toList != t401.toList) = false := bne_eq_false_iff_eq.mpr c66
        clear c66
        J1_
        obtain ⟨t421, A670, H⟩ := H
        J3_
        have A67 := Aside0.mk A670
        clear A670
        J1_
        obtain ⟨t422, A680, H⟩ := H
        J3_
        have A68 := Aside0.mk A680
        clear A680
        by_cases c69 : t421 = t422
        ·rw [if_pos c69] at H
         have c69b0 : (t421 == t422) = true := beq_iff_eq.mpr c69
         have c69b1 : (t421 != t422) = false := bne_eq_false_iff_eq.mpr c69
         clear c69
         J1_
         obtain ⟨t423, A700, H⟩ := H
         J3_
         have A70 := Aside0.mk A700
         clear A700
         J8_
         go_wp2_with (first | ((with_reducible refine gate_callee (f := 59) rfl ?_); refine goesL_ (some 59) rfl rfl Try.func59 (by kernel_rfl) rfl G44_ rfl G4_ ?_; G49_; G17_; G43_; rintro e w71 ⟨rfl, hb⟩; refine ⟨_, rfl, ?_⟩; have n0_ := Aside0.mk G8_; have n1_ := Aside0.mk G5_; have n2_ := Aside0.mk G20_; clear BK387; clear BK397; clear HB; have BK387 := n0_; have BK397 := n1_; have HB := n2_; clear n0_ n1_ n2_; (try clear hb); (try clear hb2); (try clear hk); (try clear hi)) | (G48_; refine goesL_ (some 62) rfl rfl Try.func55 (by kernel_rfl) rfl #[.string t401] rfl G4_ ?_; (with_reducible refine (impl_ReadDgram.calls kj6 t401 t402 t403 t404 t405 t406 t407 true _ A60.out).mono ?_); rintro e w72 ⟨rfl, hb⟩; refine ⟨_, rfl, ?_⟩; have n0_ := Aside0.mk G8_; have n1_ := Aside0.mk G5_; have n2_ := Aside0.mk G20_; clear BK387; clear BK397; clear HB; have BK387 := n0_; have BK397 := n1_; have HB := n2_; clear n0_ n1_ n2_; (try clear hb); (try clear hb2); (try clear hk); (try clear hi)) | ((with_reducible refine gate_dst (N := 9) rfl ?_); refine box_event ?hg (N := 9) ?hd (cs := G19_) (t := 85) ?hr ?_; (case hd => rfl); (case hg => rfl); G29_; intro gb409 hg w73 hbox hb; have n0_ := Aside0.mk G8_; have n1_ := Aside0.mk G5_; have n2_ := Aside0.mk G20_; have n3_ := Aside0.mk (hbox); have n4_ := Aside0.mk (G39_); have n5_ := Aside0.mk (G39_); have n6_ := Aside0.mk ((by rw [hg]; exact Nat.ne_of_lt G15_ : gb387 ≠ gb409)); have n7_ := Aside0.mk ((by rw [hg]; exact Nat.ne_of_gt G15_ : gb409 ≠ gb387)); have n8_ := Aside0.mk ((by rw [hg]; exact Nat.ne_of_lt G10_ : gb397 ≠ gb409)); have n9_ := Aside0.mk ((by rw [hg]; exact Nat.ne_of_gt G10_ : gb409 ≠ gb397)); clear BK387; clear BK397; clear HB; have BK387 := n0_; have BK397 := n1_; have HB := n2_; have BK409 := n3_; have GW409 := n4_; have GE409 := n5_; have NB387_409 := n6_; have NB409_387 := n7_; have NB397_409 := n8_; have NB409_397 := n9_; clear n0_ n1_ n2_ n3_ n4_ n5_ n6_ n7_ n8_ n9_; clear hb hbox hg; have hnb74 := NB409_387.out; have hnc74 := NB387_409.out; have hnb75 := NB409_397.out; have hnc75 := NB397_409.out; have hcz76_0 : w73.cell? ⟨gb409, 0, none⟩ = some (.int .i64 0) := (blk_cell BK409.out 0).trans rfl; have hcz76_1 : w73.cell? ⟨gb409, 1, none⟩ = some (.int .i64 0) := (blk_cell BK409.out 1).trans rfl; have hcz76_2 : w73.cell? ⟨gb409, 2, none⟩ = some (.int .i64 0) := (blk_cell BK409.out 2).trans rfl; have hcz76_3 : w73.cell? ⟨gb409, 3, none⟩ = some (.int .i64 0) := (blk_cell BK409.out 3).trans rfl; have hcz76_4 : w73.cell? ⟨gb409, 4, none⟩ = some (.bool false) := (blk_cell BK409.out 4).trans rfl; have hcz76_5 : w73.cell? ⟨gb409, 5, none⟩ = some (.string (⟨#[]⟩ : ByteArray)) := (blk_cell BK409.out 5).trans rfl; have hfz76_0 := blk_frozen BK409.out 0; have hfz76_1 := blk_frozen BK409.out 1; have hfz76_2 := blk_frozen BK409.out 2; have hfz76_3 := blk_frozen BK409.out 3; have hfz76_4 := blk_frozen BK409.out 4; have hfz76_5 := blk_frozen BK409.out 5) | ((with_reducible refine gate_callee (f := 60) rfl ?_); refine goesL_ (some 67) rfl rfl Try.func60 (by kernel_rfl) rfl #[.string t401] rfl G4_ ?_; G46_; rintro e w77 ⟨rfl, hb⟩; refine ⟨_, rfl, ?_⟩; have n0_ := Aside0.mk G26_; have n1_ := Aside0.mk G21_; have n2_ := Aside0.mk (blk_below (g := gb409) (o := .cells G9_ 85 (0, 0)) G13_ hb); have n3_ := Aside0.mk (below_step G6_ hb); clear BK387; clear BK397; clear BK409; clear HB; have BK387 := n0_; have BK397 := n1_; have BK409 := n2_; have HB := n3_; clear n0_ n1_ n2_ n3_; (try clear hb); (try clear hb2); (try clear hk); (try clear hi)) | ((with_reducible refine gate_dst (N := 11) rfl ?_); refine box_event ?hg (N := 11) ?hd (cs := G19_) (t := 85) ?hr ?_; (case hd => rfl); (case hg => rfl); G29_; intro gb417 hg w78 hbox hb; have n0_ := Aside0.mk G8_; have n1_ := Aside0.mk G5_; have n2_ := Aside0.mk G31_; have n3_ := Aside0.mk (below_step G6_ hb); have n4_ := Aside0.mk (hbox); have n5_ := Aside0.mk (G41_); have n6_ := Aside0.mk (G41_); have n7_ := Aside0.mk ((by rw [hg]; exact Nat.ne_of_lt G15_ : gb387 ≠ gb417)); have n8_ := Aside0.mk ((by rw [hg]; exact Nat.ne_of_gt G15_ : gb417 ≠ gb387)); have n9_ := Aside0.mk ((by rw [hg]; exact Nat.ne_of_lt G10_ : gb397 ≠ gb417)); have n10_ := Aside0.mk ((by rw [hg]; exact Nat.ne_of_gt G10_ : gb417 ≠ gb397)); have n11_ := Aside0.mk ((by rw [hg]; exact Nat.ne_of_lt G38_ : gb409 ≠ gb417)); have n12_ := Aside0.mk ((by rw [hg]; exact Nat.ne_of_gt G38_ : gb417 ≠ gb409)); clear BK387; clear BK397; clear BK409; clear HB; have BK387 := n0_; have BK397 := n1_; have BK409 := n2_; have HB := n3_; have BK417 := n4_; have GW417 := n5_; have GE417 := n6_; have NB387_417 := n7_; have NB417_387 := n8_; have NB397_417 := n9_; have NB417_397 := n10_; have NB409_417 := n11_; have NB417_409 := n12_; clear n0_ n1_ n2_ n3_ n4_ n5_ n6_ n7_ n8_ n9_ n10_ n11_ n12_; clear hb hbox hg; have hnb79 := NB417_387.out; have hnc79 := NB387_417.out; have hnb80 := NB417_397.out; have hnc80 := NB397_417.out; have hnb81 := NB417_409.out; have hnc81 := NB409_417.out; have hcz82_0 : w78.cell? ⟨gb417, 0, none⟩ = some (.int .i64 0) := (blk_cell BK417.out 0).trans rfl; have hcz82_1 : w78.cell? ⟨gb417, 1, none⟩ = some (.int .i64 0) := (blk_cell BK417.out 1).trans rfl; have hcz82_2 : w78.cell? ⟨gb417, 2, none⟩ = some (.int .i64 0) := (blk_cell BK417.out 2).trans rfl; have hcz82_3 : w78.cell? ⟨gb417, 3, none⟩ = some (.int .i64 0) := (blk_cell BK417.out 3).trans rfl; have hcz82_4 : w78.cell? ⟨gb417, 4, none⟩ = some (.bool false) := (blk_cell BK417.out 4).trans rfl; have hcz82_5 : w78.cell? ⟨gb417, 5, none⟩ = some (.string (⟨#[]⟩ : ByteArray)) := (blk_cell BK417.out 5).trans rfl; have hfz82_0 := blk_frozen BK417.out 0; have hfz82_1 := blk_frozen BK417.out 1; have hfz82_2 := blk_frozen BK417.out 2; have hfz82_3 := blk_frozen BK417.out 3; have hfz82_4 := blk_frozen BK417.out 4; have hfz82_5 := blk_frozen BK417.out 5; have hcz83_0 : w78.cell? ⟨gb409, 0, none⟩ = some (.int .i64 t402) := (blk_cell BK409.out 0).trans rfl; have hcz83_1 : w78.cell? ⟨gb409, 1, none⟩ = some (.int .i64 t403) := (blk_cell BK409.out 1).trans rfl; have hcz83_2 : w78.cell? ⟨gb409, 2, none⟩ = some (.int .i64 t404) := (blk_cell BK409.out 2).trans rfl; have hcz83_3 : w78.cell? ⟨gb409, 3, none⟩ = some (.int .i64 t405) := (blk_cell BK409.out 3).trans rfl; have hcz83_4 : w78.cell? ⟨gb409, 4, none⟩ = some (.bool t406) := (blk_cell BK409.out 4).trans rfl; have hcz83_5 : w78.cell? ⟨gb409, 5, none⟩ = some (.string t407) := (blk_cell BK409.out 5).trans rfl; have hfz83_0 := blk_frozen BK409.out 0; have hfz83_1 := blk_frozen BK409.out 1; have hfz83_2 := blk_frozen BK409.out 2; have hfz83_3 := blk_frozen BK409.out 3; have hfz83_4 := blk_frozen BK409.out 4; have hfz83_5 := blk_frozen BK409.out 5) | (G47_; refine goesL_ (some 72) rfl rfl Try.func54 (by kernel_rfl) rfl #[.agg G9_] rfl G4_ ?_; G45_; rintro e w84 ⟨rfl, hb⟩; refine ⟨_, rfl, ?_⟩; have n0_ := Aside0.mk G27_; have n1_ := Aside0.mk G22_; have n2_ := Aside0.mk G28_; have n3_ := Aside0.mk G11_; have n4_ := Aside0.mk G51_; clear BK387; clear BK397; clear BK409; clear BK417; clear HB; have BK387 := n0_; have BK397 := n1_; have BK409 := n2_; have BK417 := n3_; have HB := n4_; clear n0_ n1_ n2_ n3_ n4_; (try clear hb); (try clear hb2); (try clear hk); (try clear hi)) | ((with_reducible refine gate_callee (f := 61) rfl ?_); refine goesL_ (some 76) rfl rfl Try.func61 (by kernel_rfl) rfl G44_ rfl G4_ ?_; G50_; G17_; G43_; rintro e w85 ⟨rfl, hb⟩; refine ⟨_, rfl, ?_⟩; have n0_ := Aside0.mk G8_; have n1_ := Aside0.mk G5_; have n2_ := Aside0.mk G31_; have n3_ := Aside0.mk G42_; have n4_ := Aside0.mk G51_; clear BK387; clear BK397; clear BK409; clear BK417; clear HB; have BK387 := n0_; have BK397 := n1_; have BK409 := n2_; have BK417 := n3_; have HB := n4_; clear n0_ n1_ n2_ n3_ n4_; (try clear hb); (try clear hb2); (try clear hk); (try clear hi)) | (go_at_call 58; (with_reducible refine (impl_SumOnes.calls kj6 t420 t421 _ A67.out).mono ?_); rintro e w' ⟨rfl, ⟨nd, rfl⟩⟩) | (go_at_call 62; (with_reducible refine (spec_SumOnes.calls kj6 t420 t422 _ A68.out).mono ?_); rintro e w' ⟨rfl, ⟨nd, rfl⟩⟩) | (go_at_call 58; (with_reducible refine (impl_SumOnes.calls kj6 (⟨#[]⟩ : ByteArray) t423 _ A70.out).mono ?_); rintro e w' ⟨rfl, ⟨nd, rfl⟩⟩))
         J2_
        ·rw [if_neg c69] at H
         have c69b0 : (t421 == t422) = false := beq_eq_false_iff_ne.mpr c69
         have c69b1 : (t421 != t422) = true := bne_iff_ne.mpr c69
         J4_
       ·rw [if_neg c66] at H
        have c66b0 : (t418.toList == t401.toList) = false := beq_eq_false_iff_ne.mpr c66
        have c66b1 : (t418.toList != t401.toList) = true := bne_iff_ne.mpr c66
        J4_
      ·replace c65 := Bool.eq_false_iff.mpr c65
       subst c65
       J5_
       J1_
       obtain ⟨t424, A860, H⟩ := H
       J3_
       have A86 := Aside0.mk A860
       clear A860
       J1_
       obtain ⟨t425, A870, H⟩ := H
       J3_
       have A87 := Aside0.mk A870
       clear A870
       by_cases c88 : t424 = t425
       ·rw [if_pos c88] at H
        have c88b0 : (t424 == t425) = true := beq_iff_eq.mpr c88
        have c88b1 : (t424 != t425) = false := bne_eq_false_iff_eq.mpr c88
        clear c88
        J1_
        obtain ⟨t426, A890, H⟩ := H
        J3_
        have A89 := Aside0.mk A890
        clear A890
        J8_
        go_wp2_with (first | ((with_reducible refine gate_callee (f := 59) rfl ?_); refine goesL_ (some 59) rfl rfl Try.func59 (by kernel_rfl) rfl G44_ rfl G4_ ?_; G49_; G17_; G43_; rintro e w90 ⟨rfl, hb⟩; refine ⟨_, rfl, ?_⟩; have n0_ := Aside0.mk G8_; have n1_ := Aside0.mk G5_; have n2_ := Aside0.mk G20_; clear BK387; clear BK397; clear HB; have BK387 := n0_; have BK397 := n1_; have HB := n2_; clear n0_ n1_ n2_; (try clear hb); (try clear hb2); (try clear hk); (try clear hi)) | (G48_; refine goesL_ (some 62) rfl rfl Try.func55 (by kernel_rfl) rfl #[.string t401] rfl G4_ ?_; (with_reducible refine (impl_ReadDgram.calls kj6 t401 t402 t403 t404 t405 t406 t407 false _ A60.out).mono ?_); rintro e w91 ⟨rfl, hb⟩; refine ⟨_, rfl, ?_⟩; have n0_ := Aside0.mk G8_; have n1_ := Aside0.mk G5_; have n2_ := Aside0.mk G20_; clear BK387; clear BK397; clear HB; have BK387 := n0_; have BK397 := n1_; have HB := n2_; clear n0_ n1_ n2_; (try clear hb); (try clear hb2); (try clear hk); (try clear hi)) | ((with_reducible refine gate_dst (N := 9) rfl ?_); refine box_event ?hg (N := 9) ?hd (cs := G19_) (t := 85) ?hr ?_; (case hd => rfl); (case hg => rfl); G29_; intro gb409 hg w92 hbox hb; have n0_ := Aside0.mk G8_; have n1_ := Aside0.mk G5_; have n2_ := Aside0.mk G20_; have n3_ := Aside0.mk (hbox); have n4_ := Aside0.mk (G39_); have n5_ := Aside0.mk (G39_); have n6_ := Aside0.mk ((by rw [hg]; exact Nat.ne_of_lt G15_ : gb387 ≠ gb409)); have n7_ := Aside0.mk ((by rw [hg]; exact Nat.ne_of_gt G15_ : gb409 ≠ gb387)); have n8_ := Aside0.mk ((by rw [hg]; exact Nat.ne_of_lt G10_ : gb397 ≠ gb409)); have n9_ := Aside0.mk ((by rw [hg]; exact Nat.ne_of_gt G10_ : gb409 ≠ gb397)); clear BK387; clear BK397; clear HB; have BK387 := n0_; have BK397 := n1_; have HB := n2_; have BK409 := n3_; have GW409 := n4_; have GE409 := n5_; have NB387_409 := n6_; have NB409_387 := n7_; have NB397_409 := n8_; have NB409_397 := n9_; clear n0_ n1_ n2_ n3_ n4_ n5_ n6_ n7_ n8_ n9_; clear hb hbox hg; have hnb93 := NB409_387.out; have hnc93 := NB387_409.out; have hnb94 := NB409_397.out; have hnc94 := NB397_409.out; have hcz95_0 : w92.cell? ⟨gb409, 0, none⟩ = some (.int .i64 0) := (blk_cell BK409.out 0).trans rfl; have hcz95_1 : w92.cell? ⟨gb409, 1, none⟩ = some (.int .i64 0) := (blk_cell BK409.out 1).trans rfl; have hcz95_2 : w92.cell? ⟨gb409, 2, none⟩ = some (.int .i64 0) := (blk_cell BK409.out 2).trans rfl; have hcz95_3 : w92.cell? ⟨gb409, 3, none⟩ = some (.int .i64 0) := (blk_cell BK409.out 3).trans rfl; have hcz95_4 : w92.cell? ⟨gb409, 4, none⟩ = some (.bool false) := (blk_cell BK409.out 4).trans rfl; have hcz95_5 : w92.cell? ⟨gb409, 5, none⟩ = some (.string (⟨#[]⟩ : ByteArray)) := (blk_cell BK409.out 5).trans rfl; have hfz95_0 := blk_frozen BK409.out 0; have hfz95_1 := blk_frozen BK409.out 1; have hfz95_2 := blk_frozen BK409.out 2; have hfz95_3 := blk_frozen BK409.out 3; have hfz95_4 := blk_frozen BK409.out 4; have hfz95_5 := blk_frozen BK409.out 5) | ((with_reducible refine gate_callee (f := 60) rfl ?_); refine goesL_ (some 67) rfl rfl Try.func60 (by kernel_rfl) rfl #[.string t401] rfl G4_ ?_; G46_; rintro e w96 ⟨rfl, hb⟩; refine ⟨_, rfl, ?_⟩; have n0_ := Aside0.mk G26_; have n1_ := Aside0.mk G21_; have n2_ := Aside0.mk (blk_below (g := gb409) (o := .cells G9_ 85 (0, 0)) G13_ hb); have n3_ := Aside0.mk (below_step G6_ hb); clear BK387; clear BK397; clear BK409; clear HB; have BK387 := n0_; have BK397 := n1_; have BK409 := n2_; have HB := n3_; clear n0_ n1_ n2_ n3_; (try clear hb); (try clear hb2); (try clear hk); (try clear hi)) | ((with_reducible refine gate_dst (N := 11) rfl ?_); refine box_event ?hg (N := 11) ?hd (cs := G19_) (t := 85) ?hr ?_; (case hd => rfl); (case hg => rfl); G29_; intro gb417 hg w97 hbox hb; have n0_ := Aside0.mk G8_; have n1_ := Aside0.mk G5_; have n2_ := Aside0.mk G31_; have n3_ := Aside0.mk (below_step G6_ hb); have n4_ := Aside0.mk (hbox); have n5_ := Aside0.mk (G41_); have n6_ := Aside0.mk (G41_); have n7_ := Aside0.mk ((by rw [hg]; exact Nat.ne_of_lt G15_ : gb387 ≠ gb417)); have n8_ := Aside0.mk ((by rw [hg]; exact Nat.ne_of_gt G15_ : gb417 ≠ gb387)); have n9_ := Aside0.mk ((by rw [hg]; exact Nat.ne_of_lt G10_ : gb397 ≠ gb417)); have n10_ := Aside0.mk ((by rw [hg]; exact Nat.ne_of_gt G10_ : gb417 ≠ gb397)); have n11_ := Aside0.mk ((by rw [hg]; exact Nat.ne_of_lt G38_ : gb409 ≠ gb417)); have n12_ := Aside0.mk ((by rw [hg]; exact Nat.ne_of_gt G38_ : gb417 ≠ gb409)); clear BK387; clear BK397; clear BK409; clear HB; have BK387 := n0_; have BK397 := n1_; have BK409 := n2_; have HB := n3_; have BK417 := n4_; have GW417 := n5_; have GE417 := n6_; have NB387_417 := n7_; have NB417_387 := n8_; have NB397_417 := n9_; have NB417_397 := n10_; have NB409_417 := n11_; have NB417_409 := n12_; clear n0_ n1_ n2_ n3_ n4_ n5_ n6_ n7_ n8_ n9_ n10_ n11_ n12_; clear hb hbox hg; have hnb98 := NB417_387.out; have hnc98 := NB387_417.out; have hnb99 := NB417_397.out; have hnc99 := NB397_417.out; have hnb100 := NB417_409.out; have hnc100 := NB409_417.out; have hcz101_0 : w97.cell? ⟨gb417, 0, none⟩ = some (.int .i64 0) := (blk_cell BK417.out 0).trans rfl; have hcz101_1 : w97.cell? ⟨gb417, 1, none⟩ = some (.int .i64 0) := (blk_cell BK417.out 1).trans rfl; have hcz101_2 : w97.cell? ⟨gb417, 2, none⟩ = some (.int .i64 0) := (blk_cell BK417.out 2).trans rfl; have hcz101_3 : w97.cell? ⟨gb417, 3, none⟩ = some (.int .i64 0) := (blk_cell BK417.out 3).trans rfl; have hcz101_4 : w97.cell? ⟨gb417, 4, none⟩ = some (.bool false) := (blk_cell BK417.out 4).trans rfl; have hcz101_5 : w97.cell? ⟨gb417, 5, none⟩ = some (.string (⟨#[]⟩ : ByteArray)) := (blk_cell BK417.out 5).trans rfl; have hfz101_0 := blk_frozen BK417.out 0; have hfz101_1 := blk_frozen BK417.out 1; have hfz101_2 := blk_frozen BK417.out 2; have hfz101_3 := blk_frozen BK417.out 3; have hfz101_4 := blk_frozen BK417.out 4; have hfz101_5 := blk_frozen BK417.out 5; have hcz102_0 : w97.cell? ⟨gb409, 0, none⟩ = some (.int .i64 t402) := (blk_cell BK409.out 0).trans rfl; have hcz102_1 : w97.cell? ⟨gb409, 1, none⟩ = some (.int .i64 t403) := (blk_cell BK409.out 1).trans rfl; have hcz102_2 : w97.cell? ⟨gb409, 2, none⟩ = some (.int .i64 t404) := (blk_cell BK409.out 2).trans rfl; have hcz102_3 : w97.cell? ⟨gb409, 3, none⟩ = some (.int .i64 t405) := (blk_cell BK409.out 3).trans rfl; have hcz102_4 : w97.cell? ⟨gb409, 4, none⟩ = some (.bool t406) := (blk_cell BK409.out 4).trans rfl; have hcz102_5 : w97.cell? ⟨gb409, 5, none⟩ = some (.string t407) := (blk_cell BK409.out 5).trans rfl; have hfz102_0 := blk_frozen BK409.out 0; have hfz102_1 := blk_frozen BK409.out 1; have hfz102_2 := blk_frozen BK409.out 2; have hfz102_3 := blk_frozen BK409.out 3; have hfz102_4 := blk_frozen BK409.out 4; have hfz102_5 := blk_frozen BK409.out 5) | (G47_; refine goesL_ (some 72) rfl rfl Try.func54 (by kernel_rfl) rfl #[.agg G9_] rfl G4_ ?_; G45_; rintro e w103 ⟨rfl, hb⟩; refine ⟨_, rfl, ?_⟩; have n0_ := Aside0.mk G27_; have n1_ := Aside0.mk G22_; have n2_ := Aside0.mk G28_; have n3_ := Aside0.mk G11_; have n4_ := Aside0.mk G51_; clear BK387; clear BK397; clear BK409; clear BK417; clear HB; have BK387 := n0_; have BK397 := n1_; have BK409 := n2_; have BK417 := n3_; have HB := n4_; clear n0_ n1_ n2_ n3_ n4_; (try clear hb); (try clear hb2); (try clear hk); (try clear hi)) | ((with_reducible refine gate_callee (f := 61) rfl ?_); refine goesL_ (some 76) rfl rfl Try.func61 (by kernel_rfl) rfl G44_ rfl G4_ ?_; G50_; G17_; G43_; rintro e w104 ⟨rfl, hb⟩; refine ⟨_, rfl, ?_⟩; have n0_ := Aside0.mk G8_; have n1_ := Aside0.mk G5_; have n2_ := Aside0.mk G31_; have n3_ := Aside0.mk G42_; have n4_ := Aside0.mk G51_; clear BK387; clear BK397; clear BK409; clear BK417; clear HB; have BK387 := n0_; have BK397 := n1_; have BK409 := n2_; have BK417 := n3_; have HB := n4_; clear n0_ n1_ n2_ n3_ n4_; (try clear hb); (try clear hb2); (try clear hk); (try clear hi)) | (go_at_call 58; (with_reducible refine (impl_SumOnes.calls kj6 t420 t424 _ A86.out).mono ?_); rintro e w' ⟨rfl, ⟨nd, rfl⟩⟩) | (go_at_call 62; (with_reducible refine (spec_SumOnes.calls kj6 t420 t425 _ A87.out).mono ?_); rintro e w' ⟨rfl, ⟨nd, rfl⟩⟩) | (go_at_call 58; (with_reducible refine (impl_SumOnes.calls kj6 (⟨#[]⟩ : ByteArray) t426 _ A89.out).mono ?_); rintro e w' ⟨rfl, ⟨nd, rfl⟩⟩))
        J2_
       ·rw [if_neg c88] at H
        have c88b0 : (t424 == t425) = false := beq_eq_false_iff_ne.mpr c88
        have c88b1 : (t424 != t425) = true := bne_iff_ne.mpr c88
        J4_
     ·rw [if_neg c64] at H
      have c64b0 : (t408 == t416) = false := by simpa using c64
      (try (have c64b1 : decide (t408 = t416) = false := by simpa using c64))
      (try (have c64b2 : (t408 == t416) = false := by simpa using c64))
      (try (have c64b3 : ¬ (t408 = t416) := by simpa using c64))
      clear c64
      J4_

/-- THE ONE PURE STATEMENT of laws_FnDgrams: yours. -/
def laws_FnDgrams.Pure : Prop := ∀ (l0 : List Int), l0.length ≤ maxLen → l0.length * 1 ≤ 140737488351232 → (∀ x ∈ l0, (Lit.int .u8 x).wf = true) → ∃ k, laws_FnDgrams.f k l0 = some true
theorem laws_FnDgrams.walk (P : laws_FnDgrams.Pure) (a0 : Option Addr) (len0 cap0 : Nat) (z0 : List Int) (w : World) (w0 : (a0 = none ∧ len0 = 0 ∧ cap0 = 0 ∧ z0 = []) ∨ ∃ x, a0 = some x ∧ len0 ≤ cap0 ∧ cap0 ≤ maxLen ∧ z0.length = cap0 ∧ (∀ i, i < z0.length → w.cell? (x.add i) = some (.int .u8 (z0.getD i 0))) ∧ ∀ n ∈ z0, (Lit.int .u8 n).wf = true) (y0 : len0 * 1 ≤ 140737488351232) :
  Calls Try.prog 10 #[.slice a0 len0 cap0] w fun e w' => e = .returned (.bool true) ∧ Below w.heap.size w w' := by
 obtain ⟨l0, rfl, hr0, hm0, hw0, hc0⟩ := ReadsInt.ofRowC w0
 obtain ⟨k, h⟩ := P l0 hm0 y0 hw0
 refine (laws_FnDgrams.calls k _ _ l0 true w (Kd.C_of_reads (d := (0 : Int)) (h1 := fun _ => rfl) hr0) hc0 h ⟨rfl⟩).mono ?_
 rintro e w' ⟨rfl, hd⟩
 exact ⟨rfl, hd⟩

end Go.Proofs.Ytjijbffecppeiaa.QFnDgrams
