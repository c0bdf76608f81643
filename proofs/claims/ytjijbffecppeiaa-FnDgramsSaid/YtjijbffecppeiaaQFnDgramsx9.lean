/- Functions that a law reaches, as functions of Lean, and the walks that show that the calls come to their answers: written by a program of this project out of the translation. No condition. -/
import Derived.Test.YtjijbffecppeiaaQFnDgramsx0
import Derived.Test.YtjijbffecppeiaaQFnDgramsx1
import Derived.Test.YtjijbffecppeiaaQFnDgramsx2
import Derived.Test.YtjijbffecppeiaaQFnDgramsx3
import Derived.Test.YtjijbffecppeiaaQFnDgramsx4
import Derived.Test.YtjijbffecppeiaaQFnDgramsx5
import Derived.Test.YtjijbffecppeiaaQFnDgramsx7
import Derived.Test.YtjijbffecppeiaaQFnDgramsx8
import Derived.Test.YtjijbffecppeiaaVFnDgramsShort3
import Derived.Test.YtjijbffecppeiaaVFnDgramsShort2
import Derived.Test.YtjijbffecppeiaaVFnDgramsShort
namespace Go.Proofs.Ytjijbffecppeiaa.QFnDgrams
open Go.RowKit Go.Proofs.YtjijbffecppeiaaW.PrintWords Go.Proofs.YtjijbffecppeiaaW.PrintLast Go.Proofs.YtjijbffecppeiaaW.PrintMore Go.Proofs.Ytjijbffecppeiaa.Short
attribute [local go_sem] max2_int min2_int max_two min_two max_three min_three max_four min_four   -- for this text's walks alone
set_option linter.unusedVariables false
set_option linter.unusedSimpArgs false

attribute [local go_sem high] eqA85
theorem B9x0_ {p : Prop} (h : p := by (with_reducible repeat (first | refine blk_drewN ?_ _ | refine blk_drew ?_ | refine blk_alloc ?_ _)); refine blk_put (cs := #[.int .i64 t390, .int .i64 t391, .int .i64 t392, .int .i64 t393, .bool t394, .string (⟨#[]⟩ : ByteArray)]) ?_ 5 _ rfl; (with_reducible repeat (first | refine blk_drewN ?_ _ | refine blk_drew ?_ | refine blk_alloc ?_ _)); refine blk_put (cs := #[.int .i64 t390, .int .i64 t391, .int .i64 t392, .int .i64 t393, .bool false, .string (⟨#[]⟩ : ByteArray)]) ?_ 4 _ rfl; (with_reducible repeat (first | refine blk_drewN ?_ _ | refine blk_drew ?_ | refine blk_alloc ?_ _)); refine blk_put (cs := #[.int .i64 t390, .int .i64 t391, .int .i64 t392, .int .i64 0, .bool false, .string (⟨#[]⟩ : ByteArray)]) ?_ 3 _ rfl; (with_reducible repeat (first | refine blk_drewN ?_ _ | refine blk_drew ?_ | refine blk_alloc ?_ _)); refine blk_put (cs := #[.int .i64 t390, .int .i64 t391, .int .i64 0, .int .i64 0, .bool false, .string (⟨#[]⟩ : ByteArray)]) ?_ 2 _ rfl; (with_reducible repeat (first | refine blk_drewN ?_ _ | refine blk_drew ?_ | refine blk_alloc ?_ _)); refine blk_put (cs := #[.int .i64 t390, .int .i64 0, .int .i64 0, .int .i64 0, .bool false, .string (⟨#[]⟩ : ByteArray)]) ?_ 1 _ rfl; (with_reducible repeat (first | refine blk_drewN ?_ _ | refine blk_drew ?_ | refine blk_alloc ?_ _)); refine blk_put (cs := #[.int .i64 0, .int .i64 0, .int .i64 0, .int .i64 0, .bool false, .string (⟨#[]⟩ : ByteArray)]) ?_ 0 _ rfl; (with_reducible repeat (first | refine blk_drewN ?_ _ | refine blk_drew ?_ | refine blk_alloc ?_ _)); exact BK397.out) : p := h
theorem B9x1_ {p : Prop} (h : p := by (with_reducible repeat (first | refine blk_drewN ?_ _ | refine blk_drew ?_ | refine blk_alloc ?_ _)); refine blk_far ?_ NB387_397.out _; (with_reducible repeat (first | refine blk_drewN ?_ _ | refine blk_drew ?_ | refine blk_alloc ?_ _)); refine blk_far ?_ NB387_397.out _; (with_reducible repeat (first | refine blk_drewN ?_ _ | refine blk_drew ?_ | refine blk_alloc ?_ _)); refine blk_far ?_ NB387_397.out _; (with_reducible repeat (first | refine blk_drewN ?_ _ | refine blk_drew ?_ | refine blk_alloc ?_ _)); refine blk_far ?_ NB387_397.out _; (with_reducible repeat (first | refine blk_drewN ?_ _ | refine blk_drew ?_ | refine blk_alloc ?_ _)); refine blk_far ?_ NB387_397.out _; (with_reducible repeat (first | refine blk_drewN ?_ _ | refine blk_drew ?_ | refine blk_alloc ?_ _)); refine blk_far ?_ NB387_397.out _; (with_reducible repeat (first | refine blk_drewN ?_ _ | refine blk_drew ?_ | refine blk_alloc ?_ _)); exact BK387.out) : p := h
theorem B9x2_ {p : Prop} (h : p := by repeat (first | (with_reducible first | exact HB.out | apply below_alloc | apply pw_below_drewN | apply below_drew1 | refine below_set ?_ GE387.out | refine below_set ?_ GE397.out) | exact HB.out)) : p := h
theorem B9x3_ {p : Prop} (h : p := by (try simp only [List.map_toArray, List.map_cons, List.map_nil]); first | done | rfl | (simp only [List.length_drop, List.length_take]; rfl)) : p := h
theorem B9x4_ {p : Prop} (h : p := by (with_reducible repeat (first | refine blk_drewN ?_ _ | refine blk_drew ?_ | refine blk_alloc ?_ _)); exact BK387.out) : p := h
theorem B9x5_ {p : Prop} (h : p := by (with_reducible repeat (first | refine blk_drewN ?_ _ | refine blk_drew ?_ | refine blk_alloc ?_ _)); exact BK397.out) : p := h
theorem B9x6_ {p : Prop} (h : p := by repeat (first | (with_reducible first | exact HB.out | apply below_alloc | apply pw_below_drewN | apply below_drew1 | refine below_set ?_ GE387.out | refine below_set ?_ GE397.out | refine below_set ?_ GE409.out) | exact HB.out)) : p := h
theorem B9x7_ {p : Prop} (h : p := by (with_reducible repeat (first | refine blk_drewN ?_ _ | refine blk_drew ?_ | refine blk_alloc ?_ _)); refine blk_put (cs := #[.int .i64 t402, .int .i64 t403, .int .i64 t404, .int .i64 t405, .bool t406, .string (⟨#[]⟩ : ByteArray)]) ?_ 5 _ rfl; (with_reducible repeat (first | refine blk_drewN ?_ _ | refine blk_drew ?_ | refine blk_alloc ?_ _)); refine blk_put (cs := #[.int .i64 t402, .int .i64 t403, .int .i64 t404, .int .i64 t405, .bool false, .string (⟨#[]⟩ : ByteArray)]) ?_ 4 _ rfl; (with_reducible repeat (first | refine blk_drewN ?_ _ | refine blk_drew ?_ | refine blk_alloc ?_ _)); refine blk_put (cs := #[.int .i64 t402, .int .i64 t403, .int .i64 t404, .int .i64 0, .bool false, .string (⟨#[]⟩ : ByteArray)]) ?_ 3 _ rfl; (with_reducible repeat (first | refine blk_drewN ?_ _ | refine blk_drew ?_ | refine blk_alloc ?_ _)); refine blk_put (cs := #[.int .i64 t402, .int .i64 t403, .int .i64 0, .int .i64 0, .bool false, .string (⟨#[]⟩ : ByteArray)]) ?_ 2 _ rfl; (with_reducible repeat (first | refine blk_drewN ?_ _ | refine blk_drew ?_ | refine blk_alloc ?_ _)); refine blk_put (cs := #[.int .i64 t402, .int .i64 0, .int .i64 0, .int .i64 0, .bool false, .string (⟨#[]⟩ : ByteArray)]) ?_ 1 _ rfl; (with_reducible repeat (first | refine blk_drewN ?_ _ | refine blk_drew ?_ | refine blk_alloc ?_ _)); refine blk_put (cs := #[.int .i64 0, .int .i64 0, .int .i64 0, .int .i64 0, .bool false, .string (⟨#[]⟩ : ByteArray)]) ?_ 0 _ rfl; (with_reducible repeat (first | refine blk_drewN ?_ _ | refine blk_drew ?_ | refine blk_alloc ?_ _)); exact BK409.out) : p := h
theorem B9x8_ {p : Prop} (h : p := by (with_reducible repeat (first | refine blk_drewN ?_ _ | refine blk_drew ?_ | refine blk_alloc ?_ _)); refine blk_put (cs := #[.int .i64 t410, .int .i64 t411, .int .i64 t412, .int .i64 t413, .bool t414, .string (⟨#[]⟩ : ByteArray)]) ?_ 5 _ rfl; (with_reducible repeat (first | refine blk_drewN ?_ _ | refine blk_drew ?_ | refine blk_alloc ?_ _)); refine blk_put (cs := #[.int .i64 t410, .int .i64 t411, .int .i64 t412, .int .i64 t413, .bool false, .string (⟨#[]⟩ : ByteArray)]) ?_ 4 _ rfl; (with_reducible repeat (first | refine blk_drewN ?_ _ | refine blk_drew ?_ | refine blk_alloc ?_ _)); refine blk_put (cs := #[.int .i64 t410, .int .i64 t411, .int .i64 t412, .int .i64 0, .bool false, .string (⟨#[]⟩ : ByteArray)]) ?_ 3 _ rfl; (with_reducible repeat (first | refine blk_drewN ?_ _ | refine blk_drew ?_ | refine blk_alloc ?_ _)); refine blk_put (cs := #[.int .i64 t410, .int .i64 t411, .int .i64 0, .int .i64 0, .bool false, .string (⟨#[]⟩ : ByteArray)]) ?_ 2 _ rfl; (with_reducible repeat (first | refine blk_drewN ?_ _ | refine blk_drew ?_ | refine blk_alloc ?_ _)); refine blk_put (cs := #[.int .i64 t410, .int .i64 0, .int .i64 0, .int .i64 0, .bool false, .string (⟨#[]⟩ : ByteArray)]) ?_ 1 _ rfl; (with_reducible repeat (first | refine blk_drewN ?_ _ | refine blk_drew ?_ | refine blk_alloc ?_ _)); refine blk_put (cs := #[.int .i64 0, .int .i64 0, .int .i64 0, .int .i64 0, .bool false, .string (⟨#[]⟩ : ByteArray)]) ?_ 0 _ rfl; (with_reducible repeat (first | refine blk_drewN ?_ _ | refine blk_drew ?_ | refine blk_alloc ?_ _)); exact BK417.out) : p := h
theorem B9x9_ {p : Prop} (h : p := by (with_reducible repeat (first | refine blk_drewN ?_ _ | refine blk_drew ?_ | refine blk_alloc ?_ _)); refine blk_far ?_ NB387_409.out _; (with_reducible repeat (first | refine blk_drewN ?_ _ | refine blk_drew ?_ | refine blk_alloc ?_ _)); refine blk_far ?_ NB387_409.out _; (with_reducible repeat (first | refine blk_drewN ?_ _ | refine blk_drew ?_ | refine blk_alloc ?_ _)); refine blk_far ?_ NB387_409.out _; (with_reducible repeat (first | refine blk_drewN ?_ _ | refine blk_drew ?_ | refine blk_alloc ?_ _)); refine blk_far ?_ NB387_409.out _; (with_reducible repeat (first | refine blk_drewN ?_ _ | refine blk_drew ?_ | refine blk_alloc ?_ _)); refine blk_far ?_ NB387_409.out _; (with_reducible repeat (first | refine blk_drewN ?_ _ | refine blk_drew ?_ | refine blk_alloc ?_ _)); refine blk_far ?_ NB387_409.out _; (with_reducible repeat (first | refine blk_drewN ?_ _ | refine blk_drew ?_ | refine blk_alloc ?_ _)); exact BK387.out) : p := h
theorem B9x10_ {p : Prop} (h : p := by (with_reducible repeat (first | refine blk_drewN ?_ _ | refine blk_drew ?_ | refine blk_alloc ?_ _)); refine blk_far ?_ NB387_417.out _; (with_reducible repeat (first | refine blk_drewN ?_ _ | refine blk_drew ?_ | refine blk_alloc ?_ _)); refine blk_far ?_ NB387_417.out _; (with_reducible repeat (first | refine blk_drewN ?_ _ | refine blk_drew ?_ | refine blk_alloc ?_ _)); refine blk_far ?_ NB387_417.out _; (with_reducible repeat (first | refine blk_drewN ?_ _ | refine blk_drew ?_ | refine blk_alloc ?_ _)); refine blk_far ?_ NB387_417.out _; (with_reducible repeat (first | refine blk_drewN ?_ _ | refine blk_drew ?_ | refine blk_alloc ?_ _)); refine blk_far ?_ NB387_417.out _; (with_reducible repeat (first | refine blk_drewN ?_ _ | refine blk_drew ?_ | refine blk_alloc ?_ _)); refine blk_far ?_ NB387_417.out _; (with_reducible repeat (first | refine blk_drewN ?_ _ | refine blk_drew ?_ | refine blk_alloc ?_ _)); exact BK387.out) : p := h
theorem B9x11_ {p : Prop} (h : p := by (with_reducible repeat (first | refine blk_drewN ?_ _ | refine blk_drew ?_ | refine blk_alloc ?_ _)); refine blk_far ?_ NB397_409.out _; (with_reducible repeat (first | refine blk_drewN ?_ _ | refine blk_drew ?_ | refine blk_alloc ?_ _)); refine blk_far ?_ NB397_409.out _; (with_reducible repeat (first | refine blk_drewN ?_ _ | refine blk_drew ?_ | refine blk_alloc ?_ _)); refine blk_far ?_ NB397_409.out _; (with_reducible repeat (first | refine blk_drewN ?_ _ | refine blk_drew ?_ | refine blk_alloc ?_ _)); refine blk_far ?_ NB397_409.out _; (with_reducible repeat (first | refine blk_drewN ?_ _ | refine blk_drew ?_ | refine blk_alloc ?_ _)); refine blk_far ?_ NB397_409.out _; (with_reducible repeat (first | refine blk_drewN ?_ _ | refine blk_drew ?_ | refine blk_alloc ?_ _)); refine blk_far ?_ NB397_409.out _; (with_reducible repeat (first | refine blk_drewN ?_ _ | refine blk_drew ?_ | refine blk_alloc ?_ _)); exact BK397.out) : p := h
theorem B9x12_ {p : Prop} (h : p := by (with_reducible repeat (first | refine blk_drewN ?_ _ | refine blk_drew ?_ | refine blk_alloc ?_ _)); refine blk_far ?_ NB397_417.out _; (with_reducible repeat (first | refine blk_drewN ?_ _ | refine blk_drew ?_ | refine blk_alloc ?_ _)); refine blk_far ?_ NB397_417.out _; (with_reducible repeat (first | refine blk_drewN ?_ _ | refine blk_drew ?_ | refine blk_alloc ?_ _)); refine blk_far ?_ NB397_417.out _; (with_reducible repeat (first | refine blk_drewN ?_ _ | refine blk_drew ?_ | refine blk_alloc ?_ _)); refine blk_far ?_ NB397_417.out _; (with_reducible repeat (first | refine blk_drewN ?_ _ | refine blk_drew ?_ | refine blk_alloc ?_ _)); refine blk_far ?_ NB397_417.out _; (with_reducible repeat (first | refine blk_drewN ?_ _ | refine blk_drew ?_ | refine blk_alloc ?_ _)); refine blk_far ?_ NB397_417.out _; (with_reducible repeat (first | refine blk_drewN ?_ _ | refine blk_drew ?_ | refine blk_alloc ?_ _)); exact BK397.out) : p := h
theorem B9x13_ {p : Prop} (h : p := by (with_reducible repeat (first | refine blk_drewN ?_ _ | refine blk_drew ?_ | refine blk_alloc ?_ _)); refine blk_far ?_ NB409_417.out _; (with_reducible repeat (first | refine blk_drewN ?_ _ | refine blk_drew ?_ | refine blk_alloc ?_ _)); refine blk_far ?_ NB409_417.out _; (with_reducible repeat (first | refine blk_drewN ?_ _ | refine blk_drew ?_ | refine blk_alloc ?_ _)); refine blk_far ?_ NB409_417.out _; (with_reducible repeat (first | refine blk_drewN ?_ _ | refine blk_drew ?_ | refine blk_alloc ?_ _)); refine blk_far ?_ NB409_417.out _; (with_reducible repeat (first | refine blk_drewN ?_ _ | refine blk_drew ?_ | refine blk_alloc ?_ _)); refine blk_far ?_ NB409_417.out _; (with_reducible repeat (first | refine blk_drewN ?_ _ | refine blk_drew ?_ | refine blk_alloc ?_ _)); refine blk_far ?_ NB409_417.out _; (with_reducible repeat (first | refine blk_drewN ?_ _ | refine blk_drew ?_ | refine blk_alloc ?_ _)); exact BK409.out) : p := h
theorem B9x14_ {p : Prop} (h : p := by (with_reducible repeat (first | refine blk_drewN ?_ _ | refine blk_drew ?_ | refine blk_alloc ?_ _)); exact BK409.out) : p := h
theorem B9x15_ {p : Prop} (h : p := by repeat (first | (with_reducible first | exact HB.out | apply below_alloc | apply pw_below_drewN | apply below_drew1 | refine below_set ?_ GE387.out | refine below_set ?_ GE397.out | refine below_set ?_ GE409.out | refine below_set ?_ GE417.out) | exact HB.out)) : p := h
theorem B9x16_ {p : Prop} (h : p := by repeat (first | (with_reducible first | exact HB.out | apply below_alloc | apply pw_below_drewN | apply below_drew1 | refine below_set ?_ GE387.out) | exact HB.out)) : p := h
theorem B9x17_ {p : Prop} (h : p := by repeat (first | (with_reducible first | exact HB.out | apply below_alloc | apply pw_below_drewN | apply below_drew1) | exact HB.out)) : p := h
theorem B9x18_ {p : Prop} (h : p := by kernel_rfl) : p := h
theorem B9x19_ {p : Prop} (h : p := by (with_reducible repeat (first | refine blk_drewN ?_ _ | refine blk_drew ?_ | refine blk_alloc ?_ _)); exact BK417.out) : p := h
/-! ### spec_DrawSumOnes: function 61 -/
def spec_DrawSumOnes.f (k : Nat) (l0 : List Int) : Option (ByteArray) := (spec_l01New.f k l0).bind fun bt370 => ((spec_l01Below.f bt370.1 bt370.2.1 bt370.2.2 12).bind fun bt374 => ((spec_l01Text.f k bt370.1 bt374.2.1 bt374.2.2 bt374.1).bind fun bt377 => (some bt377.1)))
theorem spec_DrawSumOnes.mono : ∀ a0 k, LeO (spec_DrawSumOnes.f k a0) (spec_DrawSumOnes.f (k + 1) a0) := by
 intro a0 k
 unfold spec_DrawSumOnes.f
 repeat' first
   | (with_reducible exact spec_l01New.mono _ _)
   | (with_reducible exact spec_l01Text.mono _ _ _ _ _)
   | (with_reducible exact LeO.refl _)
   | (with_reducible exact LeO.none _)
   | (with_reducible refine LeO.ite ?_ ?_)
   | (with_reducible refine LeO.bind ?_ (fun _ => ?_))
   | exact spec_l01New.mono _ _
   | exact spec_l01Text.mono _ _ _ _ _
   | exact LeO.none _
   | refine LeO.ite ?_ ?_
   | refine LeO.bind ?_ (fun _ => ?_)
set_option maxHeartbeats 8000000 in
set_option maxRecDepth 100000 in
theorem spec_DrawSumOnes.calls (k : Nat) (A0 : Option Addr) (c0 : Nat) (l0 : List Int) (r : ByteArray) (w : World) (hr0 : Kd.C (Kd.int .u8) w A0 l0.length l0) (hc0 : l0.length ≤ c0) (h : spec_DrawSumOnes.f k l0 = some r) :
  Calls Try.prog 61 #[.slice A0 l0.length c0] w fun e w' => e = .returned (.string r) ∧ Below w.heap.size w w' := by
 have HR0 := Aside0.mk hr0
 have HC0 := Aside0.mk hc0
 clear hr0 hc0
 have HB := Aside0.mk (Below.refl w.heap.size w)
 have H : ((spec_l01New.f k l0).bind fun bt370 => ((spec_l01Below.f bt370.1 bt370.2.1 bt370.2.2 12).bind fun bt374 => ((spec_l01Text.f k bt370.1 bt374.2.1 bt374.2.2 bt374.1).bind fun bt377 => (some bt377.1)))) = some r := h
 clear h
 replace H := Option.bind_eq_some_iff.mp H
 obtain ⟨⟨t370, t371, t372⟩, A20, H⟩ := H
 (try dsimp only at H)
 have A2 := Aside0.mk A20
 clear A20
 replace H := Option.bind_eq_some_iff.mp H
 obtain ⟨⟨t374, t375, t376⟩, A30, H⟩ := H
 (try dsimp only at H)
 have A3 := Aside0.mk A30
 clear A30
 replace H := Option.bind_eq_some_iff.mp H
 obtain ⟨⟨t377, t378, t379⟩, A40, H⟩ := H
 (try dsimp only at H)
 have A4 := Aside0.mk A40
 clear A40
 obtain rfl := Option.some.inj H
 go_enter Try.func61, Try.ntmps61
 go_wp2_with (first | ((with_reducible refine gate_callee (f := 96) rfl ?_); refine goesL_ (some 5) rfl rfl Try.func96 B9x18_ rfl #[.slice A0 l0.length c0] rfl B9x3_ ?_; (with_reducible refine (spec_l01New.calls k _ _ l0 t370 t371 t372 w _ ?side1 ?side2 ?side3 A2.out).mono ?_); (case side1 => repeat (first | (with_reducible first | exact HB.out | apply below_alloc | apply pw_below_drewN | apply below_drew1) | exact HB.out)); (case side2 => exact HR0.out); (case side3 => exact HC0.out); rintro e w5 ⟨g373, rfl, hi, hb, hb2⟩; refine ⟨_, rfl, ?_⟩; have n0_ := Aside0.mk (hb); have n1_ := Aside0.mk (hi); clear HB; have HB := n0_; have HI373 := n1_; clear n0_ n1_; (try clear hb); (try clear hb2); (try clear hk); (try clear hi)) | ((with_reducible refine gate_callee (f := 118) rfl ?_); refine goesL_ (some 8) rfl rfl Try.func118 B9x18_ rfl #[.pointer (some ⟨g373, 0, none⟩), .int .i64 12] rfl B9x3_ ?_; (with_reducible refine (spec_l01Below.calls g373 t370 t371 t372 12 t374 t375 t376 w _ ?side1 ?side2 A3.out).mono ?_); (case side1 => repeat (first | (with_reducible first | exact HI373.out | apply IsS182.alloc | apply IsS182.drewN | apply IsS182.drew | apply IsS182.set_1 | apply IsS182.set_2) | exact HI373.out)); (case side2 => repeat (first | (with_reducible first | exact HB.out | apply below_alloc | apply pw_below_drewN | apply below_drew1 | refine below_set ?_ (IsS182.ge HI373.out)) | exact HB.out)); rintro e w6 ⟨rfl, hi, hb, hk⟩; refine ⟨_, rfl, ?_⟩; have n0_ := Aside0.mk (hb); have n1_ := Aside0.mk (hi); clear HB; clear HI373; have HB := n0_; have HI373 := n1_; clear n0_ n1_; (try clear hb); (try clear hb2); (try clear hk); (try clear hi)) | ((with_reducible refine gate_callee (f := 132) rfl ?_); refine goesL_ (some 9) rfl rfl Try.func132 B9x18_ rfl #[.pointer (some ⟨g373, 0, none⟩), .int .i64 t374] rfl B9x3_ ?_; (with_reducible refine (spec_l01Text.calls k g373 t370 t375 t376 t374 t377 t378 t379 w _ ?side1 ?side2 A4.out).mono ?_); (case side1 => repeat (first | (with_reducible first | exact HI373.out | apply IsS182.alloc | apply IsS182.drewN | apply IsS182.drew | apply IsS182.set_1 | apply IsS182.set_2) | exact HI373.out)); (case side2 => repeat (first | (with_reducible first | exact HB.out | apply below_alloc | apply pw_below_drewN | apply below_drew1 | refine below_set ?_ (IsS182.ge HI373.out)) | exact HB.out)); rintro e w7 ⟨rfl, hi, hb, hk⟩; refine ⟨_, rfl, ?_⟩; have n0_ := Aside0.mk (hb); have n1_ := Aside0.mk (hi); clear HB; clear HI373; have HB := n0_; have HI373 := n1_; clear n0_ n1_; (try clear hb); (try clear hb2); (try clear hk); (try clear hi)))
 go_ret
 exact ⟨by first | rfl | (simp [errW_none, errW_some] <;> rfl) | (simp [*, errW_none, errW_some] <;> rfl), by repeat (first | (with_reducible first | exact HB.out | apply below_alloc | apply pw_below_drewN | apply below_drew1 | refine below_set ?_ (IsS182.ge HI373.out)) | exact HB.out)⟩

/-! ### laws_FnDgrams: function 10 -/
def laws_FnDgrams.j0 : Nat → List Int → Bool → Option (Bool)
 | 0, _, _ => none
 | k + 1, x0, x57 => if x57 = true then (some false) else ((spec_DrawReadDgram.f k x0).bind fun t401 => ((impl_ReadDgram.f k t401).bind fun bt402 => ((spec_ReadDgram.f k t401).bind fun bt410 => ((impl_DgramText.f k bt402.1 bt402.2.1 bt402.2.2.1 bt402.2.2.2.1 bt402.2.2.2.2.1 bt402.2.2.2.2.2.1).bind fun bt418 => ((spec_DrawSumOnes.f k x0).bind fun t420 => (if (bt402.2.2.2.2.2.2 == bt410.2.2.2.2.2.2) = true then (if bt402.2.2.2.2.2.2 = true then (if bt418.1.toList = t401.toList then ((impl_SumOnes.f k t420).bind fun t421 => ((spec_SumOnes.f k t420).bind fun t422 => (if t421 = t422 then ((impl_SumOnes.f k (⟨#[]⟩ : ByteArray)).bind fun t423 => (some (t423 == 65535))) else (some false)))) else (some false)) else ((impl_SumOnes.f k t420).bind fun t424 => ((spec_SumOnes.f k t420).bind fun t425 => (if t424 = t425 then ((impl_SumOnes.f k (⟨#[]⟩ : ByteArray)).bind fun t426 => (some (t426 == 65535))) else (some false))))) else (some false)))))))
def laws_FnDgrams.f (k : Nat) (l0 : List Int) : Option (Bool) := (laws_big.f l0).bind fun t380 => (if t380 = true then (some true) else ((spec_DrawDgramText.f k l0).bind fun bt381 => ((impl_DgramText.f k bt381.1 bt381.2.1 bt381.2.2.1 bt381.2.2.2.1 bt381.2.2.2.2.1 bt381.2.2.2.2.2).bind fun bt388 => ((impl_ReadDgram.f k bt388.1).bind fun bt390 => ((spec_DgramOk.f bt381.1 bt381.2.1 bt381.2.2.1 bt381.2.2.2.1 bt381.2.2.2.2.1 bt381.2.2.2.2.2).bind fun t398 => (if (bt388.2 != t398) = true then (laws_FnDgrams.j0 k l0 true) else ((impl_DgramOk.f bt381.1 bt381.2.1 bt381.2.2.1 bt381.2.2.2.1 bt381.2.2.2.2.1 bt381.2.2.2.2.2).bind fun t399 => (if (t399 != bt388.2) = true then (laws_FnDgrams.j0 k l0 true) else (if bt388.2 = true then (if bt390.2.2.2.2.2.2 = true then (if (!(bt390.1 == bt381.1) || (!(bt390.2.1 == bt381.2.1) || (!(bt390.2.2.1 == bt381.2.2.1) || (!(bt390.2.2.2.1 == bt381.2.2.2.1) || (!(bt390.2.2.2.2.1 == bt381.2.2.2.2.1) || (!(bt390.2.2.2.2.2.1.toList == bt381.2.2.2.2.2.toList))))))) = true then (laws_FnDgrams.j0 k l0 true) else (if 0 ≤ 8 then (if 8 ≤ (bt388.1.size : Int) then ((impl_SumOnes.f k (bt388.1.extract 0 8)).bind fun t400 => (laws_FnDgrams.j0 k l0 (t400 != 0))) else (none)) else (none))) else (laws_FnDgrams.j0 k l0 true)) else (laws_FnDgrams.j0 k l0 false))))))))))
theorem laws_FnDgrams.mono_l : ∀ k, (∀ y0 y1, LeO (laws_FnDgrams.j0 k y0 y1) (laws_FnDgrams.j0 (k + 1) y0 y1))
 | 0 => fun _ _ r h => by simp [laws_FnDgrams.j0] at h
 | k + 1 => by
  have ih0 := laws_FnDgrams.mono_l k
  ·intro y0 y1
   unfold laws_FnDgrams.j0
   repeat' first
   | (with_reducible exact ih0 _ _)
   | (with_reducible exact impl_DgramText.mono _ _ _ _ _ _ _)
   | (with_reducible exact impl_ReadDgram.mono _ _)
   | (with_reducible exact impl_SumOnes.mono _ _)
   | (with_reducible exact spec_DrawDgramText.mono _ _)
   | (with_reducible exact spec_DrawReadDgram.mono _ _)
   | (with_reducible exact spec_DrawSumOnes.mono _ _)
   | (with_reducible exact spec_ReadDgram.mono _ _)
   | (with_reducible exact spec_SumOnes.mono _ _)
   | (with_reducible exact LeO.refl _)
   | (with_reducible exact LeO.none _)
   | (with_reducible refine LeO.ite ?_ ?_)
   | (with_reducible refine LeO.bind ?_ (fun _ => ?_))
   | exact ih0 _ _
   | exact impl_DgramText.mono _ _ _ _ _ _ _
   | exact impl_ReadDgram.mono _ _
   | exact impl_SumOnes.mono _ _
   | exact spec_DrawDgramText.mono _ _
   | exact spec_DrawReadDgram.mono _ _
   | exact spec_DrawSumOnes.mono _ _
   | exact spec_ReadDgram.mono _ _
   | exact spec_SumOnes.mono _ _
   | exact LeO.none _
   | refine LeO.ite ?_ ?_
   | refine LeO.bind ?_ (fun _ => ?_)
theorem laws_FnDgrams.mono : ∀ a0 k, LeO (laws_FnDgrams.f k a0) (laws_FnDgrams.f (k + 1) a0) := by
 intro a0 k
 have ih0 := laws_FnDgrams.mono_l k
 unfold laws_FnDgrams.f
 repeat' first
   | (with_reducible exact ih0 _ _)
   | (with_reducible exact impl_DgramText.mono _ _ _ _ _ _ _)
   | (with_reducible exact impl_ReadDgram.mono _ _)
   | (with_reducible exact impl_SumOnes.mono _ _)
   | (with_reducible exact spec_DrawDgramText.mono _ _)
   | (with_reducible exact spec_DrawReadDgram.mono _ _)
   | (with_reducible exact spec_DrawSumOnes.mono _ _)
   | (with_reducible exact spec_ReadDgram.mono _ _)
   | (with_reducible exact spec_SumOnes.mono _ _)
   | (with_reducible exact LeO.refl _)
   | (with_reducible exact LeO.none _)
   | (with_reducible refine LeO.ite ?_ ?_)
   | (with_reducible refine LeO.bind ?_ (fun _ => ?_))
   | exact ih0 _ _
   | exact impl_DgramText.mono _ _ _ _ _ _ _
   | exact impl_ReadDgram.mono _ _
   | exact impl_SumOnes.mono _ _
   | exact spec_DrawDgramText.mono _ _
   | exact spec_DrawReadDgram.mono _ _
   | exact spec_DrawSumOnes.mono _ _
   | exact spec_ReadDgram.mono _ _
   | exact spec_SumOnes.mono _ _
   | exact LeO.none _
   | refine LeO.ite ?_ ?_
   | refine LeO.bind ?_ (fun _ => ?_)
set_option maxHeartbeats 8000000 in
set_option maxRecDepth 100000 in
theorem laws_FnDgrams.calls (k : Nat) (A0 : Option Addr) (c0 : Nat) (l0 : List Int) (r : Bool) (w : World) (hr0 : Kd.C (Kd.int .u8) w A0 l0.length l0) (hc0 : l0.length ≤ c0) (h : laws_FnDgrams.f k l0 = some r) (hr_ : Aside0 (r = true)) :
  Calls Try.prog 10 #[.slice A0 l0.length c0] w fun e w' => e = .returned (.bool r) ∧ Below w.heap.size w w' := by
 have hu85 := Try.underlying85
 have HR0 := Aside0.mk hr0
 have HC0 := Aside0.mk hc0
 clear hr0 hc0
 have HB := Aside0.mk (Below.refl w.heap.size w)
 have H : ((laws_big.f l0).bind fun t380 => (if t380 = true then (some true) else ((spec_DrawDgramText.f k l0).bind fun bt381 => ((impl_DgramText.f k bt381.1 bt381.2.1 bt381.2.2.1 bt381.2.2.2.1 bt381.2.2.2.2.1 bt381.2.2.2.2.2).bind fun bt388 => ((impl_ReadDgram.f k bt388.1).bind fun bt390 => ((spec_DgramOk.f bt381.1 bt381.2.1 bt381.2.2.1 bt381.2.2.2.1 bt381.2.2.2.2.1 bt381.2.2.2.2.2).bind fun t398 => (if (bt388.2 != t398) = true then (laws_FnDgrams.j0 k l0 true) else ((impl_DgramOk.f bt381.1 bt381.2.1 bt381.2.2.1 bt381.2.2.2.1 bt381.2.2.2.2.1 bt381.2.2.2.2.2).bind fun t399 => (if (t399 != bt388.2) = true then (laws_FnDgrams.j0 k l0 true) else (if bt388.2 = true then (if bt390.2.2.2.2.2.2 = true then (if (!(bt390.1 == bt381.1) || (!(bt390.2.1 == bt381.2.1) || (!(bt390.2.2.1 == bt381.2.2.1) || (!(bt390.2.2.2.1 == bt381.2.2.2.1) || (!(bt390.2.2.2.2.1 == bt381.2.2.2.2.1) || (!(bt390.2.2.2.2.2.1.toList == bt381.2.2.2.2.2.toList))))))) = true then (laws_FnDgrams.j0 k l0 true) else (if 0 ≤ 8 then (if 8 ≤ (bt388.1.size : Int) then ((impl_SumOnes.f k (bt388.1.extract 0 8)).bind fun t400 => (laws_FnDgrams.j0 k l0 (t400 != 0))) else (none)) else (none))) else (laws_FnDgrams.j0 k l0 true)) else (laws_FnDgrams.j0 k l0 false))))))))))) = some r := h
 clear h
 replace H := Option.bind_eq_some_iff.mp H
 obtain ⟨t380, A20, H⟩ := H
 (try dsimp only at H)
 have A2 := Aside0.mk A20
 clear A20
 by_cases c3 : t380 = true
 ·subst c3
  rw [if_pos rfl] at H
  obtain rfl := Option.some.inj H
  go_enter Try.func10, Try.ntmps10
  go_wp2_with (first | ((with_reducible refine gate_callee (f := 25) rfl ?_); refine goesL_ (some 17) rfl rfl Try.func25 B9x18_ rfl #[.slice A0 l0.length c0] rfl B9x3_ ?_; (with_reducible refine (laws_big.calls _ _ l0 true _ ?side1 ?side2 A2.out).mono ?_); (case side1 => repeat (first | exact HR0.out | (with_reducible refine Kd.C_alloc ?_ _) | (with_reducible refine Kd.C_drewN ?_ _) | (with_reducible refine Kd.C_drew ?_))); (case side2 => exact HC0.out); rintro e w' ⟨rfl, ⟨nd, rfl⟩⟩; refine ⟨_, rfl, ?_⟩))
  go_ret
  exact ⟨by first | rfl | (simp [errW_none, errW_some] <;> rfl) | (simp [*, errW_none, errW_some] <;> rfl), by repeat (first | (with_reducible first | exact HB.out | apply below_alloc | apply pw_below_drewN | apply below_drew1) | exact HB.out)⟩
 ·replace c3 := Bool.eq_false_iff.mpr c3
  subst c3
  rw [if_neg (show ¬ (false = true) by decide)] at H
  replace H := Option.bind_eq_some_iff.mp H
  obtain ⟨⟨t381, t382, t383, t384, t385, t386⟩, A40, H⟩ := H
  (try dsimp only at H)
  have A4 := Aside0.mk A40
  clear A40
  replace H := Option.bind_eq_some_iff.mp H
  obtain ⟨⟨t388, t389⟩, A50, H⟩ := H
  (try dsimp only at H)
  have A5 := Aside0.mk A50
  clear A50
  replace H := Option.bind_eq_some_iff.mp H
  obtain ⟨⟨t390, t391, t392, t393, t394, t395, t396⟩, A60, H⟩ := H
  (try dsimp only at H)
  have A6 := Aside0.mk A60
  clear A60
  have HC7 := Aside0.mk H
  clear H
  go_enter Try.func10, Try.ntmps10
  go_upto_region 6 with (first | ((with_reducible refine gate_callee (f := 25) rfl ?_); refine goesL_ (some 17) rfl rfl Try.func25 B9x18_ rfl #[.slice A0 l0.length c0] rfl B9x3_ ?_; (with_reducible refine (laws_big.calls _ _ l0 false _ ?side1 ?side2 A2.out).mono ?_); (case side1 => repeat (first | exact HR0.out | (with_reducible refine Kd.C_alloc ?_ _) | (with_reducible refine Kd.C_drewN ?_ _) | (with_reducible refine Kd.C_drew ?_))); (case side2 => exact HC0.out); rintro e w' ⟨rfl, ⟨nd, rfl⟩⟩; refine ⟨_, rfl, ?_⟩) | ((with_reducible refine gate_callee (f := 53) rfl ?_); refine goesL_ (some 19) rfl rfl Try.func53 B9x18_ rfl #[.slice A0 l0.length c0] rfl B9x3_ ?_; (with_reducible refine (spec_DrawDgramText.calls k _ _ l0 t381 t382 t383 t384 t385 t386 _ ?side1 ?side2 A4.out).mono ?_); (case side1 => repeat (first | exact HR0.out | (with_reducible refine Kd.C_alloc ?_ _) | (with_reducible refine Kd.C_drewN ?_ _) | (with_reducible refine Kd.C_drew ?_))); (case side2 => exact HC0.out); rintro e w8 ⟨rfl, hb⟩; refine ⟨_, rfl, ?_⟩; have n0_ := Aside0.mk (below_step B9x17_ hb); clear HB; have HB := n0_; clear n0_; (try clear hb); (try clear hb2); (try clear hk); (try clear hi)) | ((with_reducible refine gate_dst (N := 3) rfl ?_); refine box_event ?hg (N := 3) ?hd (cs := #[.int .i64 0, .int .i64 0, .int .i64 0, .int .i64 0, .bool false, .string (⟨#[]⟩ : ByteArray)]) (t := 85) ?hr ?_; (case hd => rfl); (case hg => rfl); (case hr => first | (go_simp; done) | (go_simp; rfl)); intro gb387 hg w9 hbox hb; have n0_ := Aside0.mk (below_step B9x17_ hb); have n1_ := Aside0.mk (hbox); have n2_ := Aside0.mk ((by rw [hg]; exact (below_size B9x17_) : w.heap.size ≤ gb387)); have n3_ := Aside0.mk ((by rw [hg]; exact (below_size B9x17_) : w.heap.size ≤ gb387)); clear HB; have HB := n0_; have BK387 := n1_; have GW387 := n2_; have GE387 := n3_; clear n0_ n1_ n2_ n3_; clear hb hbox hg; obtain ⟨hcz10_0, hcz10_1, hcz10_2, hcz10_3, hcz10_4, hcz10_5⟩ := cl6 BK387.out; obtain ⟨hfz10_0, hfz10_1, hfz10_2, hfz10_3, hfz10_4, hfz10_5⟩ := fr6 BK387.out) | ((with_reducible refine gate_callee (f := 54) rfl ?_); refine goesL_ (some 22) rfl rfl Try.func54 B9x18_ rfl #[.agg #[.int .i64 t381, .int .i64 t382, .int .i64 t383, .int .i64 t384, .bool t385, .string t386]] rfl B9x3_ ?_; (with_reducible refine (impl_DgramText.calls k t381 t382 t383 t384 t385 t386 t388 t389 _ A5.out).mono ?_); rintro e w11 ⟨rfl, hb⟩; refine ⟨_, rfl, ?_⟩; have n0_ := Aside0.mk (blk_below (g := gb387) (o := .cells #[.int .i64 t381, .int .i64 t382, .int .i64 t383, .int .i64 t384, .bool t385, .string t386] 85 (0, 0)) (by (with_reducible repeat (first | refine blk_drewN ?_ _ | refine blk_drew ?_ | refine blk_alloc ?_ _)); refine blk_put (cs := #[.int .i64 t381, .int .i64 t382, .int .i64 t383, .int .i64 t384, .bool t385, .string (⟨#[]⟩ : ByteArray)]) ?_ 5 _ rfl; (with_reducible repeat (first | refine blk_drewN ?_ _ | refine blk_drew ?_ | refine blk_alloc ?_ _)); refine blk_put (cs := #[.int .i64 t381, .int .i64 t382, .int .i64 t383, .int .i64 t384, .bool false, .string (⟨#[]⟩ : ByteArray)]) ?_ 4 _ rfl; (with_reducible repeat (first | refine blk_drewN ?_ _ | refine blk_drew ?_ | refine blk_alloc ?_ _)); refine blk_put (cs := #[.int .i64 t381, .int .i64 t382, .int .i64 t383, .int .i64 0, .bool false, .string (⟨#[]⟩ : ByteArray)]) ?_ 3 _ rfl; (with_reducible repeat (first | refine blk_drewN ?_ _ | refine blk_drew ?_ | refine blk_alloc ?_ _)); refine blk_put (cs := #[.int .i64 t381, .int .i64 t382, .int .i64 0, .int .i64 0, .bool false, .string (⟨#[]⟩ : ByteArray)]) ?_ 2 _ rfl; (with_reducible repeat (first | refine blk_drewN ?_ _ | refine blk_drew ?_ | refine blk_alloc ?_ _)); refine blk_put (cs := #[.int .i64 t381, .int .i64 0, .int .i64 0, .int .i64 0, .bool false, .string (⟨#[]⟩ : ByteArray)]) ?_ 1 _ rfl; (with_reducible repeat (first | refine blk_drewN ?_ _ | refine blk_drew ?_ | refine blk_alloc ?_ _)); refine blk_put (cs := #[.int .i64 0, .int .i64 0, .int .i64 0, .int .i64 0, .bool false, .string (⟨#[]⟩ : ByteArray)]) ?_ 0 _ rfl; (with_reducible repeat (first | refine blk_drewN ?_ _ | refine blk_drew ?_ | refine blk_alloc ?_ _)); exact BK387.out) hb); have n1_ := Aside0.mk (below_step B9x16_ hb); clear BK387; clear HB; have BK387 := n0_; have HB := n1_; clear n0_ n1_; (try clear hb); (try clear hb2); (try clear hk); (try clear hi)) | ((with_reducible refine gate_callee (f := 55) rfl ?_); refine goesL_ (some 27) rfl rfl Try.func55 B9x18_ rfl #[.string t388] rfl B9x3_ ?_; (with_reducible refine (impl_ReadDgram.calls k t388 t390 t391 t392 t393 t394 t395 t396 _ A6.out).mono ?_); rintro e w12 ⟨rfl, hb⟩; refine ⟨_, rfl, ?_⟩; have n0_ := Aside0.mk (blk_below (g := gb387) (o := .cells #[.int .i64 t381, .int .i64 t382, .int .i64 t383, .int .i64 t384, .bool t385, .string t386] 85 (0, 0)) B9x4_ hb); have n1_ := Aside0.mk (below_step B9x16_ hb); clear BK387; clear HB; have BK387 := n0_; have HB := n1_; clear n0_ n1_; (try clear hb); (try clear hb2); (try clear hk); (try clear hi)) | ((with_reducible refine gate_dst (N := 6) rfl ?_); refine box_event ?hg (N := 6) ?hd (cs := #[.int .i64 0, .int .i64 0, .int .i64 0, .int .i64 0, .bool false, .string (⟨#[]⟩ : ByteArray)]) (t := 85) ?hr ?_; (case hd => rfl); (case hg => rfl); (case hr => first | (go_simp; done) | (go_simp; rfl)); intro gb397 hg w13 hbox hb; have n0_ := Aside0.mk (blk_below (g := gb387) (o := .cells #[.int .i64 t381, .int .i64 t382, .int .i64 t383, .int .i64 t384, .bool t385, .string t386] 85 (0, 0)) B9x4_ hb); have n1_ := Aside0.mk (below_step B9x16_ hb); have n2_ := Aside0.mk (hbox); have n3_ := Aside0.mk ((by rw [hg]; exact (below_size B9x16_) : w.heap.size ≤ gb397)); have n4_ := Aside0.mk ((by rw [hg]; exact (below_size B9x16_) : w.heap.size ≤ gb397)); have n5_ := Aside0.mk ((by rw [hg]; exact Nat.ne_of_lt (blk_lt (g := gb387) (o := .cells #[.int .i64 t381, .int .i64 t382, .int .i64 t383, .int .i64 t384, .bool t385, .string t386] 85 (0, 0)) B9x4_) : gb387 ≠ gb397)); have n6_ := Aside0.mk ((by rw [hg]; exact Nat.ne_of_gt (blk_lt (g := gb387) (o := .cells #[.int .i64 t381, .int .i64 t382, .int .i64 t383, .int .i64 t384, .bool t385, .string t386] 85 (0, 0)) B9x4_) : gb397 ≠ gb387)); clear BK387; clear HB; have BK387 := n0_; have HB := n1_; have BK397 := n2_; have GW397 := n3_; have GE397 := n4_; have NB387_397 := n5_; have NB397_387 := n6_; clear n0_ n1_ n2_ n3_ n4_ n5_ n6_; clear hb hbox hg; have hnb14 := NB397_387.out; have hnc14 := NB387_397.out; obtain ⟨hcz15_0, hcz15_1, hcz15_2, hcz15_3, hcz15_4, hcz15_5⟩ := cl6 BK397.out; obtain ⟨hfz15_0, hfz15_1, hfz15_2, hfz15_3, hfz15_4, hfz15_5⟩ := fr6 BK397.out))
  (try simp only [Act.put, List.setIfInBounds_toArray, List.set_cons_zero, List.set_cons_succ])
  go_cut [57] (fun v57 wc => ∃ (kq : Nat) (x57_6 : Bool), v57 = .bool x57_6 ∧ Aside0 (laws_FnDgrams.j0 kq l0 x57_6 = some r) ∧ Aside0 (kq ≤ k) ∧ Aside0 (wc.heap[gb387]? = some (.cells #[.int .i64 t381, .int .i64 t382, .int .i64 t383, .int .i64 t384, .bool t385, .string t386] 85 (0, 0))) ∧ Aside0 (wc.heap[gb397]? = some (.cells #[.int .i64 t390, .int .i64 t391, .int .i64 t392, .int .i64 t393, .bool t394, .string t395] 85 (0, 0))) ∧ Aside0 (Below w.heap.size w wc))
  case first =>
   have H := HC7.out
   clear HC7
   replace H := Option.bind_eq_some_iff.mp H
   obtain ⟨t398, A160, H⟩ := H
   (try dsimp only at H)
   have A16 := Aside0.mk A160
   clear A160
   by_cases c17 : (t389 != t398) = true
   ·rw [if_pos c17] at H
    have c17b0 : (t389 != t398) = true := c17
    (try (have c17b1 : decide (t389 = t398) = false := by simpa using c17))
    (try (have c17b2 : (t389 == t398) = false := by simpa using c17))
    (try (have c17b3 : ¬ (t389 = t398) := by simpa using c17))
    clear c17
    (first | rw [c17b0] | (simp only [i64_w, i32_w]; rw [c17b0]) | skip)
    have H' := Aside0.mk H
    clear H
    have hnb18 := NB387_397.out
    have hnc18 := NB397_387.out
    obtain ⟨hcz19_0, hcz19_1, hcz19_2, hcz19_3, hcz19_4, hcz19_5⟩ := cl6 BK387.out
    obtain ⟨hfz19_0, hfz19_1, hfz19_2, hfz19_3, hfz19_4, hfz19_5⟩ := fr6 BK387.out
    go_wp2_with (first | ((with_reducible refine gate_callee (f := 56) rfl ?_); refine goesL_ (some 32) rfl rfl Try.func56 B9x18_ rfl #[.agg #[.int .i64 t381, .int .i64 t382, .int .i64 t383, .int .i64 t384, .bool t385, .string t386]] rfl B9x3_ ?_; (with_reducible refine (spec_DgramOk.calls t381 t382 t383 t384 t385 t386 t398 _ A16.out).mono ?_); rintro e w20 ⟨rfl, hb⟩; refine ⟨_, rfl, ?_⟩; have n0_ := Aside0.mk (blk_below (g := gb387) (o := .cells #[.int .i64 t381, .int .i64 t382, .int .i64 t383, .int .i64 t384, .bool t385, .string t386] 85 (0, 0)) B9x1_ hb); have n1_ := Aside0.mk (blk_below (g := gb397) (o := .cells #[.int .i64 t390, .int .i64 t391, .int .i64 t392, .int .i64 t393, .bool t394, .string t395] 85 (0, 0)) B9x0_ hb); have n2_ := Aside0.mk (below_step B9x2_ hb); clear BK387; clear BK397; clear HB; have BK387 := n0_; have BK397 := n1_; have HB := n2_; clear n0_ n1_ n2_; (try clear hb); (try clear hb2); (try clear hk); (try clear hi)))
    go_meet
    case rel => exact ⟨_, (true), (be_), H', ⟨by first | omega | exact Nat.le_refl _⟩, ⟨by (with_reducible repeat (first | refine blk_drewN ?_ _ | refine blk_drew ?_ | refine blk_alloc ?_ _)); exact BK387.out⟩, ⟨by (with_reducible repeat (first | refine blk_drewN ?_ _ | refine blk_drew ?_ | refine blk_alloc ?_ _)); exact BK397.out⟩, ⟨by repeat (first | (with_reducible first | exact HB.out | apply below_alloc | apply pw_below_drewN | apply below_drew1 | refine below_set ?_ GE387.out | refine below_set ?_ GE397.out) | exact HB.out)⟩⟩
   ·rw [if_neg c17] at H
    have c17b0 : (t389 != t398) = false := by simpa using c17
    (try (have c17b1 : decide (t389 = t398) = true := by simpa using c17))
    (try (have c17b2 : (t389 == t398) = true := by simpa using c17))
    clear c17
    (first | rw [c17b0] | (simp only [i64_w, i32_w]; rw [c17b0]) | skip)
    replace H := Option.bind_eq_some_iff.mp H
    obtain ⟨t399, A210, H⟩ := H
    (try dsimp only at H)
    have A21 := Aside0.mk A210
    clear A210
    by_cases c22 : (t399 != t389) = true
    ·rw [if_pos c22] at H
     have c22b0 : (t399 != t389) = true := c22
     (try (have c22b1 : decide (t399 = t389) = false := by simpa using c22))
     (try (have c22b2 : (t399 == t389) = false := by simpa using c22))
     (try (have c22b3 : ¬ (t399 = t389) := by simpa using c22))
     clear c22
     have H' := Aside0.mk H
     clear H
     have hnb23 := NB387_397.out
     have hnc23 := NB397_387.out
     obtain ⟨hcz24_0, hcz24_1, hcz24_2, hcz24_3, hcz24_4, hcz24_5⟩ := cl6 BK387.out
     obtain ⟨hfz24_0, hfz24_1, hfz24_2, hfz24_3, hfz24_4, hfz24_5⟩ := fr6 BK387.out
     go_wp2_with (first | ((with_reducible refine gate_callee (f := 56) rfl ?_); refine goesL_ (some 32) rfl rfl Try.func56 B9x18_ rfl #[.agg #[.int .i64 t381, .int .i64 t382, .int .i64 t383, .int .i64 t384, .bool t385, .string t386]] rfl B9x3_ ?_; (with_reducible refine (spec_DgramOk.calls t381 t382 t383 t384 t385 t386 t398 _ A16.out).mono ?_); rintro e w25 ⟨rfl, hb⟩; refine ⟨_, rfl, ?_⟩; have n0_ := Aside0.mk (blk_below (g := gb387) (o := .cells #[.int .i64 t381, .int .i64 t382, .int .i64 t383, .int .i64 t384, .bool t385, .string t386] 85 (0, 0)) B9x1_ hb); have n1_ := Aside0.mk (blk_below (g := gb397) (o := .cells #[.int .i64 t390, .int .i64 t391, .int .i64 t392, .int .i64 t393, .bool t394, .string t395] 85 (0, 0)) B9x0_ hb); have n2_ := Aside0.mk (below_step B9x2_ hb); clear BK387; clear BK397; clear HB; have BK387 := n0_; have BK397 := n1_; have HB := n2_; clear n0_ n1_ n2_; (try clear hb); (try clear hb2); (try clear hk); (try clear hi); obtain ⟨hcz26_0, hcz26_1, hcz26_2, hcz26_3, hcz26_4, hcz26_5⟩ := cl6 BK387.out; obtain ⟨hfz26_0, hfz26_1, hfz26_2, hfz26_3, hfz26_4, hfz26_5⟩ := fr6 BK387.out) | (go_at_call 57; (with_reducible refine (impl_DgramOk.calls t381 t382 t383 t384 t385 t386 t399 _ A21.out).mono ?_); rintro e w27 ⟨rfl, hb⟩; have n0_ := Aside0.mk (blk_below (g := gb387) (o := .cells #[.int .i64 t381, .int .i64 t382, .int .i64 t383, .int .i64 t384, .bool t385, .string t386] 85 (0, 0)) B9x4_ hb); have n1_ := Aside0.mk (blk_below (g := gb397) (o := .cells #[.int .i64 t390, .int .i64 t391, .int .i64 t392, .int .i64 t393, .bool t394, .string t395] 85 (0, 0)) B9x5_ hb); have n2_ := Aside0.mk (below_step B9x2_ hb); clear BK387; clear BK397; clear HB; have BK387 := n0_; have BK397 := n1_; have HB := n2_; clear n0_ n1_ n2_; (try clear hb); (try clear hb2); (try clear hk); (try clear hi)))
     go_meet
     case rel => exact ⟨_, (true), (be_), H', ⟨by first | omega | exact Nat.le_refl _⟩, ⟨by (with_reducible repeat (first | refine blk_drewN ?_ _ | refine blk_drew ?_ | refine blk_alloc ?_ _)); exact BK387.out⟩, ⟨by (with_reducible repeat (first | refine blk_drewN ?_ _ | refine blk_drew ?_ | refine blk_alloc ?_ _)); exact BK397.out⟩, ⟨by repeat (first | (with_reducible first | exact HB.out | apply below_alloc | apply pw_below_drewN | apply below_drew1 | refine below_set ?_ GE387.out | refine below_set ?_ GE397.out) | exact HB.out)⟩⟩
    ·rw [if_neg c22] at H
     have c22b0 : (t399 != t389) = false := by simpa using c22
     (try (have c22b1 : decide (t399 = t389) = true := by simpa using c22))
     (try (have c22b2 : (t399 == t389) = true := by simpa using c22))
     clear c22
     by_cases c28 : t389 = true
     ·subst c28
      rw [if_pos rfl] at H
      by_cases c29 : t396 = true
      ·subst c29
       rw [if_pos rfl] at H
       by_cases c30 : (!(t390 == t381) || (!(t391 == t382) || (!(t392 == t383) || (!(t393 == t384) || (!(t394 == t385) || (!(t395.toList == t386.toList))))))) = true
       ·rw [if_pos c30] at H
        have c30b0 : (!(t390 == t381) || (!(t391 == t382) || (!(t392 == t383) || (!(t393 == t384) || (!(t394 == t385) || (!(t395.toList == t386.toList))))))) = true := c30
        clear c30
        have H' := Aside0.mk H
        clear H
        have hnb31 := NB387_397.out
        have hnc31 := NB397_387.out
        obtain ⟨hcz32_0, hcz32_1, hcz32_2, hcz32_3, hcz32_4, hcz32_5⟩ := cl6 BK387.out
        obtain ⟨hfz32_0, hfz32_1, hfz32_2, hfz32_3, hfz32_4, hfz32_5⟩ := fr6 BK387.out
        go_wp2_with (first | ((with_reducible refine gate_callee (f := 56) rfl ?_); refine goesL_ (some 32) rfl rfl Try.func56 B9x18_ rfl #[.agg #[.int .i64 t381, .int .i64 t382, .int .i64 t383, .int .i64 t384, .bool t385, .string t386]] rfl B9x3_ ?_; (with_reducible refine (spec_DgramOk.calls t381 t382 t383 t384 t385 t386 t398 _ A16.out).mono ?_); rintro e w33 ⟨rfl, hb⟩; refine ⟨_, rfl, ?_⟩; have n0_ := Aside0.mk (blk_below (g := gb387) (o := .cells #[.int .i64 t381, .int .i64 t382, .int .i64 t383, .int .i64 t384, .bool t385, .string t386] 85 (0, 0)) B9x1_ hb); have n1_ := Aside0.mk (blk_below (g := gb397) (o := .cells #[.int .i64 t390, .int .i64 t391, .int .i64 t392, .int .i64 t393, .bool t394, .string t395] 85 (0, 0)) B9x0_ hb); have n2_ := Aside0.mk (below_step B9x2_ hb); clear BK387; clear BK397; clear HB; have BK387 := n0_; have BK397 := n1_; have HB := n2_; clear n0_ n1_ n2_; (try clear hb); (try clear hb2); (try clear hk); (try clear hi); obtain ⟨hcz34_0, hcz34_1, hcz34_2, hcz34_3, hcz34_4, hcz34_5⟩ := cl6 BK387.out; obtain ⟨hfz34_0, hfz34_1, hfz34_2, hfz34_3, hfz34_4, hfz34_5⟩ := fr6 BK387.out) | (go_at_call 57; (with_reducible refine (impl_DgramOk.calls t381 t382 t383 t384 t385 t386 t399 _ A21.out).mono ?_); rintro e w35 ⟨rfl, hb⟩; have n0_ := Aside0.mk (blk_below (g := gb387) (o := .cells #[.int .i64 t381, .int .i64 t382, .int .i64 t383, .int .i64 t384, .bool t385, .string t386] 85 (0, 0)) B9x4_ hb); have n1_ := Aside0.mk (blk_below (g := gb397) (o := .cells #[.int .i64 t390, .int .i64 t391, .int .i64 t392, .int .i64 t393, .bool t394, .string t395] 85 (0, 0)) B9x5_ hb); have n2_ := Aside0.mk (below_step B9x2_ hb); clear BK387; clear BK397; clear HB; have BK387 := n0_; have BK397 := n1_; have HB := n2_; clear n0_ n1_ n2_; (try clear hb); (try clear hb2); (try clear hk); (try clear hi); obtain ⟨hcz36_0, hcz36_1, hcz36_2, hcz36_3, hcz36_4, hcz36_5⟩ := cl6 BK397.out; obtain ⟨hfz36_0, hfz36_1, hfz36_2, hfz36_3, hfz36_4, hfz36_5⟩ := fr6 BK397.out; obtain ⟨hcz37_0, hcz37_1, hcz37_2, hcz37_3, hcz37_4, hcz37_5⟩ := cl6 BK387.out; obtain ⟨hfz37_0, hfz37_1, hfz37_2, hfz37_3, hfz37_4, hfz37_5⟩ := fr6 BK387.out))
        go_meet
        case rel => exact ⟨_, (true), (be_), H', ⟨by first | omega | exact Nat.le_refl _⟩, ⟨by (with_reducible repeat (first | refine blk_drewN ?_ _ | refine blk_drew ?_ | refine blk_alloc ?_ _)); exact BK387.out⟩, ⟨by (with_reducible repeat (first | refine blk_drewN ?_ _ | refine blk_drew ?_ | refine blk_alloc ?_ _)); exact BK397.out⟩, ⟨by repeat (first | (with_reducible first | exact HB.out | apply below_alloc | apply pw_below_drewN | apply below_drew1 | refine below_set ?_ GE387.out | refine below_set ?_ GE397.out) | exact HB.out)⟩⟩
       ·rw [if_neg c30] at H
        have c30b0 : (!(t390 == t381) || (!(t391 == t382) || (!(t392 == t383) || (!(t393 == t384) || (!(t394 == t385) || (!(t395.toList == t386.toList))))))) = false := by simpa using c30
        clear c30
        by_cases c38 : 0 ≤ 8
        ·rw [if_pos c38] at H
         have c38b0 := eq_true c38
         have c38b1 : decide (0 ≤ 8) = true := decide_eq_true c38
         clear c38
         by_cases c39 : 8 ≤ (t388.size : Int)
         ·rw [if_pos c39] at H
          have c39b0 := eq_true c39
          have c39b1 : decide (8 ≤ (t388.size : Int)) = true := decide_eq_true c39
          clear c39
          replace H := Option.bind_eq_some_iff.mp H
          obtain ⟨t400, A400, H⟩ := H
          (try dsimp only at H)
          have A40 := Aside0.mk A400
          clear A400
          have H' := Aside0.mk H
          clear H
          have hnb41 := NB387_397.out
          have hnc41 := NB397_387.out
          obtain ⟨hcz42_0, hcz42_1, hcz42_2, hcz42_3, hcz42_4, hcz42_5⟩ := cl6 BK387.out
          obtain ⟨hfz42_0, hfz42_1, hfz42_2, hfz42_3, hfz42_4, hfz42_5⟩ := fr6 BK387.out
          go_wp2_with (first | ((with_reducible refine gate_callee (f := 56) rfl ?_); refine goesL_ (some 32) rfl rfl Try.func56 B9x18_ rfl #[.agg #[.int .i64 t381, .int .i64 t382, .int .i64 t383, .int .i64 t384, .bool t385, .string t386]] rfl B9x3_ ?_; (with_reducible refine (spec_DgramOk.calls t381 t382 t383 t384 t385 t386 t398 _ A16.out).mono ?_); rintro e w43 ⟨rfl, hb⟩; refine ⟨_, rfl, ?_⟩; have n0_ := Aside0.mk (blk_below (g := gb387) (o := .cells #[.int .i64 t381, .int .i64 t382, .int .i64 t383, .int .i64 t384, .bool t385, .string t386] 85 (0, 0)) B9x1_ hb); have n1_ := Aside0.mk (blk_below (g := gb397) (o := .cells #[.int .i64 t390, .int .i64 t391, .int .i64 t392, .int .i64 t393, .bool t394, .string t395] 85 (0, 0)) B9x0_ hb); have n2_ := Aside0.mk (below_step B9x2_ hb); clear BK387; clear BK397; clear HB; have BK387 := n0_; have BK397 := n1_; have HB := n2_; clear n0_ n1_ n2_; (try clear hb); (try clear hb2); (try clear hk); (try clear hi); obtain ⟨hcz44_0, hcz44_1, hcz44_2, hcz44_3, hcz44_4, hcz44_5⟩ := cl6 BK387.out; obtain ⟨hfz44_0, hfz44_1, hfz44_2, hfz44_3, hfz44_4, hfz44_5⟩ := fr6 BK387.out) | (go_at_call 57; (with_reducible refine (impl_DgramOk.calls t381 t382 t383 t384 t385 t386 t399 _ A21.out).mono ?_); rintro e w45 ⟨rfl, hb⟩; have n0_ := Aside0.mk (blk_below (g := gb387) (o := .cells #[.int .i64 t381, .int .i64 t382, .int .i64 t383, .int .i64 t384, .bool t385, .string t386] 85 (0, 0)) B9x4_ hb); have n1_ := Aside0.mk (blk_below (g := gb397) (o := .cells #[.int .i64 t390, .int .i64 t391, .int .i64 t392, .int .i64 t393, .bool t394, .string t395] 85 (0, 0)) B9x5_ hb); have n2_ := Aside0.mk (below_step B9x2_ hb); clear BK387; clear BK397; clear HB; have BK387 := n0_; have BK397 := n1_; have HB := n2_; clear n0_ n1_ n2_; (try clear hb); (try clear hb2); (try clear hk); (try clear hi); obtain ⟨hcz46_0, hcz46_1, hcz46_2, hcz46_3, hcz46_4, hcz46_5⟩ := cl6 BK397.out; obtain ⟨hfz46_0, hfz46_1, hfz46_2, hfz46_3, hfz46_4, hfz46_5⟩ := fr6 BK397.out; obtain ⟨hcz47_0, hcz47_1, hcz47_2, hcz47_3, hcz47_4, hcz47_5⟩ := cl6 BK387.out; obtain ⟨hfz47_0, hfz47_1, hfz47_2, hfz47_3, hfz47_4, hfz47_5⟩ := fr6 BK387.out) | (go_at_call 58; (with_reducible refine (impl_SumOnes.calls k (t388.extract 0 8) t400 _ A40.out).mono ?_); rintro e w' ⟨rfl, ⟨nd, rfl⟩⟩))
          go_meet
          case rel => exact ⟨_, ((t400 != 0)), (be_), H', ⟨by first | omega | exact Nat.le_refl _⟩, ⟨by (with_reducible repeat (first | refine blk_drewN ?_ _ | refine blk_drew ?_ | refine blk_alloc ?_ _)); exact BK387.out⟩, ⟨by (with_reducible repeat (first | refine blk_drewN ?_ _ | refine blk_drew ?_ | refine blk_alloc ?_ _)); exact BK397.out⟩, ⟨by repeat (first | (with_reducible first | exact HB.out | apply below_alloc | apply pw_below_drewN | apply below_drew1 | refine below_set ?_ GE387.out | refine below_set ?_ GE397.out) | exact HB.out)⟩⟩
         ·rw [if_neg c39] at H
          exact absurd H (by simp)
        ·rw [if_neg c38] at H
         exact absurd H (by simp)
      ·replace c29 := Bool.eq_false_iff.mpr c29
       subst c29
       rw [if_neg (show ¬ (false = true) by decide)] at H
       have H' := Aside0.mk H
       clear H
       have hnb48 := NB387_397.out
       have hnc48 := NB397_387.out
       obtain ⟨hcz49_0, hcz49_1, hcz49_2, hcz49_3, hcz49_4, hcz49_5⟩ := cl6 BK387.out
       obtain ⟨hfz49_0, hfz49_1, hfz49_2, hfz49_3, hfz49_4, hfz49_5⟩ := fr6 BK387.out
       go_wp2_with (first | ((with_reducible refine gate_callee (f := 56) rfl ?_); refine goesL_ (some 32) rfl rfl Try.func56 B9x18_ rfl #[.agg #[.int .i64 t381, .int .i64 t382, .int .i64 t383, .int .i64 t384, .bool t385, .string t386]] rfl B9x3_ ?_; (with_reducible refine (spec_DgramOk.calls t381 t382 t383 t384 t385 t386 t398 _ A16.out).mono ?_); rintro e w50 ⟨rfl, hb⟩; refine ⟨_, rfl, ?_⟩; have n0_ := Aside0.mk (blk_below (g := gb387) (o := .cells #[.int .i64 t381, .int .i64 t382, .int .i64 t383, .int .i64 t384, .bool t385, .string t386] 85 (0, 0)) B9x1_ hb); have n1_ := Aside0.mk (blk_below (g := gb397) (o := .cells #[.int .i64 t390, .int .i64 t391, .int .i64 t392, .int .i64 t393, .bool t394, .string t395] 85 (0, 0)) B9x0_ hb); have n2_ := Aside0.mk (below_step B9x2_ hb); clear BK387; clear BK397; clear HB; have BK387 := n0_; have BK397 := n1_; have HB := n2_; clear n0_ n1_ n2_; (try clear hb); (try clear hb2); (try clear hk); (try clear hi); obtain ⟨hcz51_0, hcz51_1, hcz51_2, hcz51_3, hcz51_4, hcz51_5⟩ := cl6 BK387.out; obtain ⟨hfz51_0, hfz51_1, hfz51_2, hfz51_3, hfz51_4, hfz51_5⟩ := fr6 BK387.out) | (go_at_call 57; (with_reducible refine (impl_DgramOk.calls t381 t382 t383 t384 t385 t386 t399 _ A21.out).mono ?_); rintro e w52 ⟨rfl, hb⟩; have n0_ := Aside0.mk (blk_below (g := gb387) (o := .cells #[.int .i64 t381, .int .i64 t382, .int .i64 t383, .int .i64 t384, .bool t385, .string t386] 85 (0, 0)) B9x4_ hb); have n1_ := Aside0.mk (blk_below (g := gb397) (o := .cells #[.int .i64 t390, .int .i64 t391, .int .i64 t392, .int .i64 t393, .bool t394, .string t395] 85 (0, 0)) B9x5_ hb); have n2_ := Aside0.mk (below_step B9x2_ hb); clear BK387; clear BK397; clear HB; have BK387 := n0_; have BK397 := n1_; have HB := n2_; clear n0_ n1_ n2_; (try clear hb); (try clear hb2); (try clear hk); (try clear hi)))
       go_meet
       case rel => exact ⟨_, (true), (be_), H', ⟨by first | omega | exact Nat.le_refl _⟩, ⟨by (with_reducible repeat (first | refine blk_drewN ?_ _ | refine blk_drew ?_ | refine blk_alloc ?_ _)); exact BK387.out⟩, ⟨by (with_reducible repeat (first | refine blk_drewN ?_ _ | refine blk_drew ?_ | refine blk_alloc ?_ _)); exact BK397.out⟩, ⟨by repeat (first | (with_reducible first | exact HB.out | apply below_alloc | apply pw_below_drewN | apply below_drew1 | refine below_set ?_ GE387.out | refine below_set ?_ GE397.out) | exact HB.out)⟩⟩
     ·replace c28 := Bool.eq_false_iff.mpr c28
      subst c28
      rw [if_neg (show ¬ (false = true) by decide)] at H
      have H' := Aside0.mk H
      clear H
      have hnb53 := NB387_397.out
      have hnc53 := NB397_387.out
      obtain ⟨hcz54_0, hcz54_1, hcz54_2, hcz54_3, hcz54_4, hcz54_5⟩ := cl6 BK387.out
      obtain ⟨hfz54_0, hfz54_1, hfz54_2, hfz54_3, hfz54_4, hfz54_5⟩ := fr6 BK387.out
      go_wp2_with (first | ((with_reducible refine gate_callee (f := 56) rfl ?_); refine goesL_ (some 32) rfl rfl Try.func56 B9x18_ rfl #[.agg #[.int .i64 t381, .int .i64 t382, .int .i64 t383, .int .i64 t384, .bool t385, .string t386]] rfl B9x3_ ?_; (with_reducible refine (spec_DgramOk.calls t381 t382 t383 t384 t385 t386 t398 _ A16.out).mono ?_); rintro e w55 ⟨rfl, hb⟩; refine ⟨_, rfl, ?_⟩; have n0_ := Aside0.mk (blk_below (g := gb387) (o := .cells #[.int .i64 t381, .int .i64 t382, .int .i64 t383, .int .i64 t384, .bool t385, .string t386] 85 (0, 0)) B9x1_ hb); have n1_ := Aside0.mk (blk_below (g := gb397) (o := .cells #[.int .i64 t390, .int .i64 t391, .int .i64 t392, .int .i64 t393, .bool t394, .string t395] 85 (0, 0)) B9x0_ hb); have n2_ := Aside0.mk (below_step B9x2_ hb); clear BK387; clear BK397; clear HB; have BK387 := n0_; have BK397 := n1_; have HB := n2_; clear n0_ n1_ n2_; (try clear hb); (try clear hb2); (try clear hk); (try clear hi); obtain ⟨hcz56_0, hcz56_1, hcz56_2, hcz56_3, hcz56_4, hcz56_5⟩ := cl6 BK387.out; obtain ⟨hfz56_0, hfz56_1, hfz56_2, hfz56_3, hfz56_4, hfz56_5⟩ := fr6 BK387.out) | (go_at_call 57; (with_reducible refine (impl_DgramOk.calls t381 t382 t383 t384 t385 t386 t399 _ A21.out).mono ?_); rintro e w57 ⟨rfl, hb⟩; have n0_ := Aside0.mk (blk_below (g := gb387) (o := .cells #[.int .i64 t381, .int .i64 t382, .int .i64 t383, .int .i64 t384, .bool t385, .string t386] 85 (0, 0)) B9x4_ hb); have n1_ := Aside0.mk (blk_below (g := gb397) (o := .cells #[.int .i64 t390, .int .i64 t391, .int .i64 t392, .int .i64 t393, .bool t394, .string t395] 85 (0, 0)) B9x5_ hb); have n2_ := Aside0.mk (below_step B9x2_ hb); clear BK387; clear BK397; clear HB; have BK387 := n0_; have BK397 := n1_; have HB := n2_; clear n0_ n1_ n2_; (try clear hb); (try clear hb2); (try clear hk); (try clear hi)))
      go_meet
      case rel => exact ⟨_, (false), (be_), H', ⟨by first | omega | exact Nat.le_refl _⟩, ⟨by (with_reducible repeat (first | refine blk_drewN ?_ _ | refine blk_drew ?_ | refine blk_alloc ?_ _)); exact BK387.out⟩, ⟨by (with_reducible repeat (first | refine blk_drewN ?_ _ | refine blk_drew ?_ | refine blk_alloc ?_ _)); exact BK397.out⟩, ⟨by repeat (first | (with_reducible first | exact HB.out | apply below_alloc | apply pw_below_drewN | apply below_drew1 | refine below_set ?_ GE387.out | refine below_set ?_ GE397.out) | exact HB.out)⟩⟩
  case rest =>
   clear HC7
   try clear c1
   try clear c2
   try clear p2
   try clear c3
   try clear c4
   try clear c5
   try clear c10
   try clear c14
   try clear c17
   try clear c17b0
   try clear c17b1
   try clear c17b2
   try clear c18
   try clear c22
   try clear c22b0
   try clear c22b1
   try clear c22b2
   try clear c23
   try clear c25
   try clear c28
   try clear c29
   try clear c30
   try clear c30b0
   try clear c31
   try clear c38
   try clear c38b0
   try clear c38b1
   try clear c39
   try clear c39b0
   try clear c39b1
   try clear c41
   try clear c48
   try clear c53
   try clear c54
   try clear c55
   try clear c56
   try clear hcz10_0
   try clear hcz10_1
   try clear hcz10_2
   try clear hcz10_3
   try clear hcz10_4
   try clear hcz10_5
   try clear hcz15_0
   try clear hcz15_1
   try clear hcz15_2
   try clear hcz15_3
   try clear hcz15_4
   try clear hcz15_5
   try clear hcz19_0
   try clear hcz19_1
   try clear hcz19_2
   try clear hcz19_3
   try clear hcz19_4
   try clear hcz19_5
   try clear hcz24_0
   try clear hcz24_1
   try clear hcz24_2
   try clear hcz24_3
   try clear hcz24_4
   try clear hcz24_5
   try clear hcz26_0
   try clear hcz26_1
   try clear hcz26_2
   try clear hcz26_3
   try clear hcz26_4
   try clear hcz26_5
   try clear hcz32_0
   try clear hcz32_1
   try clear hcz32_2
   try clear hcz32_3
   try clear hcz32_4
   try clear hcz32_5
   try clear hcz34_0
   try clear hcz34_1
   try clear hcz34_2
   try clear hcz34_3
   try clear hcz34_4
   try clear hcz34_5
   try clear hcz36_0
   try clear hcz36_1
   try clear hcz36_2
   try clear hcz36_3
   try clear hcz36_4
   try clear hcz36_5
   try clear hcz37_0
   try clear hcz37_1
   try clear hcz37_2
   try clear hcz37_3
   try clear hcz37_4
   try clear hcz37_5
   try clear hcz42_0
   try clear hcz42_1
   try clear hcz42_2
   try clear hcz42_3
   try clear hcz42_4
   try clear hcz42_5
   try clear hcz44_0
   try clear hcz44_1
   try clear hcz44_2
   try clear hcz44_3
   try clear hcz44_4
   try clear hcz44_5
   try clear hcz46_0
   try clear hcz46_1
   try clear hcz46_2
   try clear hcz46_3
   try clear hcz46_4
   try clear hcz46_5
   try clear hcz47_0
   try clear hcz47_1
   try clear hcz47_2
   try clear hcz47_3
   try clear hcz47_4
   try clear hcz47_5
   try clear hcz49_0
   try clear hcz49_1
   try clear hcz49_2
   try clear hcz49_3
   try clear hcz49_4
   try clear hcz49_5
   try clear hcz51_0
   try clear hcz51_1
   try clear hcz51_2
   try clear hcz51_3
   try clear hcz51_4
   try clear hcz51_5
   try clear hcz54_0
   try clear hcz54_1
   try clear hcz54_2
   try clear hcz54_3
   try clear hcz54_4
   try clear hcz54_5
   try clear hcz56_0
   try clear hcz56_1
   try clear hcz56_2
   try clear hcz56_3
   try clear hcz56_4
   try clear hcz56_5
   try clear hfz10_0
   try clear hfz10_1
   try clear hfz10_2
   try clear hfz10_3
   try clear hfz10_4
   try clear hfz10_5
   try clear hfz15_0
   try clear hfz15_1
   try clear hfz15_2
   try clear hfz15_3
   try clear hfz15_4
   try clear hfz15_5
   try clear hfz19_0
   try clear hfz19_1
   try clear hfz19_2
   try clear hfz19_3
   try clear hfz19_4
   try clear hfz19_5
   try clear hfz24_0
   try clear hfz24_1
   try clear hfz24_2
   try clear hfz24_3
   try clear hfz24_4
   try clear hfz24_5
   try clear hfz26_0
   try clear hfz26_1
   try clear hfz26_2
   try clear hfz26_3
   try clear hfz26_4
   try clear hfz26_5
   try clear hfz32_0
   try clear hfz32_1
   try clear hfz32_2
   try clear hfz32_3
   try clear hfz32_4
   try clear hfz32_5
   try clear hfz34_0
   try clear hfz34_1
   try clear hfz34_2
   try clear hfz34_3
   try clear hfz34_4
   try clear hfz34_5
   try clear hfz36_0
   try clear hfz36_1
   try clear hfz36_2
   try clear hfz36_3
   try clear hfz36_4
   try clear hfz36_5
   try clear hfz37_0
   try clear hfz37_1
   try clear hfz37_2
   try clear hfz37_3
   try clear hfz37_4
   try clear hfz37_5
   try clear hfz42_0
   try clear hfz42_1
   try clear hfz42_2
   try clear hfz42_3
   try clear hfz42_4
   try clear hfz42_5
   try clear hfz44_0
   try clear hfz44_1
   try clear hfz44_2
   try clear hfz44_3
   try clear hfz44_4
   try clear hfz44_5
   try clear hfz46_0
   try clear hfz46_1
   try clear hfz46_2
   try clear hfz46_3
   try clear hfz46_4
   try clear hfz46_5
   try clear hfz47_0
   try clear hfz47_1
   try clear hfz47_2
   try clear hfz47_3
   try clear hfz47_4
   try clear hfz47_5
   try clear hfz49_0
   try clear hfz49_1
   try clear hfz49_2
   try clear hfz49_3
   try clear hfz49_4
   try clear hfz49_5
   try clear hfz51_0
   try clear hfz51_1
   try clear hfz51_2
   try clear hfz51_3
   try clear hfz51_4
   try clear hfz51_5
   try clear hfz54_0
   try clear hfz54_1
   try clear hfz54_2
   try clear hfz54_3
   try clear hfz54_4
   try clear hfz54_5
   try clear hfz56_0
   try clear hfz56_1
   try clear hfz56_2
   try clear hfz56_3
   try clear hfz56_4
   try clear hfz56_5
   obtain ⟨kq, x57_6, rfl, HA, HJ6, BK387, BK397, HB⟩ := hcut
   cases kq with
   | zero => exact absurd HA.out (by simp [laws_FnDgrams.j0])
   | succ kj6 =>
    have H := HA.out
    clear HA
    simp only [laws_FnDgrams.j0] at H
    by_cases c58 : x57_6 = true
    ·subst c58
     rw [if_pos rfl] at H
     exact absurd ((Option.some.inj H).trans hr_.out) (by decide)
    ·replace c58 := Bool.eq_false_iff.mpr c58
     subst c58
     rw [if_neg (show ¬ (false = true) by decide)] at H
     replace H := Option.bind_eq_some_iff.mp H
     obtain ⟨t401, A590, H⟩ := H
     (try dsimp only at H)
     have A59 := Aside0.mk A590
     clear A590
     replace H := Option.bind_eq_some_iff.mp H
     obtain ⟨⟨t402, t403, t404, t405, t406, t407, t408⟩, A600, H⟩ := H
     (try dsimp only at H)
     have A60 := Aside0.mk A600
     clear A600
     replace H := Option.bind_eq_some_iff.mp H
     obtain ⟨⟨t410, t411, t412, t413, t414, t415, t416⟩, A610, H⟩ := H
     (try dsimp only at H)
     have A61 := Aside0.mk A610
     clear A610
     replace H := Option.bind_eq_some_iff.mp H
     obtain ⟨⟨t418, t419⟩, A620, H⟩ := H
     (try dsimp only at H)
     have A62 := Aside0.mk A620
     clear A620
     replace H := Option.bind_eq_some_iff.mp H
     obtain ⟨t420, A630, H⟩ := H
     (try dsimp only at H)
     have A63 := Aside0.mk A630
     clear A630
     by_cases c64 : (t408 == t416) = true
     ·rw [if_pos c64] at H
      have c64b0 : (t408 == t416) = true := c64
      (try (have c64b1 : decide (t408 = t416) = true := by simpa using c64))
      (try (have c64b2 : (t408 == t416) = true := by simpa using c64))
      clear c64
      by_cases c65 : t408 = true
      ·subst c65
       rw [if_pos rfl] at H
       by_cases c66 : t418.toList = t401.toList
       ·rw [if_pos c66] at H
        have c66b0 : (t418.toList == t401.toList) = true := beq_iff_eq.mpr c66
        have c66b1 : (t418.toList != t401.toList) = false := bne_eq_false_iff_eq.mpr c66
        clear c66
        replace H := Option.bind_eq_some_iff.mp H
        obtain ⟨t421, A670, H⟩ := H
        (try dsimp only at H)
        have A67 := Aside0.mk A670
        clear A670
        replace H := Option.bind_eq_some_iff.mp H
        obtain ⟨t422, A680, H⟩ := H
        (try dsimp only at H)
        have A68 := Aside0.mk A680
        clear A680
        by_cases c69 : t421 = t422
        ·rw [if_pos c69] at H
         have c69b0 : (t421 == t422) = true := beq_iff_eq.mpr c69
         have c69b1 : (t421 != t422) = false := bne_eq_false_iff_eq.mpr c69
         clear c69
         replace H := Option.bind_eq_some_iff.mp H
         obtain ⟨t423, A700, H⟩ := H
         (try dsimp only at H)
         have A70 := Aside0.mk A700
         clear A700
         obtain rfl := Option.some.inj H
         go_wp2_with (first | ((with_reducible refine gate_callee (f := 59) rfl ?_); refine goesL_ (some 59) rfl rfl Try.func59 B9x18_ rfl #[.slice A0 l0.length c0] rfl B9x3_ ?_; (with_reducible refine (spec_DrawReadDgram.calls kj6 _ _ l0 t401 _ ?side1 ?side2 A59.out).mono ?_); (case side1 => repeat (first | exact (Kd.C_below HR0.out HB.out) | (with_reducible refine Kd.C_alloc ?_ _) | (with_reducible refine Kd.C_drewN ?_ _) | (with_reducible refine Kd.C_drew ?_))); (case side2 => exact HC0.out); rintro e w71 ⟨rfl, hb⟩; refine ⟨_, rfl, ?_⟩; have n0_ := Aside0.mk (blk_below (g := gb387) (o := .cells #[.int .i64 t381, .int .i64 t382, .int .i64 t383, .int .i64 t384, .bool t385, .string t386] 85 (0, 0)) B9x4_ hb); have n1_ := Aside0.mk (blk_below (g := gb397) (o := .cells #[.int .i64 t390, .int .i64 t391, .int .i64 t392, .int .i64 t393, .bool t394, .string t395] 85 (0, 0)) B9x5_ hb); have n2_ := Aside0.mk (below_step B9x2_ hb); clear BK387; clear BK397; clear HB; have BK387 := n0_; have BK397 := n1_; have HB := n2_; clear n0_ n1_ n2_; (try clear hb); (try clear hb2); (try clear hk); (try clear hi)) | ((with_reducible refine gate_callee (f := 55) rfl ?_); refine goesL_ (some 62) rfl rfl Try.func55 B9x18_ rfl #[.string t401] rfl B9x3_ ?_; (with_reducible refine (impl_ReadDgram.calls kj6 t401 t402 t403 t404 t405 t406 t407 true _ A60.out).mono ?_); rintro e w72 ⟨rfl, hb⟩; refine ⟨_, rfl, ?_⟩; have n0_ := Aside0.mk (blk_below (g := gb387) (o := .cells #[.int .i64 t381, .int .i64 t382, .int .i64 t383, .int .i64 t384, .bool t385, .string t386] 85 (0, 0)) B9x4_ hb); have n1_ := Aside0.mk (blk_below (g := gb397) (o := .cells #[.int .i64 t390, .int .i64 t391, .int .i64 t392, .int .i64 t393, .bool t394, .string t395] 85 (0, 0)) B9x5_ hb); have n2_ := Aside0.mk (below_step B9x2_ hb); clear BK387; clear BK397; clear HB; have BK387 := n0_; have BK397 := n1_; have HB := n2_; clear n0_ n1_ n2_; (try clear hb); (try clear hb2); (try clear hk); (try clear hi)) | ((with_reducible refine gate_dst (N := 9) rfl ?_); refine box_event ?hg (N := 9) ?hd (cs := #[.int .i64 0, .int .i64 0, .int .i64 0, .int .i64 0, .bool false, .string (⟨#[]⟩ : ByteArray)]) (t := 85) ?hr ?_; (case hd => rfl); (case hg => rfl); (case hr => first | (go_simp; done) | (go_simp; rfl)); intro gb409 hg w73 hbox hb; have n0_ := Aside0.mk (blk_below (g := gb387) (o := .cells #[.int .i64 t381, .int .i64 t382, .int .i64 t383, .int .i64 t384, .bool t385, .string t386] 85 (0, 0)) B9x4_ hb); have n1_ := Aside0.mk (blk_below (g := gb397) (o := .cells #[.int .i64 t390, .int .i64 t391, .int .i64 t392, .int .i64 t393, .bool t394, .string t395] 85 (0, 0)) B9x5_ hb); have n2_ := Aside0.mk (below_step B9x2_ hb); have n3_ := Aside0.mk (hbox); have n4_ := Aside0.mk ((by rw [hg]; exact (below_size B9x2_) : w.heap.size ≤ gb409)); have n5_ := Aside0.mk ((by rw [hg]; exact (below_size B9x2_) : w.heap.size ≤ gb409)); have n6_ := Aside0.mk ((by rw [hg]; exact Nat.ne_of_lt (blk_lt (g := gb387) (o := .cells #[.int .i64 t381, .int .i64 t382, .int .i64 t383, .int .i64 t384, .bool t385, .string t386] 85 (0, 0)) B9x4_) : gb387 ≠ gb409)); have n7_ := Aside0.mk ((by rw [hg]; exact Nat.ne_of_gt (blk_lt (g := gb387) (o := .cells #[.int .i64 t381, .int .i64 t382, .int .i64 t383, .int .i64 t384, .bool t385, .string t386] 85 (0, 0)) B9x4_) : gb409 ≠ gb387)); have n8_ := Aside0.mk ((by rw [hg]; exact Nat.ne_of_lt (blk_lt (g := gb397) (o := .cells #[.int .i64 t390, .int .i64 t391, .int .i64 t392, .int .i64 t393, .bool t394, .string t395] 85 (0, 0)) B9x5_) : gb397 ≠ gb409)); have n9_ := Aside0.mk ((by rw [hg]; exact Nat.ne_of_gt (blk_lt (g := gb397) (o := .cells #[.int .i64 t390, .int .i64 t391, .int .i64 t392, .int .i64 t393, .bool t394, .string t395] 85 (0, 0)) B9x5_) : gb409 ≠ gb397)); clear BK387; clear BK397; clear HB; have BK387 := n0_; have BK397 := n1_; have HB := n2_; have BK409 := n3_; have GW409 := n4_; have GE409 := n5_; have NB387_409 := n6_; have NB409_387 := n7_; have NB397_409 := n8_; have NB409_397 := n9_; clear n0_ n1_ n2_ n3_ n4_ n5_ n6_ n7_ n8_ n9_; clear hb hbox hg; have hnb74 := NB409_387.out; have hnc74 := NB387_409.out; have hnb75 := NB409_397.out; have hnc75 := NB397_409.out; obtain ⟨hcz76_0, hcz76_1, hcz76_2, hcz76_3, hcz76_4, hcz76_5⟩ := cl6 BK409.out; obtain ⟨hfz76_0, hfz76_1, hfz76_2, hfz76_3, hfz76_4, hfz76_5⟩ := fr6 BK409.out) | ((with_reducible refine gate_callee (f := 60) rfl ?_); refine goesL_ (some 67) rfl rfl Try.func60 B9x18_ rfl #[.string t401] rfl B9x3_ ?_; (with_reducible refine (spec_ReadDgram.calls kj6 t401 t410 t411 t412 t413 t414 t415 t416 _ A61.out).mono ?_); rintro e w77 ⟨rfl, hb⟩; refine ⟨_, rfl, ?_⟩; have n0_ := Aside0.mk (blk_below (g := gb387) (o := .cells #[.int .i64 t381, .int .i64 t382, .int .i64 t383, .int .i64 t384, .bool t385, .string t386] 85 (0, 0)) B9x9_ hb); have n1_ := Aside0.mk (blk_below (g := gb397) (o := .cells #[.int .i64 t390, .int .i64 t391, .int .i64 t392, .int .i64 t393, .bool t394, .string t395] 85 (0, 0)) B9x11_ hb); have n2_ := Aside0.mk (blk_below (g := gb409) (o := .cells #[.int .i64 t402, .int .i64 t403, .int .i64 t404, .int .i64 t405, .bool t406, .string t407] 85 (0, 0)) B9x7_ hb); have n3_ := Aside0.mk (below_step B9x6_ hb); clear BK387; clear BK397; clear BK409; clear HB; have BK387 := n0_; have BK397 := n1_; have BK409 := n2_; have HB := n3_; clear n0_ n1_ n2_ n3_; (try clear hb); (try clear hb2); (try clear hk); (try clear hi)) | ((with_reducible refine gate_dst (N := 11) rfl ?_); refine box_event ?hg (N := 11) ?hd (cs := #[.int .i64 0, .int .i64 0, .int .i64 0, .int .i64 0, .bool false, .string (⟨#[]⟩ : ByteArray)]) (t := 85) ?hr ?_; (case hd => rfl); (case hg => rfl); (case hr => first | (go_simp; done) | (go_simp; rfl)); intro gb417 hg w78 hbox hb; have n0_ := Aside0.mk (blk_below (g := gb387) (o := .cells #[.int .i64 t381, .int .i64 t382, .int .i64 t383, .int .i64 t384, .bool t385, .string t386] 85 (0, 0)) B9x4_ hb); have n1_ := Aside0.mk (blk_below (g := gb397) (o := .cells #[.int .i64 t390, .int .i64 t391, .int .i64 t392, .int .i64 t393, .bool t394, .string t395] 85 (0, 0)) B9x5_ hb); have n2_ := Aside0.mk (blk_below (g := gb409) (o := .cells #[.int .i64 t402, .int .i64 t403, .int .i64 t404, .int .i64 t405, .bool t406, .string t407] 85 (0, 0)) B9x14_ hb); have n3_ := Aside0.mk (below_step B9x6_ hb); have n4_ := Aside0.mk (hbox); have n5_ := Aside0.mk ((by rw [hg]; exact (below_size B9x6_) : w.heap.size ≤ gb417)); have n6_ := Aside0.mk ((by rw [hg]; exact (below_size B9x6_) : w.heap.size ≤ gb417)); have n7_ := Aside0.mk ((by rw [hg]; exact Nat.ne_of_lt (blk_lt (g := gb387) (o := .cells #[.int .i64 t381, .int .i64 t382, .int .i64 t383, .int .i64 t384, .bool t385, .string t386] 85 (0, 0)) B9x4_) : gb387 ≠ gb417)); have n8_ := Aside0.mk ((by rw [hg]; exact Nat.ne_of_gt (blk_lt (g := gb387) (o := .cells #[.int .i64 t381, .int .i64 t382, .int .i64 t383, .int .i64 t384, .bool t385, .string t386] 85 (0, 0)) B9x4_) : gb417 ≠ gb387)); have n9_ := Aside0.mk ((by rw [hg]; exact Nat.ne_of_lt (blk_lt (g := gb397) (o := .cells #[.int .i64 t390, .int .i64 t391, .int .i64 t392, .int .i64 t393, .bool t394, .string t395] 85 (0, 0)) B9x5_) : gb397 ≠ gb417)); have n10_ := Aside0.mk ((by rw [hg]; exact Nat.ne_of_gt (blk_lt (g := gb397) (o := .cells #[.int .i64 t390, .int .i64 t391, .int .i64 t392, .int .i64 t393, .bool t394, .string t395] 85 (0, 0)) B9x5_) : gb417 ≠ gb397)); have n11_ := Aside0.mk ((by rw [hg]; exact Nat.ne_of_lt (blk_lt (g := gb409) (o := .cells #[.int .i64 t402, .int .i64 t403, .int .i64 t404, .int .i64 t405, .bool t406, .string t407] 85 (0, 0)) B9x14_) : gb409 ≠ gb417)); have n12_ := Aside0.mk ((by rw [hg]; exact Nat.ne_of_gt (blk_lt (g := gb409) (o := .cells #[.int .i64 t402, .int .i64 t403, .int .i64 t404, .int .i64 t405, .bool t406, .string t407] 85 (0, 0)) B9x14_) : gb417 ≠ gb409)); clear BK387; clear BK397; clear BK409; clear HB; have BK387 := n0_; have BK397 := n1_; have BK409 := n2_; have HB := n3_; have BK417 := n4_; have GW417 := n5_; have GE417 := n6_; have NB387_417 := n7_; have NB417_387 := n8_; have NB397_417 := n9_; have NB417_397 := n10_; have NB409_417 := n11_; have NB417_409 := n12_; clear n0_ n1_ n2_ n3_ n4_ n5_ n6_ n7_ n8_ n9_ n10_ n11_ n12_; clear hb hbox hg; have hnb79 := NB417_387.out; have hnc79 := NB387_417.out; have hnb80 := NB417_397.out; have hnc80 := NB397_417.out; have hnb81 := NB417_409.out; have hnc81 := NB409_417.out; obtain ⟨hcz82_0, hcz82_1, hcz82_2, hcz82_3, hcz82_4, hcz82_5⟩ := cl6 BK417.out; obtain ⟨hfz82_0, hfz82_1, hfz82_2, hfz82_3, hfz82_4, hfz82_5⟩ := fr6 BK417.out; obtain ⟨hcz83_0, hcz83_1, hcz83_2, hcz83_3, hcz83_4, hcz83_5⟩ := cl6 BK409.out; obtain ⟨hfz83_0, hfz83_1, hfz83_2, hfz83_3, hfz83_4, hfz83_5⟩ := fr6 BK409.out) | ((with_reducible refine gate_callee (f := 54) rfl ?_); refine goesL_ (some 72) rfl rfl Try.func54 B9x18_ rfl #[.agg #[.int .i64 t402, .int .i64 t403, .int .i64 t404, .int .i64 t405, .bool t406, .string t407]] rfl B9x3_ ?_; (with_reducible refine (impl_DgramText.calls kj6 t402 t403 t404 t405 t406 t407 t418 t419 _ A62.out).mono ?_); rintro e w84 ⟨rfl, hb⟩; refine ⟨_, rfl, ?_⟩; have n0_ := Aside0.mk (blk_below (g := gb387) (o := .cells #[.int .i64 t381, .int .i64 t382, .int .i64 t383, .int .i64 t384, .bool t385, .string t386] 85 (0, 0)) B9x10_ hb); have n1_ := Aside0.mk (blk_below (g := gb397) (o := .cells #[.int .i64 t390, .int .i64 t391, .int .i64 t392, .int .i64 t393, .bool t394, .string t395] 85 (0, 0)) B9x12_ hb); have n2_ := Aside0.mk (blk_below (g := gb409) (o := .cells #[.int .i64 t402, .int .i64 t403, .int .i64 t404, .int .i64 t405, .bool t406, .string t407] 85 (0, 0)) B9x13_ hb); have n3_ := Aside0.mk (blk_below (g := gb417) (o := .cells #[.int .i64 t410, .int .i64 t411, .int .i64 t412, .int .i64 t413, .bool t414, .string t415] 85 (0, 0)) B9x8_ hb); have n4_ := Aside0.mk (below_step B9x15_ hb); clear BK387; clear BK397; clear BK409; clear BK417; clear HB; have BK387 := n0_; have BK397 := n1_; have BK409 := n2_; have BK417 := n3_; have HB := n4_; clear n0_ n1_ n2_ n3_ n4_; (try clear hb); (try clear hb2); (try clear hk); (try clear hi)) | ((with_reducible refine gate_callee (f := 61) rfl ?_); refine goesL_ (some 76) rfl rfl Try.func61 B9x18_ rfl #[.slice A0 l0.length c0] rfl B9x3_ ?_; (with_reducible refine (spec_DrawSumOnes.calls kj6 _ _ l0 t420 _ ?side1 ?side2 A63.out).mono ?_); (case side1 => repeat (first | exact (Kd.C_below HR0.out HB.out) | (with_reducible refine Kd.C_alloc ?_ _) | (with_reducible refine Kd.C_drewN ?_ _) | (with_reducible refine Kd.C_drew ?_))); (case side2 => exact HC0.out); rintro e w85 ⟨rfl, hb⟩; refine ⟨_, rfl, ?_⟩; have n0_ := Aside0.mk (blk_below (g := gb387) (o := .cells #[.int .i64 t381, .int .i64 t382, .int .i64 t383, .int .i64 t384, .bool t385, .string t386] 85 (0, 0)) B9x4_ hb); have n1_ := Aside0.mk (blk_below (g := gb397) (o := .cells #[.int .i64 t390, .int .i64 t391, .int .i64 t392, .int .i64 t393, .bool t394, .string t395] 85 (0, 0)) B9x5_ hb); have n2_ := Aside0.mk (blk_below (g := gb409) (o := .cells #[.int .i64 t402, .int .i64 t403, .int .i64 t404, .int .i64 t405, .bool t406, .string t407] 85 (0, 0)) B9x14_ hb); have n3_ := Aside0.mk (blk_below (g := gb417) (o := .cells #[.int .i64 t410, .int .i64 t411, .int .i64 t412, .int .i64 t413, .bool t414, .string t415] 85 (0, 0)) B9x19_ hb); have n4_ := Aside0.mk (below_step B9x15_ hb); clear BK387; clear BK397; clear BK409; clear BK417; clear HB; have BK387 := n0_; have BK397 := n1_; have BK409 := n2_; have BK417 := n3_; have HB := n4_; clear n0_ n1_ n2_ n3_ n4_; (try clear hb); (try clear hb2); (try clear hk); (try clear hi)) | (go_at_call 58; (with_reducible refine (impl_SumOnes.calls kj6 t420 t421 _ A67.out).mono ?_); rintro e w' ⟨rfl, ⟨nd, rfl⟩⟩) | (go_at_call 62; (with_reducible refine (spec_SumOnes.calls kj6 t420 t422 _ A68.out).mono ?_); rintro e w' ⟨rfl, ⟨nd, rfl⟩⟩) | (go_at_call 58; (with_reducible refine (impl_SumOnes.calls kj6 (⟨#[]⟩ : ByteArray) t423 _ A70.out).mono ?_); rintro e w' ⟨rfl, ⟨nd, rfl⟩⟩))
         go_ret
         exact ⟨by first | rfl | (simp [errW_none, errW_some] <;> rfl) | (simp [*, errW_none, errW_some] <;> rfl), by repeat (first | (with_reducible first | exact HB.out | apply below_alloc | apply pw_below_drewN | apply below_drew1 | refine below_set ?_ GE387.out | refine below_set ?_ GE397.out | refine below_set ?_ GE409.out | refine below_set ?_ GE417.out) | exact HB.out)⟩
        ·rw [if_neg c69] at H
         have c69b0 : (t421 == t422) = false := beq_eq_false_iff_ne.mpr c69
         have c69b1 : (t421 != t422) = true := bne_iff_ne.mpr c69
         exact absurd ((Option.some.inj H).trans hr_.out) (by decide)
       ·rw [if_neg c66] at H
        have c66b0 : (t418.toList == t401.toList) = false := beq_eq_false_iff_ne.mpr c66
        have c66b1 : (t418.toList != t401.toList) = true := bne_iff_ne.mpr c66
        exact absurd ((Option.some.inj H).trans hr_.out) (by decide)
      ·replace c65 := Bool.eq_false_iff.mpr c65
       subst c65
       rw [if_neg (show ¬ (false = true) by decide)] at H
       replace H := Option.bind_eq_some_iff.mp H
       obtain ⟨t424, A860, H⟩ := H
       (try dsimp only at H)
       have A86 := Aside0.mk A860
       clear A860
       replace H := Option.bind_eq_some_iff.mp H
       obtain ⟨t425, A870, H⟩ := H
       (try dsimp only at H)
       have A87 := Aside0.mk A870
       clear A870
       by_cases c88 : t424 = t425
       ·rw [if_pos c88] at H
        have c88b0 : (t424 == t425) = true := beq_iff_eq.mpr c88
        have c88b1 : (t424 != t425) = false := bne_eq_false_iff_eq.mpr c88
        clear c88
        replace H := Option.bind_eq_some_iff.mp H
        obtain ⟨t426, A890, H⟩ := H
        (try dsimp only at H)
        have A89 := Aside0.mk A890
        clear A890
        obtain rfl := Option.some.inj H
        go_wp2_with (first | ((with_reducible refine gate_callee (f := 59) rfl ?_); refine goesL_ (some 59) rfl rfl Try.func59 B9x18_ rfl #[.slice A0 l0.length c0] rfl B9x3_ ?_; (with_reducible refine (spec_DrawReadDgram.calls kj6 _ _ l0 t401 _ ?side1 ?side2 A59.out).mono ?_); (case side1 => repeat (first | exact (Kd.C_below HR0.out HB.out) | (with_reducible refine Kd.C_alloc ?_ _) | (with_reducible refine Kd.C_drewN ?_ _) | (with_reducible refine Kd.C_drew ?_))); (case side2 => exact HC0.out); rintro e w90 ⟨rfl, hb⟩; refine ⟨_, rfl, ?_⟩; have n0_ := Aside0.mk (blk_below (g := gb387) (o := .cells #[.int .i64 t381, .int .i64 t382, .int .i64 t383, .int .i64 t384, .bool t385, .string t386] 85 (0, 0)) B9x4_ hb); have n1_ := Aside0.mk (blk_below (g := gb397) (o := .cells #[.int .i64 t390, .int .i64 t391, .int .i64 t392, .int .i64 t393, .bool t394, .string t395] 85 (0, 0)) B9x5_ hb); have n2_ := Aside0.mk (below_step B9x2_ hb); clear BK387; clear BK397; clear HB; have BK387 := n0_; have BK397 := n1_; have HB := n2_; clear n0_ n1_ n2_; (try clear hb); (try clear hb2); (try clear hk); (try clear hi)) | ((with_reducible refine gate_callee (f := 55) rfl ?_); refine goesL_ (some 62) rfl rfl Try.func55 B9x18_ rfl #[.string t401] rfl B9x3_ ?_; (with_reducible refine (impl_ReadDgram.calls kj6 t401 t402 t403 t404 t405 t406 t407 false _ A60.out).mono ?_); rintro e w91 ⟨rfl, hb⟩; refine ⟨_, rfl, ?_⟩; have n0_ := Aside0.mk (blk_below (g := gb387) (o := .cells #[.int .i64 t381, .int .i64 t382, .int .i64 t383, .int .i64 t384, .bool t385, .string t386] 85 (0, 0)) B9x4_ hb); have n1_ := Aside0.mk (blk_below (g := gb397) (o := .cells #[.int .i64 t390, .int .i64 t391, .int .i64 t392, .int .i64 t393, .bool t394, .string t395] 85 (0, 0)) B9x5_ hb); have n2_ := Aside0.mk (below_step B9x2_ hb); clear BK387; clear BK397; clear HB; have BK387 := n0_; have BK397 := n1_; have HB := n2_; clear n0_ n1_ n2_; (try clear hb); (try clear hb2); (try clear hk); (try clear hi)) | ((with_reducible refine gate_dst (N := 9) rfl ?_); refine box_event ?hg (N := 9) ?hd (cs := #[.int .i64 0, .int .i64 0, .int .i64 0, .int .i64 0, .bool false, .string (⟨#[]⟩ : ByteArray)]) (t := 85) ?hr ?_; (case hd => rfl); (case hg => rfl); (case hr => first | (go_simp; done) | (go_simp; rfl)); intro gb409 hg w92 hbox hb; have n0_ := Aside0.mk (blk_below (g := gb387) (o := .cells #[.int .i64 t381, .int .i64 t382, .int .i64 t383, .int .i64 t384, .bool t385, .string t386] 85 (0, 0)) B9x4_ hb); have n1_ := Aside0.mk (blk_below (g := gb397) (o := .cells #[.int .i64 t390, .int .i64 t391, .int .i64 t392, .int .i64 t393, .bool t394, .string t395] 85 (0, 0)) B9x5_ hb); have n2_ := Aside0.mk (below_step B9x2_ hb); have n3_ := Aside0.mk (hbox); have n4_ := Aside0.mk ((by rw [hg]; exact (below_size B9x2_) : w.heap.size ≤ gb409)); have n5_ := Aside0.mk ((by rw [hg]; exact (below_size B9x2_) : w.heap.size ≤ gb409)); have n6_ := Aside0.mk ((by rw [hg]; exact Nat.ne_of_lt (blk_lt (g := gb387) (o := .cells #[.int .i64 t381, .int .i64 t382, .int .i64 t383, .int .i64 t384, .bool t385, .string t386] 85 (0, 0)) B9x4_) : gb387 ≠ gb409)); have n7_ := Aside0.mk ((by rw [hg]; exact Nat.ne_of_gt (blk_lt (g := gb387) (o := .cells #[.int .i64 t381, .int .i64 t382, .int .i64 t383, .int .i64 t384, .bool t385, .string t386] 85 (0, 0)) B9x4_) : gb409 ≠ gb387)); have n8_ := Aside0.mk ((by rw [hg]; exact Nat.ne_of_lt (blk_lt (g := gb397) (o := .cells #[.int .i64 t390, .int .i64 t391, .int .i64 t392, .int .i64 t393, .bool t394, .string t395] 85 (0, 0)) B9x5_) : gb397 ≠ gb409)); have n9_ := Aside0.mk ((by rw [hg]; exact Nat.ne_of_gt (blk_lt (g := gb397) (o := .cells #[.int .i64 t390, .int .i64 t391, .int .i64 t392, .int .i64 t393, .bool t394, .string t395] 85 (0, 0)) B9x5_) : gb409 ≠ gb397)); clear BK387; clear BK397; clear HB; have BK387 := n0_; have BK397 := n1_; have HB := n2_; have BK409 := n3_; have GW409 := n4_; have GE409 := n5_; have NB387_409 := n6_; have NB409_387 := n7_; have NB397_409 := n8_; have NB409_397 := n9_; clear n0_ n1_ n2_ n3_ n4_ n5_ n6_ n7_ n8_ n9_; clear hb hbox hg; have hnb93 := NB409_387.out; have hnc93 := NB387_409.out; have hnb94 := NB409_397.out; have hnc94 := NB397_409.out; obtain ⟨hcz95_0, hcz95_1, hcz95_2, hcz95_3, hcz95_4, hcz95_5⟩ := cl6 BK409.out; obtain ⟨hfz95_0, hfz95_1, hfz95_2, hfz95_3, hfz95_4, hfz95_5⟩ := fr6 BK409.out) | ((with_reducible refine gate_callee (f := 60) rfl ?_); refine goesL_ (some 67) rfl rfl Try.func60 B9x18_ rfl #[.string t401] rfl B9x3_ ?_; (with_reducible refine (spec_ReadDgram.calls kj6 t401 t410 t411 t412 t413 t414 t415 t416 _ A61.out).mono ?_); rintro e w96 ⟨rfl, hb⟩; refine ⟨_, rfl, ?_⟩; have n0_ := Aside0.mk (blk_below (g := gb387) (o := .cells #[.int .i64 t381, .int .i64 t382, .int .i64 t383, .int .i64 t384, .bool t385, .string t386] 85 (0, 0)) B9x9_ hb); have n1_ := Aside0.mk (blk_below (g := gb397) (o := .cells #[.int .i64 t390, .int .i64 t391, .int .i64 t392, .int .i64 t393, .bool t394, .string t395] 85 (0, 0)) B9x11_ hb); have n2_ := Aside0.mk (blk_below (g := gb409) (o := .cells #[.int .i64 t402, .int .i64 t403, .int .i64 t404, .int .i64 t405, .bool t406, .string t407] 85 (0, 0)) B9x7_ hb); have n3_ := Aside0.mk (below_step B9x6_ hb); clear BK387; clear BK397; clear BK409; clear HB; have BK387 := n0_; have BK397 := n1_; have BK409 := n2_; have HB := n3_; clear n0_ n1_ n2_ n3_; (try clear hb); (try clear hb2); (try clear hk); (try clear hi)) | ((with_reducible refine gate_dst (N := 11) rfl ?_); refine box_event ?hg (N := 11) ?hd (cs := #[.int .i64 0, .int .i64 0, .int .i64 0, .int .i64 0, .bool false, .string (⟨#[]⟩ : ByteArray)]) (t := 85) ?hr ?_; (case hd => rfl); (case hg => rfl); (case hr => first | (go_simp; done) | (go_simp; rfl)); intro gb417 hg w97 hbox hb; have n0_ := Aside0.mk (blk_below (g := gb387) (o := .cells #[.int .i64 t381, .int .i64 t382, .int .i64 t383, .int .i64 t384, .bool t385, .string t386] 85 (0, 0)) B9x4_ hb); have n1_ := Aside0.mk (blk_below (g := gb397) (o := .cells #[.int .i64 t390, .int .i64 t391, .int .i64 t392, .int .i64 t393, .bool t394, .string t395] 85 (0, 0)) B9x5_ hb); have n2_ := Aside0.mk (blk_below (g := gb409) (o := .cells #[.int .i64 t402, .int .i64 t403, .int .i64 t404, .int .i64 t405, .bool t406, .string t407] 85 (0, 0)) B9x14_ hb); have n3_ := Aside0.mk (below_step B9x6_ hb); have n4_ := Aside0.mk (hbox); have n5_ := Aside0.mk ((by rw [hg]; exact (below_size B9x6_) : w.heap.size ≤ gb417)); have n6_ := Aside0.mk ((by rw [hg]; exact (below_size B9x6_) : w.heap.size ≤ gb417)); have n7_ := Aside0.mk ((by rw [hg]; exact Nat.ne_of_lt (blk_lt (g := gb387) (o := .cells #[.int .i64 t381, .int .i64 t382, .int .i64 t383, .int .i64 t384, .bool t385, .string t386] 85 (0, 0)) B9x4_) : gb387 ≠ gb417)); have n8_ := Aside0.mk ((by rw [hg]; exact Nat.ne_of_gt (blk_lt (g := gb387) (o := .cells #[.int .i64 t381, .int .i64 t382, .int .i64 t383, .int .i64 t384, .bool t385, .string t386] 85 (0, 0)) B9x4_) : gb417 ≠ gb387)); have n9_ := Aside0.mk ((by rw [hg]; exact Nat.ne_of_lt (blk_lt (g := gb397) (o := .cells #[.int .i64 t390, .int .i64 t391, .int .i64 t392, .int .i64 t393, .bool t394, .string t395] 85 (0, 0)) B9x5_) : gb397 ≠ gb417)); have n10_ := Aside0.mk ((by rw [hg]; exact Nat.ne_of_gt (blk_lt (g := gb397) (o := .cells #[.int .i64 t390, .int .i64 t391, .int .i64 t392, .int .i64 t393, .bool t394, .string t395] 85 (0, 0)) B9x5_) : gb417 ≠ gb397)); have n11_ := Aside0.mk ((by rw [hg]; exact Nat.ne_of_lt (blk_lt (g := gb409) (o := .cells #[.int .i64 t402, .int .i64 t403, .int .i64 t404, .int .i64 t405, .bool t406, .string t407] 85 (0, 0)) B9x14_) : gb409 ≠ gb417)); have n12_ := Aside0.mk ((by rw [hg]; exact Nat.ne_of_gt (blk_lt (g := gb409) (o := .cells #[.int .i64 t402, .int .i64 t403, .int .i64 t404, .int .i64 t405, .bool t406, .string t407] 85 (0, 0)) B9x14_) : gb417 ≠ gb409)); clear BK387; clear BK397; clear BK409; clear HB; have BK387 := n0_; have BK397 := n1_; have BK409 := n2_; have HB := n3_; have BK417 := n4_; have GW417 := n5_; have GE417 := n6_; have NB387_417 := n7_; have NB417_387 := n8_; have NB397_417 := n9_; have NB417_397 := n10_; have NB409_417 := n11_; have NB417_409 := n12_; clear n0_ n1_ n2_ n3_ n4_ n5_ n6_ n7_ n8_ n9_ n10_ n11_ n12_; clear hb hbox hg; have hnb98 := NB417_387.out; have hnc98 := NB387_417.out; have hnb99 := NB417_397.out; have hnc99 := NB397_417.out; have hnb100 := NB417_409.out; have hnc100 := NB409_417.out; obtain ⟨hcz101_0, hcz101_1, hcz101_2, hcz101_3, hcz101_4, hcz101_5⟩ := cl6 BK417.out; obtain ⟨hfz101_0, hfz101_1, hfz101_2, hfz101_3, hfz101_4, hfz101_5⟩ := fr6 BK417.out; obtain ⟨hcz102_0, hcz102_1, hcz102_2, hcz102_3, hcz102_4, hcz102_5⟩ := cl6 BK409.out; obtain ⟨hfz102_0, hfz102_1, hfz102_2, hfz102_3, hfz102_4, hfz102_5⟩ := fr6 BK409.out) | ((with_reducible refine gate_callee (f := 54) rfl ?_); refine goesL_ (some 72) rfl rfl Try.func54 B9x18_ rfl #[.agg #[.int .i64 t402, .int .i64 t403, .int .i64 t404, .int .i64 t405, .bool t406, .string t407]] rfl B9x3_ ?_; (with_reducible refine (impl_DgramText.calls kj6 t402 t403 t404 t405 t406 t407 t418 t419 _ A62.out).mono ?_); rintro e w103 ⟨rfl, hb⟩; refine ⟨_, rfl, ?_⟩; have n0_ := Aside0.mk (blk_below (g := gb387) (o := .cells #[.int .i64 t381, .int .i64 t382, .int .i64 t383, .int .i64 t384, .bool t385, .string t386] 85 (0, 0)) B9x10_ hb); have n1_ := Aside0.mk (blk_below (g := gb397) (o := .cells #[.int .i64 t390, .int .i64 t391, .int .i64 t392, .int .i64 t393, .bool t394, .string t395] 85 (0, 0)) B9x12_ hb); have n2_ := Aside0.mk (blk_below (g := gb409) (o := .cells #[.int .i64 t402, .int .i64 t403, .int .i64 t404, .int .i64 t405, .bool t406, .string t407] 85 (0, 0)) B9x13_ hb); have n3_ := Aside0.mk (blk_below (g := gb417) (o := .cells #[.int .i64 t410, .int .i64 t411, .int .i64 t412, .int .i64 t413, .bool t414, .string t415] 85 (0, 0)) B9x8_ hb); have n4_ := Aside0.mk (below_step B9x15_ hb); clear BK387; clear BK397; clear BK409; clear BK417; clear HB; have BK387 := n0_; have BK397 := n1_; have BK409 := n2_; have BK417 := n3_; have HB := n4_; clear n0_ n1_ n2_ n3_ n4_; (try clear hb); (try clear hb2); (try clear hk); (try clear hi)) | ((with_reducible refine gate_callee (f := 61) rfl ?_); refine goesL_ (some 76) rfl rfl Try.func61 B9x18_ rfl #[.slice A0 l0.length c0] rfl B9x3_ ?_; (with_reducible refine (spec_DrawSumOnes.calls kj6 _ _ l0 t420 _ ?side1 ?side2 A63.out).mono ?_); (case side1 => repeat (first | exact (Kd.C_below HR0.out HB.out) | (with_reducible refine Kd.C_alloc ?_ _) | (with_reducible refine Kd.C_drewN ?_ _) | (with_reducible refine Kd.C_drew ?_))); (case side2 => exact HC0.out); rintro e w104 ⟨rfl, hb⟩; refine ⟨_, rfl, ?_⟩; have n0_ := Aside0.mk (blk_below (g := gb387) (o := .cells #[.int .i64 t381, .int .i64 t382, .int .i64 t383, .int .i64 t384, .bool t385, .string t386] 85 (0, 0)) B9x4_ hb); have n1_ := Aside0.mk (blk_below (g := gb397) (o := .cells #[.int .i64 t390, .int .i64 t391, .int .i64 t392, .int .i64 t393, .bool t394, .string t395] 85 (0, 0)) B9x5_ hb); have n2_ := Aside0.mk (blk_below (g := gb409) (o := .cells #[.int .i64 t402, .int .i64 t403, .int .i64 t404, .int .i64 t405, .bool t406, .string t407] 85 (0, 0)) B9x14_ hb); have n3_ := Aside0.mk (blk_below (g := gb417) (o := .cells #[.int .i64 t410, .int .i64 t411, .int .i64 t412, .int .i64 t413, .bool t414, .string t415] 85 (0, 0)) B9x19_ hb); have n4_ := Aside0.mk (below_step B9x15_ hb); clear BK387; clear BK397; clear BK409; clear BK417; clear HB; have BK387 := n0_; have BK397 := n1_; have BK409 := n2_; have BK417 := n3_; have HB := n4_; clear n0_ n1_ n2_ n3_ n4_; (try clear hb); (try clear hb2); (try clear hk); (try clear hi)) | (go_at_call 58; (with_reducible refine (impl_SumOnes.calls kj6 t420 t424 _ A86.out).mono ?_); rintro e w' ⟨rfl, ⟨nd, rfl⟩⟩) | (go_at_call 62; (with_reducible refine (spec_SumOnes.calls kj6 t420 t425 _ A87.out).mono ?_); rintro e w' ⟨rfl, ⟨nd, rfl⟩⟩) | (go_at_call 58; (with_reducible refine (impl_SumOnes.calls kj6 (⟨#[]⟩ : ByteArray) t426 _ A89.out).mono ?_); rintro e w' ⟨rfl, ⟨nd, rfl⟩⟩))
        go_ret
        exact ⟨by first | rfl | (simp [errW_none, errW_some] <;> rfl) | (simp [*, errW_none, errW_some] <;> rfl), by repeat (first | (with_reducible first | exact HB.out | apply below_alloc | apply pw_below_drewN | apply below_drew1 | refine below_set ?_ GE387.out | refine below_set ?_ GE397.out | refine below_set ?_ GE409.out | refine below_set ?_ GE417.out) | exact HB.out)⟩
       ·rw [if_neg c88] at H
        have c88b0 : (t424 == t425) = false := beq_eq_false_iff_ne.mpr c88
        have c88b1 : (t424 != t425) = true := bne_iff_ne.mpr c88
        exact absurd ((Option.some.inj H).trans hr_.out) (by decide)
     ·rw [if_neg c64] at H
      have c64b0 : (t408 == t416) = false := by simpa using c64
      (try (have c64b1 : decide (t408 = t416) = false := by simpa using c64))
      (try (have c64b2 : (t408 == t416) = false := by simpa using c64))
      (try (have c64b3 : ¬ (t408 = t416) := by simpa using c64))
      clear c64
      exact absurd ((Option.some.inj H).trans hr_.out) (by decide)

/-- THE ONE PURE STATEMENT of laws_FnDgrams: yours. -/
def laws_FnDgrams.Pure : Prop := ∀ (l0 : List Int), l0.length ≤ maxLen → l0.length * 1 ≤ 140737488351232 → (∀ x ∈ l0, (Lit.int .u8 x).wf = true) → ∃ k, laws_FnDgrams.f k l0 = some true
theorem laws_FnDgrams.walk (P : laws_FnDgrams.Pure) (a0 : Option Addr) (len0 cap0 : Nat) (z0 : List Int) (w : World) (w0 : (a0 = none ∧ len0 = 0 ∧ cap0 = 0 ∧ z0 = []) ∨ ∃ x, a0 = some x ∧ len0 ≤ cap0 ∧ cap0 ≤ maxLen ∧ z0.length = cap0 ∧ (∀ i, i < z0.length → w.cell? (x.add i) = some (.int .u8 (z0.getD i 0))) ∧ ∀ n ∈ z0, (Lit.int .u8 n).wf = true) (y0 : len0 * 1 ≤ 140737488351232) :
  Calls Try.prog 10 #[.slice a0 len0 cap0] w fun e w' => e = .returned (.bool true) ∧ Below w.heap.size w w' := by
 obtain ⟨l0, rfl, hr0, hm0, hw0, hc0⟩ := ReadsInt.ofRowC w0
 obtain ⟨k, h⟩ := P l0 hm0 y0 hw0
 refine (laws_FnDgrams.calls k _ _ l0 true w (Kd.C_of_reads (d := (0 : Int)) (h1 := fun _ => rfl) hr0) hc0 h ⟨rfl⟩).mono ?_
 rintro e w' ⟨rfl, hd⟩
 exact ⟨rfl, hd⟩

end Go.Proofs.Ytjijbffecppeiaa.QFnDgrams
