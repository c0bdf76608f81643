/- Functions that a law reaches, as functions of Lean, and the walks that show that the calls come to their answers: written by a program of this project out of the translation. No condition. -/
import Derived.Test.YtjijbffecppeiaaQFnDgramsx0
import Derived.Test.YtjijbffecppeiaaQFnDgramsx2
import Derived.Test.YtjijbffecppeiaaQFnDgramsx4
import Derived.Test.YtjijbffecppeiaaShort2
import Derived.Test.YtjijbffecppeiaaShort
namespace Go.Proofs.Ytjijbffecppeiaa.QFnDgrams
open Go.RowKit Go.Proofs.YtjijbffecppeiaaW.PrintWords Go.Proofs.YtjijbffecppeiaaW.PrintLast Go.Proofs.YtjijbffecppeiaaW.PrintMore Go.Proofs.Ytjijbffecppeiaa.Short
attribute [local go_sem] max2_int min2_int max_two min_two max_three min_three max_four min_four   -- for this text's walks alone
set_option linter.unusedVariables false
set_option linter.unusedSimpArgs false

/-! ### impl_ReadDgram: function 55 -/
def impl_ReadDgram.f (k : Nat) (a0 : ByteArray) : Option (Int × Int × Int × Int × Bool × ByteArray × Bool) := (impl_scan_one.f a0 0 false).bind fun bt268 => ((impl_scan_one.f bt268.2.1 bt268.2.2.1 bt268.2.2.2).bind fun bt272 => ((impl_scan_word.f bt272.2.1 bt272.2.2.1 bt272.2.2.2).bind fun bt276 => ((impl_scan_one.f bt276.2.1 bt276.2.2.1 bt276.2.2.2).bind fun bt280 => ((impl_scan_one.f bt280.2.1 bt280.2.2.1 bt280.2.2.2).bind fun bt284 => ((impl_scan_word.f bt284.2.1 bt284.2.2.1 bt284.2.2.2).bind fun bt288 => ((impl_scan_rest.f bt288.2.1 bt288.2.2.1 bt288.2.2.2).bind fun bt292 => ((impl_DgramText.f k bt268.1 bt272.1 bt276.1 (wrap64 (8 * bt280.1)) (bt284.1 == 1) bt292.1).bind fun bt296 => ((impl_scan_done.f bt292.2.1 bt292.2.2.1 bt292.2.2.2).bind fun bt298 => (if bt298.1 = true then (if bt296.2 = true then (if bt296.1.toList = a0.toList then (some (bt268.1, bt272.1, bt276.1, wrap64 (8 * bt280.1), (bt284.1 == 1), bt292.1, true)) else (some (0, 0, 0, 0, false, (⟨#[]⟩ : ByteArray), false))) else (some (0, 0, 0, 0, false, (⟨#[]⟩ : ByteArray), false))) else (some (0, 0, 0, 0, false, (⟨#[]⟩ : ByteArray), false)))))))))))
theorem impl_ReadDgram.mono : ∀ a0 k, LeO (impl_ReadDgram.f k a0) (impl_ReadDgram.f (k + 1) a0) := by
 intro a0 k
 unfold impl_ReadDgram.f
 repeat' first
   | (with_reducible exact impl_DgramText.mono _ _ _ _ _ _ _)
   | (with_reducible exact LeO.refl _)
   | (with_reducible exact LeO.none _)
   | (with_reducible refine LeO.ite ?_ ?_)
   | (with_reducible refine LeO.bind ?_ (fun _ => ?_))
   | exact impl_DgramText.mono _ _ _ _ _ _ _
   | exact LeO.none _
   | refine LeO.ite ?_ ?_
   | refine LeO.bind ?_ (fun _ => ?_)
set_option hygiene false
local macro:max "G0_" : tactic => `(tactic| (with_reducible repeat (first | refine blk_drewN ?_ _ | refine blk_drew ?_ | refine blk_alloc ?_ _)))
local macro:max "G1_" : term => `(#[.int .i64 0, .int .i64 0, .int .i64 0, .int .i64 0, .bool false, .string (⟨#[]⟩ : ByteArray)])
local macro:max "G2_" : tactic => `(tactic| (first | (with_reducible first | exact HI266.out | apply IsS133.alloc | apply IsS133.drewN | apply IsS133.drew | apply IsS133.set_0 | apply IsS133.set_1 | apply IsS133.set_2 | refine IsS133.far ?_ NB266_265.out _ | refine IsS133.far ?_ NB266_267.out _) | exact HI266.out))
local macro:max "G3_" : tactic => `(tactic| (first | (with_reducible first | exact HB.out | apply below_alloc | apply pw_below_drewN | apply below_drew1 | refine below_set ?_ (IsS133.ge HI266.out) | refine below_set ?_ GE265.out | refine below_set ?_ GE267.out) | exact HB.out))
local macro:max "G4_" : term => `((by (try simp only [List.map_toArray, List.map_cons, List.map_nil]); first | done | rfl | (simp only [List.length_drop, List.length_take]; rfl)))
local macro:max "G5_" : term => `((by repeat (first | (with_reducible first | exact HB.out | apply below_alloc | apply pw_below_drewN | apply below_drew1) | exact HB.out)))
local macro:max "G6_" : term => `((by repeat (first | (with_reducible first | exact HB.out | apply below_alloc | apply pw_below_drewN | apply below_drew1 | refine below_set ?_ GE265.out | refine below_set ?_ GE266.out) | exact HB.out)))
local macro:max "G7_" : term => `(#[.int .i64 t268, .int .i64 t272, .int .i64 t276, .int .i64 0, .bool false, .string (⟨#[]⟩ : ByteArray)])
local macro:max "G8_" : term => `((by repeat (first | (with_reducible first | exact HB.out | apply below_alloc | apply pw_below_drewN | apply below_drew1 | refine below_set ?_ GE265.out) | exact HB.out)))
local macro:max "G9_" : tactic => `(tactic| (first | (with_reducible first | exact HI0.out | apply IsS182.alloc | apply IsS182.drewN | apply IsS182.drew | apply IsS182.set_1 | apply IsS182.set_2) | exact HI0.out))
local macro:max "G10_" : tactic => `(tactic| (first | (with_reducible first | exact HB.out | apply below_alloc | apply pw_below_drewN | apply below_drew1 | refine below_set ?_ (IsS182.ge HI0.out)) | exact HB.out))
local macro:max "G11_" : tactic => `(tactic| (first | (with_reducible first | exact HK.out | apply KeepBut.set_ | apply keep_drewN | apply keep_drew | apply keep_alloc) | exact HK.out))
local macro:max "G12_" : term => `(#[.int .i64 t268, .int .i64 t272, .int .i64 t276, .int .i64 (wrap64 (8 * t280)), .bool (t284 == 1), .string t292])
local macro:max "G13_" : term => `((blk_below (g := gb267) (o := .cells G12_ 85 (0, 0)) (by G0_; refine blk_put (cs := #[.int .i64 t268, .int .i64 t272, .int .i64 t276, .int .i64 (wrap64 (8 * t280)), .bool false, .string t292]) ?_ 4 _ rfl; G0_; refine blk_put (cs := #[.int .i64 t268, .int .i64 t272, .int .i64 t276, .int .i64 0, .bool false, .string t292]) ?_ 3 _ rfl; G0_; refine blk_put (cs := G7_) ?_ 5 _ rfl; G0_; exact BK267.out) hb))
local macro:max "G14_" : term => `(#[.pointer (some ⟨gb266, 0, none⟩)])
local macro:max "G15_" : term => `((blk_lt (g := gb265) (o := .cells G1_ 85 (0, 0)) (by G0_; exact BK265.out)))
local macro:max "G16_" : tactic => `(tactic| (case hr => first | (go_simp; done) | (go_simp; rfl)))
local macro:max "G17_" : tactic => `(tactic| (case side1 => exact ⟨by G0_; refine blk_far ?_ NB266_267.out _; G0_; refine blk_far ?_ NB266_267.out _; G0_; refine blk_far ?_ NB266_267.out _; G0_; refine blk_far ?_ NB266_267.out _; G0_; refine blk_far ?_ NB266_267.out _; G0_; refine blk_far ?_ NB266_267.out _; G0_; exact BK266.out, GE266.out⟩))
local macro:max "G18_" : term => `((by G0_; refine blk_put (cs := G1_) ?_ 5 _ rfl; G0_; refine blk_put (cs := G1_) ?_ 4 _ rfl; G0_; refine blk_put (cs := G1_) ?_ 3 _ rfl; G0_; refine blk_put (cs := G1_) ?_ 2 _ rfl; G0_; refine blk_put (cs := G1_) ?_ 1 _ rfl; G0_; refine blk_put (cs := G1_) ?_ 0 _ rfl; G0_; exact BK267.out))
local macro:max "G19_" : term => `((by rw [hg]; exact (below_size G5_) : w.heap.size ≤ gb302))
local macro:max "G20_" : term => `(#[.int .i64 t268, .int .i64 t272, .int .i64 0, .int .i64 0, .bool false, .string (⟨#[]⟩ : ByteArray)])
local macro:max "G21_" : term => `((by G0_; refine blk_far ?_ NB265_267.out _; G0_; refine blk_far ?_ NB265_267.out _; G0_; refine blk_far ?_ NB265_267.out _; G0_; refine blk_far ?_ NB265_267.out _; G0_; refine blk_far ?_ NB265_267.out _; G0_; refine blk_far ?_ NB265_267.out _; G0_; exact BK265.out))
local macro:max "G22_" : term => `(#[.int .i64 t268, .int .i64 0, .int .i64 0, .int .i64 0, .bool false, .string (⟨#[]⟩ : ByteArray)])
local macro:max "G23_" : term => `((blk_lt (g := gb266) (o := .cells #[.string a0, .int .i64 0, .bool false] 133 (0, 0)) (by G0_; exact BK266.out)))
local macro:max "G24_" : tactic => `(tactic| (with_reducible refine gate_callee (f := 100) rfl ?_))
local macro:max "G25_" : tactic => `(tactic| (case side2 => repeat (first | (with_reducible first | exact HB.out | apply below_alloc | apply pw_below_drewN | apply below_drew1 | refine below_set ?_ GE265.out | refine below_set ?_ GE266.out | refine below_set ?_ GE267.out) | exact HB.out)))
local macro:max "G26_" : term => `((by G0_; refine blk_far ?_ NB265_267.out _; G0_; exact BK265.out))
local macro:max "G27_" : tactic => `(tactic| (go_at_call 81; (with_reducible refine (spec_l01In.calls a0_1 1 99 true _ A4.out).mono ?_); rintro e w' ⟨rfl, ⟨nd, rfl⟩⟩))
local macro:max "G28_" : term => `((blk_below (g := gb265) (o := .cells G1_ 85 (0, 0)) (by G0_; refine blk_far ?_ NB265_267.out _; G0_; refine blk_far ?_ NB265_267.out _; G0_; refine blk_far ?_ NB265_267.out _; G0_; exact BK265.out) hb))
local macro:max "G29_" : tactic => `(tactic| (case side1 => repeat G2_))
local macro:max "G30_" : tactic => `(tactic| (case side2 => repeat G3_))
local macro:max "G31_" : term => `((blk_below (g := gb265) (o := .cells G1_ 85 (0, 0)) (by G0_; exact BK265.out) hb))
local macro:max "G32_" : tactic => `(tactic| (go_at_call 81; (with_reducible refine (spec_l01In.calls a0_2 0 65535 true _ A6.out).mono ?_); rintro e w' ⟨rfl, ⟨nd, rfl⟩⟩))
local macro:max "G33_" : term => `(#[.int .i64 a0_0, .int .i64 a0_1, .int .i64 a0_2, .int .i64 a0_3, .bool a0_4, .string a0_5])
local macro:max "G34_" : tactic => `(tactic| (with_reducible refine (spec_l01In.calls a0_0 1 99 true _ A2.out).mono ?_))
local macro:max "G35_" : term => `((by rw [hg]; exact (below_size G5_) : w.heap.size ≤ gb265))
local macro:max "G36_" : term => `((by rw [hg]; exact (below_size G6_) : w.heap.size ≤ gb267))
local macro:max "G37_" : term => `((by rw [hg]; exact (below_size G8_) : w.heap.size ≤ gb266))
local macro:max "G38_" : tactic => `(tactic| (go_at_call 81; (with_reducible refine (spec_l01In.calls a0_3 0 160 true _ A8.out).mono ?_); rintro e w' ⟨rfl, ⟨nd, rfl⟩⟩))
local macro:max "G39_" : tactic => `(tactic| (with_reducible refine (impl_scan_rest.calls gb266 t289 t290 t291 t292 t293 t294 t295 w _ ?side1 ?side2 A8.out).mono ?_))
local macro:max "G40_" : tactic => `(tactic| (with_reducible refine (impl_scan_word.calls gb266 t273 t274 t275 t276 t277 t278 t279 w _ ?side1 ?side2 A4.out).mono ?_))
local macro:max "G41_" : tactic => `(tactic| (with_reducible refine (impl_scan_word.calls gb266 t285 t286 t287 t288 t289 t290 t291 w _ ?side1 ?side2 A7.out).mono ?_))
local macro:max "G42_" : tactic => `(tactic| (with_reducible refine (impl_scan_one.calls gb266 t269 t270 t271 t272 t273 t274 t275 w _ ?side1 ?side2 A3.out).mono ?_))
local macro:max "G43_" : tactic => `(tactic| (with_reducible refine (impl_scan_one.calls gb266 t277 t278 t279 t280 t281 t282 t283 w _ ?side1 ?side2 A5.out).mono ?_))
local macro:max "G44_" : tactic => `(tactic| (with_reducible refine (impl_scan_one.calls gb266 t281 t282 t283 t284 t285 t286 t287 w _ ?side1 ?side2 A6.out).mono ?_))
local macro:max "G45_" : term => `((blk_cell BK267.out 0))
local macro:max "G46_" : term => `((blk_cell BK267.out 1))
local macro:max "G47_" : term => `((blk_cell BK267.out 2))
local macro:max "G48_" : term => `((blk_cell BK267.out 3))
local macro:max "G49_" : term => `((blk_cell BK267.out 4))
local macro:max "G50_" : term => `((blk_cell BK267.out 5))
local macro:max "G51_" : term => `((blk_below (g := gb266) (o := .cells #[.string a0, .int .i64 0, .bool false] 133 (0, 0)) (by G0_; exact BK266.out) hb))
local macro:max "G52_" : tactic => `(tactic| (with_reducible refine (impl_scan_one.calls gb266 a0 0 false t268 t269 t270 t271 w _ ?side1 ?side2 A2.out).mono ?_))
local macro:max "G53_" : tactic => `(tactic| (with_reducible refine gate_callee (f := 81) rfl ?_))
local macro:max "G54_" : tactic => `(tactic| (with_reducible refine gate_callee (f := 99) rfl ?_))
local macro:max "G55_" : tactic => `(tactic| (try (refine gate_guard (by rfl) ?_; dsimp only)))
local macro:max "G56_" : tactic => `(tactic| (with_reducible refine gate_dst (N := 1) rfl ?_))
local macro:max "G57_" : term => `((by G0_; exact BK265.out))
local macro:max "G58_" : term => `((by G0_; exact BK267.out))
local macro:max "G59_" : term => `(#[.int .i64 a0_0, .int .i64 1, .int .i64 99])
local macro:max "G60_" : tactic => `(tactic| (with_reducible refine (impl_scan_done.calls gb266 t293 t294 t295 true t299 t300 t301 w _ ?side1 ?side2 A10.out).mono ?_))
local macro:max "G61_" : tactic => `(tactic| (first | exact Drawn0.refl _ | apply Drawn0.step))
local macro:max "G62_" : tactic => `(tactic| (with_reducible refine (spec_l01Below.calls g s0_0 s0_1 s0_2 12 t308 t309 t310 w0 _ ?side1 ?side2 A3.out).mono ?_))
local macro:max "G63_" : term => `((by G0_; refine blk_put (cs := G20_) ?_ 2 _ rfl; G0_; exact BK267.out))
local macro:max "G64_" : term => `((by G0_; refine blk_put (cs := G22_) ?_ 1 _ rfl; G0_; exact BK267.out))
local macro:max "G65_" : term => `((by G0_; refine blk_put (cs := G1_) ?_ 0 _ rfl; G0_; exact BK267.out))
local macro:max "G66_" : tactic => `(tactic| (with_reducible refine gate_callee (f := 118) rfl ?_))
local macro:max "G67_" : term => `((below_step G5_ hb))
local macro:max "G68_" : tactic => `(tactic| (go_at_call 81; (with_reducible refine (spec_l01In.calls (a0_5.size : Int) 1 (wrap64 (160 - a0_3)) true _ A11.out).mono ?_); rintro e w' ⟨rfl, ⟨nd, rfl⟩⟩))
local macro:max "G69_" : term => `((by rw [hg]; exact Nat.ne_of_gt G15_ : gb266 ≠ gb265))
local macro:max "G70_" : term => `((by rw [hg]; exact Nat.ne_of_gt G15_ : gb267 ≠ gb265))
local macro:max "G71_" : term => `((by rw [hg]; exact Nat.ne_of_gt G23_ : gb267 ≠ gb266))
local macro:max "G72_" : term => `((by rw [hg]; exact Nat.ne_of_lt G15_ : gb265 ≠ gb266))
local macro:max "G73_" : term => `((by rw [hg]; exact Nat.ne_of_lt G15_ : gb265 ≠ gb267))
local macro:max "G74_" : term => `((by rw [hg]; exact Nat.ne_of_lt G23_ : gb266 ≠ gb267))
local macro:max "G75_" : term => `((by first | (with_reducible assumption) | assumption))
local macro:max "G76_" : tactic => `(tactic| (with_reducible refine gate_callee (f := 101) rfl ?_))
local macro:max "G77_" : tactic => `(tactic| (with_reducible refine gate_callee (f := 102) rfl ?_))
local macro:max "G78_" : tactic => `(tactic| (with_reducible refine gate_callee (f := 54) rfl ?_))
local macro:max "G79_" : tactic => `(tactic| (case side2 => repeat G10_))
local macro:max "G80_" : tactic => `(tactic| (with_reducible refine gate_dst (N := 12) rfl ?_))
local macro:max "G81_" : tactic => `(tactic| (with_reducible refine gate_dst (N := 2) rfl ?_))
local macro:max "G82_" : tactic => `(tactic| (with_reducible refine gate_dst (N := 5) rfl ?_))
local macro:max "G83_" : tactic => `(tactic| (case side1 => repeat G9_))
local macro:max "G84_" : tactic => `(tactic| (with_reducible refine (impl_DgramText.calls k t268 t272 t276 (wrap64 (8 * t280)) (t284 == 1) t292 t296 true _ A9.out).mono ?_))
local macro:max "G85_" : term => `((blk_cell BK302.out 0))
local macro:max "G86_" : term => `((blk_cell BK302.out 1))
local macro:max "G87_" : term => `((blk_cell BK302.out 2))
local macro:max "G88_" : term => `((blk_cell BK302.out 3))
local macro:max "G89_" : term => `((blk_cell BK302.out 4))
local macro:max "G90_" : term => `((blk_cell BK302.out 5))
local macro:max "G91_" : term => `(⟨by first | rfl | (simp [errW_none, errW_some] <;> rfl) | (simp [*, errW_none, errW_some] <;> rfl), by repeat G3_⟩)
local macro:max "G92_" : term => `(#[.string a0, .int .i64 0, .bool false])
local macro:max "G93_" : term => `((by first | rfl | (simp; done) | (simp only [← hji6] <;> (first | rfl | simp)) | (simp [*]; done)))
local macro:max "G94_" : term => `(#[.pointer (some ⟨g, 0, none⟩), .int .i64 12])
local macro:max "G95_" : term => `((below_step (by repeat G3_) hb))
local macro:max "G96_" : term => `(⟨by have := HK1.out; omega⟩)
local macro "J0_" : tactic => `(tactic| ((refine bodyPost_ret (results_ct rfl _ _ gb265 85 G1_ (0, 0) _ rfl (by G0_; refine blk_put (cs := G1_) ?_ 5 _ rfl; G0_; refine blk_put (cs := G1_) ?_ 4 _ rfl; G0_; refine blk_put (cs := G1_) ?_ 3 _ rfl; G0_; refine blk_put (cs := G1_) ?_ 2 _ rfl; G0_; refine blk_put (cs := G1_) ?_ 1 _ rfl; G0_; refine blk_put (cs := G1_) ?_ 0 _ rfl; G0_; exact BK265.out) Try.underlying85 rfl (by kernel_rfl)) rfl ?_); (exact G91_)))
local macro "J1_" : tactic => `(tactic| ((go_ret); (exact ⟨by first | rfl | (simp [errW_none, errW_some] <;> rfl) | (simp [*, errW_none, errW_some] <;> rfl), by repeat (first | (with_reducible first | exact HB.out | apply below_alloc | apply pw_below_drewN | apply below_drew1 | refine below_set ?_ GE302.out) | exact HB.out)⟩)))
local macro "J2_" : tactic => `(tactic| ((go_ret); (exact ⟨by first | rfl | (simp [errW_none, errW_some] <;> rfl) | (simp [*, errW_none, errW_some] <;> rfl), by repeat G9_, by repeat G10_, by repeat G11_⟩)))
local macro "J3_" : tactic => `(tactic| ((have H' := Aside0.mk H); (clear H); (have p4 : 0 ≤ (x4_1 : Int) := of_decide_eq_true G75_); (have q4 : x4_1 < (a0.size : Int) := of_decide_eq_true G75_); (have hx4 := bt_at a0 x4_1); (replace p4 := eq_true p4); (replace q4 := eq_true q4)))
local macro "J4_" : tactic => `(tactic| ((replace H := Option.bind_eq_some_iff.mp H)))
local macro "J5_" : tactic => `(tactic| ((rw [if_neg (show ¬ (false = true) by decide)] at H); (obtain rfl := Option.some.inj H)))
local macro "J6_" : tactic => `(tactic| ((simp only [Option.some.injEq, Prod.mk.injEq] at H)))
local macro "J7_" : tactic => `(tactic| ((have p8 : 0 ≤ ((ji6) : Int) := of_decide_eq_true G75_); (have q8 : (ji6) < (a0.size : Int) := of_decide_eq_true G75_); (have hx8 := bt_at a0 (ji6)); (replace p8 := eq_true p8); (replace q8 := eq_true q8); (go_wp2); (go_roundg k1); (case measure => have := HK1.out; omega)))
local macro "J8_" : tactic => `(tactic| ((try dsimp only at H)))
local macro "J9_" : tactic => `(tactic| ((go_wp2); (go_ret); (exact ⟨by first | rfl | (simp; done) | (simp [*]; done), by repeat G61_⟩)))
local macro "J10_" : tactic => `(tactic| ((exact absurd H (by simp))))
local macro "J11_" : tactic => `(tactic| ((obtain ⟨rfl, rfl, rfl, rfl, rfl, rfl, rfl⟩ := H)))
local macro "J12_" : tactic => `(tactic| ((obtain rfl := Option.some.inj H)))
local macro "J13_" : tactic => `(tactic| ((rw [if_pos rfl] at H)))
local macro "J14_" : tactic => `(tactic| ((first | rw [c17b0] | (simp only [i64_w, i32_w]; rw [c17b0]) | skip); (have H' := Aside0.mk H); (clear H); (go_wp2); (go_meet)))
local macro "J15_" : tactic => `(tactic| ((obtain ⟨rfl, rfl, rfl⟩ := H)))
local macro "J16_" : tactic => `(tactic| ((rw [if_neg (show ¬ (false = true) by decide)] at H)))
local macro "J17_" : tactic => `(tactic| ((have HB := Aside0.mk (Below.refl w.heap.size w))))
local macro "J18_" : tactic => `(tactic| ((go_wp2); (go_roundg k1); (case measure => have := HK1.out; omega)))
set_option hygiene true
set_option maxHeartbeats 8000000 in
set_option maxRecDepth 100000 in
theorem impl_ReadDgram.calls (k : Nat) (a0 : ByteArray) (r1 : Int) (r2 : Int) (r3 : Int) (r4 : Int) (r5 : Bool) (r6 : ByteArray) (r7 : Bool) (w : World) (h : impl_ReadDgram.f k a0 = some (r1, r2, r3, r4, r5, r6, r7)) :
  Calls Try.prog 55 #[.string a0] w fun e w' => e = .returned (.tuple #[.agg #[.int .i64 r1, .int .i64 r2, .int .i64 r3, .int .i64 r4, .bool r5, .string r6], .bool r7]) ∧ Below w.heap.size w w' := by
 have hu85 := Try.underlying85
 have hu133 := Try.underlying133
 J17_
 have H : ((impl_scan_one.f a0 0 false).bind fun bt268 => ((impl_scan_one.f bt268.2.1 bt268.2.2.1 bt268.2.2.2).bind fun bt272 => ((impl_scan_word.f bt272.2.1 bt272.2.2.1 bt272.2.2.2).bind fun bt276 => ((impl_scan_one.f bt276.2.1 bt276.2.2.1 bt276.2.2.2).bind fun bt280 => ((impl_scan_one.f bt280.2.1 bt280.2.2.1 bt280.2.2.2).bind fun bt284 => ((impl_scan_word.f bt284.2.1 bt284.2.2.1 bt284.2.2.2).bind fun bt288 => ((impl_scan_rest.f bt288.2.1 bt288.2.2.1 bt288.2.2.2).bind fun bt292 => ((impl_DgramText.f k bt268.1 bt272.1 bt276.1 (wrap64 (8 * bt280.1)) (bt284.1 == 1) bt292.1).bind fun bt296 => ((impl_scan_done.f bt292.2.1 bt292.2.2.1 bt292.2.2.2).bind fun bt298 => (if bt298.1 = true then (if bt296.2 = true then (if bt296.1.toList = a0.toList then (some (bt268.1, bt272.1, bt276.1, wrap64 (8 * bt280.1), (bt284.1 == 1), bt292.1, true)) else (some (0, 0, 0, 0, false, (⟨#[]⟩ : ByteArray), false))) else (some (0, 0, 0, 0, false, (⟨#[]⟩ : ByteArray), false))) else (some (0, 0, 0, 0, false, (⟨#[]⟩ : ByteArray), false)))))))))))) = some (r1, r2, r3, r4, r5, r6, r7) := h
 clear h
 J4_
 obtain ⟨⟨t268, t269, t270, t271⟩, A20, H⟩ := H
 J8_
 have A2 := Aside0.mk A20
 clear A20
 J4_
 obtain ⟨⟨t272, t273, t274, t275⟩, A30, H⟩ := H
 J8_
 have A3 := Aside0.mk A30
 clear A30
 J4_
 obtain ⟨⟨t276, t277, t278, t279⟩, A40, H⟩ := H
 J8_
 have A4 := Aside0.mk A40
 clear A40
 J4_
 obtain ⟨⟨t280, t281, t282, t283⟩, A50, H⟩ := H
 J8_
 have A5 := Aside0.mk A50
 clear A50
 J4_
 obtain ⟨⟨t284, t285, t286, t287⟩, A60, H⟩ := H
 J8_
 have A6 := Aside0.mk A60
 clear A60
 J4_
 obtain ⟨⟨t288, t289, t290, t291⟩, A70, H⟩ := H
 J8_
 have A7 := Aside0.mk A70
 clear A70
 J4_
 obtain ⟨⟨t292, t293, t294, t295⟩, A80, H⟩ := H
 J8_
 have A8 := Aside0.mk A80
 clear A80
 J4_
 obtain ⟨⟨t296, t297⟩, A90, H⟩ := H
 J8_
 have A9 := Aside0.mk A90
 clear A90
 J4_
 obtain ⟨⟨t298, t299, t300, t301⟩, A100, H⟩ := H
 J8_
 have A10 := Aside0.mk A100
 clear A100
 by_cases c11 : t298 = true
 ·subst c11
  J13_
  by_cases c12 : t297 = true
  ·subst c12
   J13_
   by_cases c13 : t296.toList = a0.toList
   ·rw [if_pos c13] at H
    have c13b0 : (t296.toList == a0.toList) = true := beq_iff_eq.mpr c13
    have c13b1 : (t296.toList != a0.toList) = false := bne_eq_false_iff_eq.mpr c13
    clear c13
    J6_
    J11_
    go_enter Try.func55, Try.ntmps55
    go_wp2_with (first | (G81_; refine box_event ?hg (N := 2) ?hd (cs := G1_) (t := 85) ?hr ?_; (case hd => rfl); (case hg => rfl); G16_; intro gb265 hg w14 hbox hb; have n0_ := Aside0.mk G67_; have n1_ := Aside0.mk (hbox); have n2_ := Aside0.mk (G35_); have n3_ := Aside0.mk (G35_); clear HB; have HB := n0_; have BK265 := n1_; have GW265 := n2_; have GE265 := n3_; clear n0_ n1_ n2_ n3_; clear hb hbox hg) | (G80_; refine box_event ?hg (N := 12) ?hd (cs := G92_) (t := 133) ?hr ?_; (case hd => rfl); (case hg => rfl); G16_; intro gb266 hg w15 hbox hb; have n0_ := Aside0.mk G31_; have n1_ := Aside0.mk (below_step G8_ hb); have n2_ := Aside0.mk (hbox); have n3_ := Aside0.mk (G37_); have n4_ := Aside0.mk (G37_); have n5_ := Aside0.mk (G72_); have n6_ := Aside0.mk (G69_); clear BK265; clear HB; have BK265 := n0_; have HB := n1_; have BK266 := n2_; have GW266 := n3_; have GE266 := n4_; have NB265_266 := n5_; have NB266_265 := n6_; clear n0_ n1_ n2_ n3_ n4_ n5_ n6_; clear hb hbox hg) | (G82_; refine box_event ?hg (N := 5) ?hd (cs := G1_) (t := 85) ?hr ?_; (case hd => rfl); (case hg => rfl); G16_; intro gb267 hg w16 hbox hb; have n0_ := Aside0.mk G31_; have n1_ := Aside0.mk G51_; have n2_ := Aside0.mk (below_step G6_ hb); have n3_ := Aside0.mk (hbox); have n4_ := Aside0.mk (G36_); have n5_ := Aside0.mk (G36_); have n6_ := Aside0.mk (G73_); have n7_ := Aside0.mk (G70_); have n8_ := Aside0.mk (G74_); have n9_ := Aside0.mk (G71_); clear BK265; clear BK266; clear HB; have BK265 := n0_; have BK266 := n1_; have HB := n2_; have BK267 := n3_; have GW267 := n4_; have GE267 := n5_; have NB265_267 := n6_; have NB267_265 := n7_; have NB266_267 := n8_; have NB267_266 := n9_; clear n0_ n1_ n2_ n3_ n4_ n5_ n6_ n7_ n8_ n9_; clear hb hbox hg; have hnb17 := NB267_265.out; have hnc17 := NB265_267.out; have hnb18 := NB267_266.out; have hnc18 := NB266_267.out; have hcz19_0 : w16.cell? ⟨gb267, 0, none⟩ = some (.int .i64 0) := (G45_).trans rfl; have hcz19_1 : w16.cell? ⟨gb267, 1, none⟩ = some (.int .i64 0) := (G46_).trans rfl; have hcz19_2 : w16.cell? ⟨gb267, 2, none⟩ = some (.int .i64 0) := (G47_).trans rfl; have hcz19_3 : w16.cell? ⟨gb267, 3, none⟩ = some (.int .i64 0) := (G48_).trans rfl; have hcz19_4 : w16.cell? ⟨gb267, 4, none⟩ = some (.bool false) := (G49_).trans rfl; have hcz19_5 : w16.cell? ⟨gb267, 5, none⟩ = some (.string (⟨#[]⟩ : ByteArray)) := (G50_).trans rfl; have hfz19_0 := blk_frozen BK267.out 0; have hfz19_1 := blk_frozen BK267.out 1; have hfz19_2 := blk_frozen BK267.out 2; have hfz19_3 := blk_frozen BK267.out 3; have hfz19_4 := blk_frozen BK267.out 4; have hfz19_5 := blk_frozen BK267.out 5) | (G24_; refine goesL_ (some 15) rfl rfl Try.func100 (by kernel_rfl) rfl G14_ rfl G4_ ?_; G52_; G17_; G25_; rintro e w20 ⟨rfl, hi, hb, hk⟩; refine ⟨_, rfl, ?_⟩; have n0_ := Aside0.mk (KeepBut.blk hk (g' := gb265) (o := .cells G1_ 85 (0, 0)) G21_ NB265_266.out (by simp)); have n1_ := Aside0.mk (KeepBut.blk hk (g' := gb267) (o := .cells G1_ 85 (0, 0)) G18_ NB267_266.out (by simp)); have n2_ := Aside0.mk (hb); have n3_ := Aside0.mk (hi); clear BK265; clear BK267; clear HB; have BK265 := n0_; have BK267 := n1_; have HB := n2_; have HI266 := n3_; clear n0_ n1_ n2_ n3_; (try clear hb); (try clear hb2); (try clear hk); (try clear hi); (try clear BK266); have hcz21_0 : w20.cell? ⟨gb267, 0, none⟩ = some (.int .i64 0) := (G45_).trans rfl; have hcz21_1 : w20.cell? ⟨gb267, 1, none⟩ = some (.int .i64 0) := (G46_).trans rfl; have hcz21_2 : w20.cell? ⟨gb267, 2, none⟩ = some (.int .i64 0) := (G47_).trans rfl; have hcz21_3 : w20.cell? ⟨gb267, 3, none⟩ = some (.int .i64 0) := (G48_).trans rfl; have hcz21_4 : w20.cell? ⟨gb267, 4, none⟩ = some (.bool false) := (G49_).trans rfl; have hcz21_5 : w20.cell? ⟨gb267, 5, none⟩ = some (.string (⟨#[]⟩ : ByteArray)) := (G50_).trans rfl; have hfz21_0 := blk_frozen BK267.out 0; have hfz21_1 := blk_frozen BK267.out 1; have hfz21_2 := blk_frozen BK267.out 2; have hfz21_3 := blk_frozen BK267.out 3; have hfz21_4 := blk_frozen BK267.out 4; have hfz21_5 := blk_frozen BK267.out 5) | (G24_; refine goesL_ (some 18) rfl rfl Try.func100 (by kernel_rfl) rfl G14_ rfl G4_ ?_; G42_; G29_; G30_; rintro e w22 ⟨rfl, hi, hb, hk⟩; refine ⟨_, rfl, ?_⟩; have n0_ := Aside0.mk (KeepBut.blk hk (g' := gb265) (o := .cells G1_ 85 (0, 0)) G26_ NB265_266.out (by simp)); have n1_ := Aside0.mk (KeepBut.blk hk (g' := gb267) (o := .cells G22_ 85 (0, 0)) G65_ NB267_266.out (by simp)); have n2_ := Aside0.mk (hb); have n3_ := Aside0.mk (hi); clear BK265; clear BK267; clear HB; clear HI266; have BK265 := n0_; have BK267 := n1_; have HB := n2_; have HI266 := n3_; clear n0_ n1_ n2_ n3_; (try clear hb); (try clear hb2); (try clear hk); (try clear hi); have hcz23_0 : w22.cell? ⟨gb267, 0, none⟩ = some (.int .i64 t268) := (G45_).trans rfl; have hcz23_1 : w22.cell? ⟨gb267, 1, none⟩ = some (.int .i64 0) := (G46_).trans rfl; have hcz23_2 : w22.cell? ⟨gb267, 2, none⟩ = some (.int .i64 0) := (G47_).trans rfl; have hcz23_3 : w22.cell? ⟨gb267, 3, none⟩ = some (.int .i64 0) := (G48_).trans rfl; have hcz23_4 : w22.cell? ⟨gb267, 4, none⟩ = some (.bool false) := (G49_).trans rfl; have hcz23_5 : w22.cell? ⟨gb267, 5, none⟩ = some (.string (⟨#[]⟩ : ByteArray)) := (G50_).trans rfl; have hfz23_0 := blk_frozen BK267.out 0; have hfz23_1 := blk_frozen BK267.out 1; have hfz23_2 := blk_frozen BK267.out 2; have hfz23_3 := blk_frozen BK267.out 3; have hfz23_4 := blk_frozen BK267.out 4; have hfz23_5 := blk_frozen BK267.out 5) | (G54_; refine goesL_ (some 21) rfl rfl Try.func99 (by kernel_rfl) rfl G14_ rfl G4_ ?_; G40_; G29_; G30_; rintro e w24 ⟨rfl, hi, hb, hk⟩; refine ⟨_, rfl, ?_⟩; have n0_ := Aside0.mk (KeepBut.blk hk (g' := gb265) (o := .cells G1_ 85 (0, 0)) G26_ NB265_266.out (by simp)); have n1_ := Aside0.mk (KeepBut.blk hk (g' := gb267) (o := .cells G20_ 85 (0, 0)) G64_ NB267_266.out (by simp)); have n2_ := Aside0.mk (hb); have n3_ := Aside0.mk (hi); clear BK265; clear BK267; clear HB; clear HI266; have BK265 := n0_; have BK267 := n1_; have HB := n2_; have HI266 := n3_; clear n0_ n1_ n2_ n3_; (try clear hb); (try clear hb2); (try clear hk); (try clear hi); have hcz25_0 : w24.cell? ⟨gb267, 0, none⟩ = some (.int .i64 t268) := (G45_).trans rfl; have hcz25_1 : w24.cell? ⟨gb267, 1, none⟩ = some (.int .i64 t272) := (G46_).trans rfl; have hcz25_2 : w24.cell? ⟨gb267, 2, none⟩ = some (.int .i64 0) := (G47_).trans rfl; have hcz25_3 : w24.cell? ⟨gb267, 3, none⟩ = some (.int .i64 0) := (G48_).trans rfl; have hcz25_4 : w24.cell? ⟨gb267, 4, none⟩ = some (.bool false) := (G49_).trans rfl; have hcz25_5 : w24.cell? ⟨gb267, 5, none⟩ = some (.string (⟨#[]⟩ : ByteArray)) := (G50_).trans rfl; have hfz25_0 := blk_frozen BK267.out 0; have hfz25_1 := blk_frozen BK267.out 1; have hfz25_2 := blk_frozen BK267.out 2; have hfz25_3 := blk_frozen BK267.out 3; have hfz25_4 := blk_frozen BK267.out 4; have hfz25_5 := blk_frozen BK267.out 5) | (G24_; refine goesL_ (some 24) rfl rfl Try.func100 (by kernel_rfl) rfl G14_ rfl G4_ ?_; G43_; G29_; G30_; rintro e w26 ⟨rfl, hi, hb, hk⟩; refine ⟨_, rfl, ?_⟩; have n0_ := Aside0.mk (KeepBut.blk hk (g' := gb265) (o := .cells G1_ 85 (0, 0)) G26_ NB265_266.out (by simp)); have n1_ := Aside0.mk (KeepBut.blk hk (g' := gb267) (o := .cells G7_ 85 (0, 0)) G63_ NB267_266.out (by simp)); have n2_ := Aside0.mk (hb); have n3_ := Aside0.mk (hi); clear BK265; clear BK267; clear HB; clear HI266; have BK265 := n0_; have BK267 := n1_; have HB := n2_; have HI266 := n3_; clear n0_ n1_ n2_ n3_; (try clear hb); (try clear hb2); (try clear hk); (try clear hi)) | (G24_; refine goesL_ (some 26) rfl rfl Try.func100 (by kernel_rfl) rfl G14_ rfl G4_ ?_; G44_; G29_; G30_; rintro e w27 ⟨rfl, hi, hb, hk⟩; refine ⟨_, rfl, ?_⟩; have n0_ := Aside0.mk (KeepBut.blk hk (g' := gb265) (o := .cells G1_ 85 (0, 0)) G57_ NB265_266.out (by simp)); have n1_ := Aside0.mk (KeepBut.blk hk (g' := gb267) (o := .cells G7_ 85 (0, 0)) G58_ NB267_266.out (by simp)); have n2_ := Aside0.mk (hb); have n3_ := Aside0.mk (hi); clear BK265; clear BK267; clear HB; clear HI266; have BK265 := n0_; have BK267 := n1_; have HB := n2_; have HI266 := n3_; clear n0_ n1_ n2_ n3_; (try clear hb); (try clear hb2); (try clear hk); (try clear hi)) | (G54_; refine goesL_ (some 28) rfl rfl Try.func99 (by kernel_rfl) rfl G14_ rfl G4_ ?_; G41_; G29_; G30_; rintro e w28 ⟨rfl, hi, hb, hk⟩; refine ⟨_, rfl, ?_⟩; have n0_ := Aside0.mk (KeepBut.blk hk (g' := gb265) (o := .cells G1_ 85 (0, 0)) G57_ NB265_266.out (by simp)); have n1_ := Aside0.mk (KeepBut.blk hk (g' := gb267) (o := .cells G7_ 85 (0, 0)) G58_ NB267_266.out (by simp)); have n2_ := Aside0.mk (hb); have n3_ := Aside0.mk (hi); clear BK265; clear BK267; clear HB; clear HI266; have BK265 := n0_; have BK267 := n1_; have HB := n2_; have HI266 := n3_; clear n0_ n1_ n2_ n3_; (try clear hb); (try clear hb2); (try clear hk); (try clear hi)) | (G76_; refine goesL_ (some 30) rfl rfl Try.func101 (by kernel_rfl) rfl G14_ rfl G4_ ?_; G39_; G29_; G30_; rintro e w29 ⟨rfl, hi, hb, hk⟩; refine ⟨_, rfl, ?_⟩; have n0_ := Aside0.mk (KeepBut.blk hk (g' := gb265) (o := .cells G1_ 85 (0, 0)) G57_ NB265_266.out (by simp)); have n1_ := Aside0.mk (KeepBut.blk hk (g' := gb267) (o := .cells G7_ 85 (0, 0)) G58_ NB267_266.out (by simp)); have n2_ := Aside0.mk (hb); have n3_ := Aside0.mk (hi); clear BK265; clear BK267; clear HB; clear HI266; have BK265 := n0_; have BK267 := n1_; have HB := n2_; have HI266 := n3_; clear n0_ n1_ n2_ n3_; (try clear hb); (try clear hb2); (try clear hk); (try clear hi); have hcz30_0 : w29.cell? ⟨gb267, 0, none⟩ = some (.int .i64 t268) := (G45_).trans rfl; have hcz30_1 : w29.cell? ⟨gb267, 1, none⟩ = some (.int .i64 t272) := (G46_).trans rfl; have hcz30_2 : w29.cell? ⟨gb267, 2, none⟩ = some (.int .i64 t276) := (G47_).trans rfl; have hcz30_3 : w29.cell? ⟨gb267, 3, none⟩ = some (.int .i64 0) := (G48_).trans rfl; have hcz30_4 : w29.cell? ⟨gb267, 4, none⟩ = some (.bool false) := (G49_).trans rfl; have hcz30_5 : w29.cell? ⟨gb267, 5, none⟩ = some (.string (⟨#[]⟩ : ByteArray)) := (G50_).trans rfl; have hfz30_0 := blk_frozen BK267.out 0; have hfz30_1 := blk_frozen BK267.out 1; have hfz30_2 := blk_frozen BK267.out 2; have hfz30_3 := blk_frozen BK267.out 3; have hfz30_4 := blk_frozen BK267.out 4; have hfz30_5 := blk_frozen BK267.out 5) | (G78_; refine goesL_ (some 40) rfl rfl Try.func54 (by kernel_rfl) rfl #[.agg G12_] rfl G4_ ?_; G84_; rintro e w31 ⟨rfl, hb⟩; refine ⟨_, rfl, ?_⟩; have n0_ := Aside0.mk G28_; have n1_ := Aside0.mk (IsS133.below (show IsS133 w (((w29.setCell ⟨gb267, 5, none⟩ (.string t292)).setCell ⟨gb267, 3, none⟩ (.int .i64 (wrap64 (8 * t280)))).setCell ⟨gb267, 4, none⟩ (.bool (t284 == 1))) gb266 t293 t294 t295 from by repeat G2_) hb); have n2_ := Aside0.mk G13_; have n3_ := Aside0.mk G95_; clear BK265; clear HI266; clear BK267; clear HB; have BK265 := n0_; have HI266 := n1_; have BK267 := n2_; have HB := n3_; clear n0_ n1_ n2_ n3_; (try clear hb); (try clear hb2); (try clear hk); (try clear hi)) | (G77_; refine goesL_ (some 44) rfl rfl Try.func102 (by kernel_rfl) rfl G14_ rfl G4_ ?_; G60_; G29_; G30_; rintro e w32 ⟨rfl, hi, hb, hk⟩; refine ⟨_, rfl, ?_⟩; have n0_ := Aside0.mk (KeepBut.blk hk (g' := gb265) (o := .cells G1_ 85 (0, 0)) G57_ NB265_266.out (by simp)); have n1_ := Aside0.mk (KeepBut.blk hk (g' := gb267) (o := .cells G12_ 85 (0, 0)) G58_ NB267_266.out (by simp)); have n2_ := Aside0.mk (hb); have n3_ := Aside0.mk (hi); clear BK265; clear BK267; clear HB; clear HI266; have BK265 := n0_; have BK267 := n1_; have HB := n2_; have HI266 := n3_; clear n0_ n1_ n2_ n3_; (try clear hb); (try clear hb2); (try clear hk); (try clear hi); have hcz33_0 : w32.cell? ⟨gb267, 0, none⟩ = some (.int .i64 t268) := (G45_).trans rfl; have hcz33_1 : w32.cell? ⟨gb267, 1, none⟩ = some (.int .i64 t272) := (G46_).trans rfl; have hcz33_2 : w32.cell? ⟨gb267, 2, none⟩ = some (.int .i64 t276) := (G47_).trans rfl; have hcz33_3 : w32.cell? ⟨gb267, 3, none⟩ = some (.int .i64 (wrap64 (8 * t280))) := (G48_).trans rfl; have hcz33_4 : w32.cell? ⟨gb267, 4, none⟩ = some (.bool (t284 == 1)) := (G49_).trans rfl; have hcz33_5 : w32.cell? ⟨gb267, 5, none⟩ = some (.string t292) := (G50_).trans rfl; have hfz33_0 := blk_frozen BK267.out 0; have hfz33_1 := blk_frozen BK267.out 1; have hfz33_2 := blk_frozen BK267.out 2; have hfz33_3 := blk_frozen BK267.out 3; have hfz33_4 := blk_frozen BK267.out 4; have hfz33_5 := blk_frozen BK267.out 5; have hnb34 := NB265_266.out; have hnc34 := NB266_265.out; have hcz35_0 : w32.cell? ⟨gb265, 0, none⟩ = some (.int .i64 0) := (blk_cell BK265.out 0).trans rfl; have hcz35_1 : w32.cell? ⟨gb265, 1, none⟩ = some (.int .i64 0) := (blk_cell BK265.out 1).trans rfl; have hcz35_2 : w32.cell? ⟨gb265, 2, none⟩ = some (.int .i64 0) := (blk_cell BK265.out 2).trans rfl; have hcz35_3 : w32.cell? ⟨gb265, 3, none⟩ = some (.int .i64 0) := (blk_cell BK265.out 3).trans rfl; have hcz35_4 : w32.cell? ⟨gb265, 4, none⟩ = some (.bool false) := (blk_cell BK265.out 4).trans rfl; have hcz35_5 : w32.cell? ⟨gb265, 5, none⟩ = some (.string (⟨#[]⟩ : ByteArray)) := (blk_cell BK265.out 5).trans rfl; have hfz35_0 := blk_frozen BK265.out 0; have hfz35_1 := blk_frozen BK265.out 1; have hfz35_2 := blk_frozen BK265.out 2; have hfz35_3 := blk_frozen BK265.out 3; have hfz35_4 := blk_frozen BK265.out 4; have hfz35_5 := blk_frozen BK265.out 5))
    refine bodyPost_ret (results_ct rfl _ _ gb265 85 G12_ (0, 0) _ rfl (by G0_; refine blk_put (cs := #[.int .i64 t268, .int .i64 t272, .int .i64 t276, .int .i64 (wrap64 (8 * t280)), .bool (t284 == 1), .string (⟨#[]⟩ : ByteArray)]) ?_ 5 _ rfl; G0_; refine blk_put (cs := #[.int .i64 t268, .int .i64 t272, .int .i64 t276, .int .i64 (wrap64 (8 * t280)), .bool false, .string (⟨#[]⟩ : ByteArray)]) ?_ 4 _ rfl; G0_; refine blk_put (cs := G7_) ?_ 3 _ rfl; G0_; refine blk_put (cs := G20_) ?_ 2 _ rfl; G0_; refine blk_put (cs := G22_) ?_ 1 _ rfl; G0_; refine blk_put (cs := G1_) ?_ 0 _ rfl; G0_; exact BK265.out) Try.underlying85 rfl (by kernel_rfl)) rfl ?_
    exact G91_
   ·rw [if_neg c13] at H
    have c13b0 : (t296.toList == a0.toList) = false := beq_eq_false_iff_ne.mpr c13
    have c13b1 : (t296.toList != a0.toList) = true := bne_iff_ne.mpr c13
    J6_
    J11_
    go_enter Try.func55, Try.ntmps55
    go_wp2_with (first | (G81_; refine box_event ?hg (N := 2) ?hd (cs := G1_) (t := 85) ?hr ?_; (case hd => rfl); (case hg => rfl); G16_; intro gb265 hg w36 hbox hb; have n0_ := Aside0.mk G67_; have n1_ := Aside0.mk (hbox); have n2_ := Aside0.mk (G35_); have n3_ := Aside0.mk (G35_); clear HB; have HB := n0_; have BK265 := n1_; have GW265 := n2_; have GE265 := n3_; clear n0_ n1_ n2_ n3_; clear hb hbox hg) | (G80_; refine box_event ?hg (N := 12) ?hd (cs := G92_) (t := 133) ?hr ?_; (case hd => rfl); (case hg => rfl); G16_; intro gb266 hg w37 hbox hb; have n0_ := Aside0.mk G31_; have n1_ := Aside0.mk (below_step G8_ hb); have n2_ := Aside0.mk (hbox); have n3_ := Aside0.mk (G37_); have n4_ := Aside0.mk (G37_); have n5_ := Aside0.mk (G72_); have n6_ := Aside0.mk (G69_); clear BK265; clear HB; have BK265 := n0_; have HB := n1_; have BK266 := n2_; have GW266 := n3_; have GE266 := n4_; have NB265_266 := n5_; have NB266_265 := n6_; clear n0_ n1_ n2_ n3_ n4_ n5_ n6_; clear hb hbox hg) | (G82_; refine box_event ?hg (N := 5) ?hd (cs := G1_) (t := 85) ?hr ?_; (case hd => rfl); (case hg => rfl); G16_; intro gb267 hg w38 hbox hb; have n0_ := Aside0.mk G31_; have n1_ := Aside0.mk G51_; have n2_ := Aside0.mk (below_step G6_ hb); have n3_ := Aside0.mk (hbox); have n4_ := Aside0.mk (G36_); have n5_ := Aside0.mk (G36_); have n6_ := Aside0.mk (G73_); have n7_ := Aside0.mk (G70_); have n8_ := Aside0.mk (G74_); have n9_ := Aside0.mk (G71_); clear BK265; clear BK266; clear HB; have BK265 := n0_; have BK266 := n1_; have HB := n2_; have BK267 := n3_; have GW267 := n4_; have GE267 := n5_; have NB265_267 := n6_; have NB267_265 := n7_; have NB266_267 := n8_; have NB267_266 := n9_; clear n0_ n1_ n2_ n3_ n4_ n5_ n6_ n7_ n8_ n9_; clear hb hbox hg; have hnb39 := NB267_265.out; have hnc39 := NB265_267.out; have hnb40 := NB267_266.out; have hnc40 := NB266_267.out; have hcz41_0 : w38.cell? ⟨gb267, 0, none⟩ = some (.int .i64 0) := (G45_).trans rfl; have hcz41_1 : w38.cell? ⟨gb267, 1, none⟩ = some (.int .i64 0) := (G46_).trans rfl; have hcz41_2 : w38.cell? ⟨gb267, 2, none⟩ = some (.int .i64 0) := (G47_).trans rfl; have hcz41_3 : w38.cell? ⟨gb267, 3, none⟩ = some (.int .i64 0) := (G48_).trans rfl; have hcz41_4 : w38.cell? ⟨gb267, 4, none⟩ = some (.bool false) := (G49_).trans rfl; have hcz41_5 : w38.cell? ⟨gb267, 5, none⟩ = some (.string (⟨#[]⟩ : ByteArray)) := (G50_).trans rfl; have hfz41_0 := blk_frozen BK267.out 0; have hfz41_1 := blk_frozen BK267.out 1; have hfz41_2 := blk_frozen BK267.out 2; have hfz41_3 := blk_frozen BK267.out 3; have hfz41_4 := blk_frozen BK267.out 4; have hfz41_5 := blk_frozen BK267.out 5) | (G24_; refine goesL_ (some 15) rfl rfl Try.func100 (by kernel_rfl) rfl G14_ rfl G4_ ?_; G52_; G17_; G25_; rintro e w42 ⟨rfl, hi, hb, hk⟩; refine ⟨_, rfl, ?_⟩; have n0_ := Aside0.mk (KeepBut.blk hk (g' := gb265) (o := .cells G1_ 85 (0, 0)) G21_ NB265_266.out (by simp)); have n1_ := Aside0.mk (KeepBut.blk hk (g' := gb267) (o := .cells G1_ 85 (0, 0)) G18_ NB267_266.out (by simp)); have n2_ := Aside0.mk (hb); have n3_ := Aside0.mk (hi); clear BK265; clear BK267; clear HB; have BK265 := n0_; have BK267 := n1_; have HB := n2_; have HI266 := n3_; clear n0_ n1_ n2_ n3_; (try clear hb); (try clear hb2); (try clear hk); (try clear hi); (try clear BK266); have hcz43_0 : w42.cell? ⟨gb267, 0, none⟩ = some (.int .i64 0) := (G45_).trans rfl; have hcz43_1 : w42.cell? ⟨gb267, 1, none⟩ = some (.int .i64 0) := (G46_).trans rfl; have hcz43_2 : w42.cell? ⟨gb267, 2, none⟩ = some (.int .i64 0) := (G47_).trans rfl; have hcz43_3 : w42.cell? ⟨gb267, 3, none⟩ = some (.int .i64 0) := (G48_).trans rfl; have hcz43_4 : w42.cell? ⟨gb267, 4, none⟩ = some (.bool false) := (G49_).trans rfl; have hcz43_5 : w42.cell? ⟨gb267, 5, none⟩ = some (.string (⟨#[]⟩ : ByteArray)) := (G50_).trans rfl; have hfz43_0 := blk_frozen BK267.out 0; have hfz43_1 := blk_frozen BK267.out 1; have hfz43_2 := blk_frozen BK267.out 2; have hfz43_3 := blk_frozen BK267.out 3; have hfz43_4 := blk_frozen BK267.out 4; have hfz43_5 := blk_frozen BK267.out 5) | (G24_; refine goesL_ (some 18) rfl rfl Try.func100 (by kernel_rfl) rfl G14_ rfl G4_ ?_; G42_; G29_; G30_; rintro e w44 ⟨rfl, hi, hb, hk⟩; refine ⟨_, rfl, ?_⟩; have n0_ := Aside0.mk (KeepBut.blk hk (g' := gb265) (o := .cells G1_ 85 (0, 0)) G26_ NB265_266.out (by simp)); have n1_ := Aside0.mk (KeepBut.blk hk (g' := gb267) (o := .cells G22_ 85 (0, 0)) G65_ NB267_266.out (by simp)); have n2_ := Aside0.mk (hb); have n3_ := Aside0.mk (hi); clear BK265; clear BK267; clear HB; clear HI266; have BK265 := n0_; have BK267 := n1_; have HB := n2_; have HI266 := n3_; clear n0_ n1_ n2_ n3_; (try clear hb); (try clear hb2); (try clear hk); (try clear hi); have hcz45_0 : w44.cell? ⟨gb267, 0, none⟩ = some (.int .i64 t268) := (G45_).trans rfl; have hcz45_1 : w44.cell? ⟨gb267, 1, none⟩ = some (.int .i64 0) := (G46_).trans rfl; have hcz45_2 : w44.cell? ⟨gb267, 2, none⟩ = some (.int .i64 0) := (G47_).trans rfl; have hcz45_3 : w44.cell? ⟨gb267, 3, none⟩ = some (.int .i64 0) := (G48_).trans rfl; have hcz45_4 : w44.cell? ⟨gb267, 4, none⟩ = some (.bool false) := (G49_).trans rfl; have hcz45_5 : w44.cell? ⟨gb267, 5, none⟩ = some (.string (⟨#[]⟩ : ByteArray)) := (G50_).trans rfl; have hfz45_0 := blk_frozen BK267.out 0; have hfz45_1 := blk_frozen BK267.out 1; have hfz45_2 := blk_frozen BK267.out 2; have hfz45_3 := blk_frozen BK267.out 3; have hfz45_4 := blk_frozen BK267.out 4; have hfz45_5 := blk_frozen BK267.out 5) | (G54_; refine goesL_ (some 21) rfl rfl Try.func99 (by kernel_rfl) rfl G14_ rfl G4_ ?_; G40_; G29_; G30_; rintro e w46 ⟨rfl, hi, hb, hk⟩; refine ⟨_, rfl, ?_⟩; have n0_ := Aside0.mk (KeepBut.blk hk (g' := gb265) (o := .cells G1_ 85 (0, 0)) G26_ NB265_266.out (by simp)); have n1_ := Aside0.mk (KeepBut.blk hk (g' := gb267) (o := .cells G20_ 85 (0, 0)) G64_ NB267_266.out (by simp)); have n2_ := Aside0.mk (hb); have n3_ := Aside0.mk (hi); clear BK265; clear BK267; clear HB; clear HI266; have BK265 := n0_; have BK267 := n1_; have HB := n2_; have HI266 := n3_; clear n0_ n1_ n2_ n3_; (try clear hb); (try clear hb2); (try clear hk); (try clear hi); have hcz47_0 : w46.cell? ⟨gb267, 0, none⟩ = some (.int .i64 t268) := (G45_).trans rfl; have hcz47_1 : w46.cell? ⟨gb267, 1, none⟩ = some (.int .i64 t272) := (G46_).trans rfl; have hcz47_2 : w46.cell? ⟨gb267, 2, none⟩ = some (.int .i64 0) := (G47_).trans rfl; have hcz47_3 : w46.cell? ⟨gb267, 3, none⟩ = some (.int .i64 0) := (G48_).trans rfl; have hcz47_4 : w46.cell? ⟨gb267, 4, none⟩ = some (.bool false) := (G49_).trans rfl; have hcz47_5 : w46.cell? ⟨gb267, 5, none⟩ = some (.string (⟨#[]⟩ : ByteArray)) := (G50_).trans rfl; have hfz47_0 := blk_frozen BK267.out 0; have hfz47_1 := blk_frozen BK267.out 1; have hfz47_2 := blk_frozen BK267.out 2; have hfz47_3 := blk_frozen BK267.out 3; have hfz47_4 := blk_frozen BK267.out 4; have hfz47_5 := blk_frozen BK267.out 5) | (G24_; refine goesL_ (some 24) rfl rfl Try.func100 (by kernel_rfl) rfl G14_ rfl G4_ ?_; G43_; G29_; G30_; rintro e w48 ⟨rfl, hi, hb, hk⟩; refine ⟨_, rfl, ?_⟩; have n0_ := Aside0.mk (KeepBut.blk hk (g' := gb265) (o := .cells G1_ 85 (0, 0)) G26_ NB265_266.out (by simp)); have n1_ := Aside0.mk (KeepBut.blk hk (g' := gb267) (o := .cells G7_ 85 (0, 0)) G63_ NB267_266.out (by simp)); have n2_ := Aside0.mk (hb); have n3_ := Aside0.mk (hi); clear BK265; clear BK267; clear HB; clear HI266; have BK265 := n0_; have BK267 := n1_; have HB := n2_; have HI266 := n3_; clear n0_ n1_ n2_ n3_; (try clear hb); (try clear hb2); (try clear hk); (try clear hi)) | (G24_; refine goesL_ (some 26) rfl rfl Try.func100 (by kernel_rfl) rfl G14_ rfl G4_ ?_; G44_; G29_; G30_; rintro e w49 ⟨rfl, hi, hb, hk⟩; refine ⟨_, rfl, ?_⟩; have n0_ := Aside0.mk (KeepBut.blk hk (g' := gb265) (o := .cells G1_ 85 (0, 0)) G57_ NB265_266.out (by simp)); have n1_ := Aside0.mk (KeepBut.blk hk (g' := gb267) (o := .cells G7_ 85 (0, 0)) G58_ NB267_266.out (by simp)); have n2_ := Aside0.mk (hb); have n3_ := Aside0.mk (hi); clear BK265; clear BK267; clear HB; clear HI266; have BK265 := n0_; have BK267 := n1_; have HB := n2_; have HI266 := n3_; clear n0_ n1_ n2_ n3_; (try clear hb); (try clear hb2); (try clear hk); (try clear hi)) | (G54_; refine goesL_ (some 28) rfl rfl Try.func99 (by kernel_rfl) rfl G14_ rfl G4_ ?_; G41_; G29_; G30_; rintro e w50 ⟨rfl, hi, hb, hk⟩; refine ⟨_, rfl, ?_⟩; have n0_ := Aside0.mk (KeepBut.blk hk (g' := gb265) (o := .cells G1_ 85 (0, 0)) G57_ NB265_266.out (by simp)); have n1_ := Aside0.mk (KeepBut.blk hk (g' := gb267) (o := .cells G7_ 85 (0, 0)) G58_ NB267_266.out (by simp)); have n2_ := Aside0.mk (hb); have n3_ := Aside0.mk (hi); clear BK265; clear BK267; clear HB; clear HI266; have BK265 := n0_; have BK267 := n1_; have HB := n2_; have HI266 := n3_; clear n0_ n1_ n2_ n3_; (try clear hb); (try clear hb2); (try clear hk); (try clear hi)) | (G76_; refine goesL_ (some 30) rfl rfl Try.func101 (by kernel_rfl) rfl G14_ rfl G4_ ?_; G39_; G29_; G30_; rintro e w51 ⟨rfl, hi, hb, hk⟩; refine ⟨_, rfl, ?_⟩; have n0_ := Aside0.mk (KeepBut.blk hk (g' := gb265) (o := .cells G1_ 85 (0, 0)) G57_ NB265_266.out (by simp)); have n1_ := Aside0.mk (KeepBut.blk hk (g' := gb267) (o := .cells G7_ 85 (0, 0)) G58_ NB267_266.out (by simp)); have n2_ := Aside0.mk (hb); have n3_ := Aside0.mk (hi); clear BK265; clear BK267; clear HB; clear HI266; have BK265 := n0_; have BK267 := n1_; have HB := n2_; have HI266 := n3_; clear n0_ n1_ n2_ n3_; (try clear hb); (try clear hb2); (try clear hk); (try clear hi); have hcz52_0 : w51.cell? ⟨gb267, 0, none⟩ = some (.int .i64 t268) := (G45_).trans rfl; have hcz52_1 : w51.cell? ⟨gb267, 1, none⟩ = some (.int .i64 t272) := (G46_).trans rfl; have hcz52_2 : w51.cell? ⟨gb267, 2, none⟩ = some (.int .i64 t276) := (G47_).trans rfl; have hcz52_3 : w51.cell? ⟨gb267, 3, none⟩ = some (.int .i64 0) := (G48_).trans rfl; have hcz52_4 : w51.cell? ⟨gb267, 4, none⟩ = some (.bool false) := (G49_).trans rfl; have hcz52_5 : w51.cell? ⟨gb267, 5, none⟩ = some (.string (⟨#[]⟩ : ByteArray)) := (G50_).trans rfl; have hfz52_0 := blk_frozen BK267.out 0; have hfz52_1 := blk_frozen BK267.out 1; have hfz52_2 := blk_frozen BK267.out 2; have hfz52_3 := blk_frozen BK267.out 3; have hfz52_4 := blk_frozen BK267.out 4; have hfz52_5 := blk_frozen BK267.out 5) | (G78_; refine goesL_ (some 40) rfl rfl Try.func54 (by kernel_rfl) rfl #[.agg G12_] rfl G4_ ?_; G84_; rintro e w53 ⟨rfl, hb⟩; refine ⟨_, rfl, ?_⟩; have n0_ := Aside0.mk G28_; have n1_ := Aside0.mk (IsS133.below (show IsS133 w (((w51.setCell ⟨gb267, 5, none⟩ (.string t292)).setCell ⟨gb267, 3, none⟩ (.int .i64 (wrap64 (8 * t280)))).setCell ⟨gb267, 4, none⟩ (.bool (t284 == 1))) gb266 t293 t294 t295 from by repeat G2_) hb); have n2_ := Aside0.mk G13_; have n3_ := Aside0.mk G95_; clear BK265; clear HI266; clear BK267; clear HB; have BK265 := n0_; have HI266 := n1_; have BK267 := n2_; have HB := n3_; clear n0_ n1_ n2_ n3_; (try clear hb); (try clear hb2); (try clear hk); (try clear hi)) | (G77_; refine goesL_ (some 44) rfl rfl Try.func102 (by kernel_rfl) rfl G14_ rfl G4_ ?_; G60_; G29_; G30_; rintro e w54 ⟨rfl, hi, hb, hk⟩; refine ⟨_, rfl, ?_⟩; have n0_ := Aside0.mk (KeepBut.blk hk (g' := gb265) (o := .cells G1_ 85 (0, 0)) G57_ NB265_266.out (by simp)); have n1_ := Aside0.mk (KeepBut.blk hk (g' := gb267) (o := .cells G12_ 85 (0, 0)) G58_ NB267_266.out (by simp)); have n2_ := Aside0.mk (hb); have n3_ := Aside0.mk (hi); clear BK265; clear BK267; clear HB; clear HI266; have BK265 := n0_; have BK267 := n1_; have HB := n2_; have HI266 := n3_; clear n0_ n1_ n2_ n3_; (try clear hb); (try clear hb2); (try clear hk); (try clear hi); have hnb55 := NB265_266.out; have hnc55 := NB266_265.out; have hcz56_0 : w54.cell? ⟨gb265, 0, none⟩ = some (.int .i64 0) := (blk_cell BK265.out 0).trans rfl; have hcz56_1 : w54.cell? ⟨gb265, 1, none⟩ = some (.int .i64 0) := (blk_cell BK265.out 1).trans rfl; have hcz56_2 : w54.cell? ⟨gb265, 2, none⟩ = some (.int .i64 0) := (blk_cell BK265.out 2).trans rfl; have hcz56_3 : w54.cell? ⟨gb265, 3, none⟩ = some (.int .i64 0) := (blk_cell BK265.out 3).trans rfl; have hcz56_4 : w54.cell? ⟨gb265, 4, none⟩ = some (.bool false) := (blk_cell BK265.out 4).trans rfl; have hcz56_5 : w54.cell? ⟨gb265, 5, none⟩ = some (.string (⟨#[]⟩ : ByteArray)) := (blk_cell BK265.out 5).trans rfl; have hfz56_0 := blk_frozen BK265.out 0; have hfz56_1 := blk_frozen BK265.out 1; have hfz56_2 := blk_frozen BK265.out 2; have hfz56_3 := blk_frozen BK265.out 3; have hfz56_4 := blk_frozen BK265.out 4; have hfz56_5 := blk_frozen BK265.out 5))
    J0_
  ·replace c12 := Bool.eq_false_iff.mpr c12
   subst c12
   J16_
   J6_
   J11_
   go_enter Try.func55, Try.ntmps55
   go_wp2_with (first | (G81_; refine box_event ?hg (N := 2) ?hd (cs := G1_) (t := 85) ?hr ?_; (case hd => rfl); (case hg => rfl); G16_; intro gb265 hg w57 hbox hb; have n0_ := Aside0.mk G67_; have n1_ := Aside0.mk (hbox); have n2_ := Aside0.mk (G35_); have n3_ := Aside0.mk (G35_); clear HB; have HB := n0_; have BK265 := n1_; have GW265 := n2_; have GE265 := n3_; clear n0_ n1_ n2_ n3_; clear hb hbox hg) | (G80_; refine box_event ?hg (N := 12) ?hd (cs := G92_) (t := 133) ?hr ?_; (case hd => rfl); (case hg => rfl); G16_; intro gb266 hg w58 hbox hb; have n0_ := Aside0.mk G31_; have n1_ := Aside0.mk (below_step G8_ hb); have n2_ := Aside0.mk (hbox); have n3_ := Aside0.mk (G37_); have n4_ := Aside0.mk (G37_); have n5_ := Aside0.mk (G72_); have n6_ := Aside0.mk (G69_); clear BK265; clear HB; have BK265 := n0_; have HB := n1_; have BK266 := n2_; have GW266 := n3_; have GE266 := n4_; have NB265_266 := n5_; have NB266_265 := n6_; clear n0_ n1_ n2_ n3_ n4_ n5_ n6_; clear hb hbox hg) | (G82_; refine box_event ?hg (N := 5) ?hd (cs := G1_) (t := 85) ?hr ?_; (case hd => rfl); (case hg => rfl); G16_; intro gb267 hg w59 hbox hb; have n0_ := Aside0.mk G31_; have n1_ := Aside0.mk G51_; have n2_ := Aside0.mk (below_step G6_ hb); have n3_ := Aside0.mk (hbox); have n4_ := Aside0.mk (G36_); have n5_ := Aside0.mk (G36_); have n6_ := Aside0.mk (G73_); have n7_ := Aside0.mk (G70_); have n8_ := Aside0.mk (G74_); have n9_ := Aside0.mk (G71_); clear BK265; clear BK266; clear HB; have BK265 := n0_; have BK266 := n1_; have HB := n2_; have BK267 := n3_; have GW267 := n4_; have GE267 := n5_; have NB265_267 := n6_; have NB267_265 := n7_; have NB266_267 := n8_; have NB267_266 := n9_; clear n0_ n1_ n2_ n3_ n4_ n5_ n6_ n7_ n8_ n9_; clear hb hbox hg; have hnb60 := NB267_265.out; have hnc60 := NB265_267.out; have hnb61 := NB267_266.out; have hnc61 := NB266_267.out; have hcz62_0 : w59.cell? ⟨gb267, 0, none⟩ = some (.int .i64 0) := (G45_).trans rfl; have hcz62_1 : w59.cell? ⟨gb267, 1, none⟩ = some (.int .i64 0) := (G46_).trans rfl; have hcz62_2 : w59.cell? ⟨gb267, 2, none⟩ = some (.int .i64 0) := (G47_).trans rfl; have hcz62_3 : w59.cell? ⟨gb267, 3, none⟩ = some (.int .i64 0) := (G48_).trans rfl; have hcz62_4 : w59.cell? ⟨gb267, 4, none⟩ = some (.bool false) := (G49_).trans rfl; have hcz62_5 : w59.cell? ⟨gb267, 5, none⟩ = some (.string (⟨#[]⟩ : ByteArray)) := (G50_).trans rfl; have hfz62_0 := blk_frozen BK267.out 0; have hfz62_1 := blk_frozen BK267.out 1; have hfz62_2 := blk_frozen BK267.out 2; have hfz62_3 := blk_frozen BK267.out 3; have hfz62_4 := blk_frozen BK267.out 4; have hfz62_5 := blk_frozen BK267.out 5) | (G24_; refine goesL_ (some 15) rfl rfl Try.func100 (by kernel_rfl) rfl G14_ rfl G4_ ?_; G52_; G17_; G25_; rintro e w63 ⟨rfl, hi, hb, hk⟩; refine ⟨_, rfl, ?_⟩; have n0_ := Aside0.mk (KeepBut.blk hk (g' := gb265) (o := .cells G1_ 85 (0, 0)) G21_ NB265_266.out (by simp)); have n1_ := Aside0.mk (KeepBut.blk hk (g' := gb267) (o := .cells G1_ 85 (0, 0)) G18_ NB267_266.out (by simp)); have n2_ := Aside0.mk (hb); have n3_ := Aside0.mk (hi); clear BK265; clear BK267; clear HB; have BK265 := n0_; have BK267 := n1_; have HB := n2_; have HI266 := n3_; clear n0_ n1_ n2_ n3_; (try clear hb); (try clear hb2); (try clear hk); (try clear hi); (try clear BK266); have hcz64_0 : w63.cell? ⟨gb267, 0, none⟩ = some (.int .i64 0) := (G45_).trans rfl; have hcz64_1 : w63.cell? ⟨gb267, 1, none⟩ = some (.int .i64 0) := (G46_).trans rfl; have hcz64_2 : w63.cell? ⟨gb267, 2, none⟩ = some (.int .i64 0) := (G47_).trans rfl; have hcz64_3 : w63.cell? ⟨gb267, 3, none⟩ = some (.int .i64 0) := (G48_).trans rfl; have hcz64_4 : w63.cell? ⟨gb267, 4, none⟩ = some (.bool false) := (G49_).trans rfl; have hcz64_5 : w63.cell? ⟨gb267, 5, none⟩ = some (.string (⟨#[]⟩ : ByteArray)) := (G50_).trans rfl; have hfz64_0 := blk_frozen BK267.out 0; have hfz64_1 := blk_frozen BK267.out 1; have hfz64_2 := blk_frozen BK267.out 2; have hfz64_3 := blk_frozen BK267.out 3; have hfz64_4 := blk_frozen BK267.out 4; have hfz64_5 := blk_frozen BK267.out 5) | (G24_; refine goesL_ (some 18) rfl rfl Try.func100 (by kernel_rfl) rfl G14_ rfl G4_ ?_; G42_; G29_; G30_; rintro e w65 ⟨rfl, hi, hb, hk⟩; refine ⟨_, rfl, ?_⟩; have n0_ := Aside0.mk (KeepBut.blk hk (g' := gb265) (o := .cells G1_ 85 (0, 0)) G26_ NB265_266.out (by simp)); have n1_ := Aside0.mk (KeepBut.blk hk (g' := gb267) (o := .cells G22_ 85 (0, 0)) G65_ NB267_266.out (by simp)); have n2_ := Aside0.mk (hb); have n3_ := Aside0.mk (hi); clear BK265; clear BK267; clear HB; clear HI266; have BK265 := n0_; have BK267 := n1_; have HB := n2_; have HI266 := n3_; clear n0_ n1_ n2_ n3_; (try clear hb); (try clear hb2); (try clear hk); (try clear hi); have hcz66_0 : w65.cell? ⟨gb267, 0, none⟩ = some (.int .i64 t268) := (G45_).trans rfl; have hcz66_1 : w65.cell? ⟨gb267, 1, none⟩ = some (.int .i64 0) := (G46_).trans rfl; have hcz66_2 : w65.cell? ⟨gb267, 2, none⟩ = some (.int .i64 0) := (G47_).trans rfl; have hcz66_3 : w65.cell? ⟨gb267, 3, none⟩ = some (.int .i64 0) := (G48_).trans rfl; have hcz66_4 : w65.cell? ⟨gb267, 4, none⟩ = some (.bool false) := (G49_).trans rfl; have hcz66_5 : w65.cell? ⟨gb267, 5, none⟩ = some (.string (⟨#[]⟩ : ByteArray)) := (G50_).trans rfl; have hfz66_0 := blk_frozen BK267.out 0; have hfz66_1 := blk_frozen BK267.out 1; have hfz66_2 := blk_frozen BK267.out 2; have hfz66_3 := blk_frozen BK267.out 3; have hfz66_4 := blk_frozen BK267.out 4; have hfz66_5 := blk_frozen BK267.out 5) | (G54_; refine goesL_ (some 21) rfl rfl Try.func99 (by kernel_rfl) rfl G14_ rfl G4_ ?_; G40_; G29_; G30_; rintro e w67 ⟨rfl, hi, hb, hk⟩; refine ⟨_, rfl, ?_⟩; have n0_ := Aside0.mk (KeepBut.blk hk (g' := gb265) (o := .cells G1_ 85 (0, 0)) G26_ NB265_266.out (by simp)); have n1_ := Aside0.mk (KeepBut.blk hk (g' := gb267) (o := .cells G20_ 85 (0, 0)) G64_ NB267_266.out (by simp)); have n2_ := Aside0.mk (hb); have n3_ := Aside0.mk (hi); clear BK265; clear BK267; clear HB; clear HI266; have BK265 := n0_; have BK267 := n1_; have HB := n2_; have HI266 := n3_; clear n0_ n1_ n2_ n3_; (try clear hb); (try clear hb2); (try clear hk); (try clear hi); have hcz68_0 : w67.cell? ⟨gb267, 0, none⟩ = some (.int .i64 t268) := (G45_).trans rfl; have hcz68_1 : w67.cell? ⟨gb267, 1, none⟩ = some (.int .i64 t272) := (G46_).trans rfl; have hcz68_2 : w67.cell? ⟨gb267, 2, none⟩ = some (.int .i64 0) := (G47_).trans rfl; have hcz68_3 : w67.cell? ⟨gb267, 3, none⟩ = some (.int .i64 0) := (G48_).trans rfl; have hcz68_4 : w67.cell? ⟨gb267, 4, none⟩ = some (.bool false) := (G49_).trans rfl; have hcz68_5 : w67.cell? ⟨gb267, 5, none⟩ = some (.string (⟨#[]⟩ : ByteArray)) := (G50_).trans rfl; have hfz68_0 := blk_frozen BK267.out 0; have hfz68_1 := blk_frozen BK267.out 1; have hfz68_2 := blk_frozen BK267.out 2; have hfz68_3 := blk_frozen BK267.out 3; have hfz68_4 := blk_frozen BK267.out 4; have hfz68_5 := blk_frozen BK267.out 5) | (G24_; refine goesL_ (some 24) rfl rfl Try.func100 (by kernel_rfl) rfl G14_ rfl G4_ ?_; G43_; G29_; G30_; rintro e w69 ⟨rfl, hi, hb, hk⟩; refine ⟨_, rfl, ?_⟩; have n0_ := Aside0.mk (KeepBut.blk hk (g' := gb265) (o := .cells G1_ 85 (0, 0)) G26_ NB265_266.out (by simp)); have n1_ := Aside0.mk (KeepBut.blk hk (g' := gb267) (o := .cells G7_ 85 (0, 0)) G63_ NB267_266.out (by simp)); have n2_ := Aside0.mk (hb); have n3_ := Aside0.mk (hi); clear BK265; clear BK267; clear HB; clear HI266; have BK265 := n0_; have BK267 := n1_; have HB := n2_; have HI266 := n3_; clear n0_ n1_ n2_ n3_; (try clear hb); (try clear hb2); (try clear hk); (try clear hi)) | (G24_; refine goesL_ (some 26) rfl rfl Try.func100 (by kernel_rfl) rfl G14_ rfl G4_ ?_; G44_; G29_; G30_; rintro e w70 ⟨rfl, hi, hb, hk⟩; refine ⟨_, rfl, ?_⟩; have n0_ := Aside0.mk (KeepBut.blk hk (g' := gb265) (o := .cells G1_ 85 (0, 0)) G57_ NB265_266.out (by simp)); have n1_ := Aside0.mk (KeepBut.blk hk (g' := gb267) (o := .cells G7_ 85 (0, 0)) G58_ NB267_266.out (by simp)); have n2_ := Aside0.mk (hb); have n3_ := Aside0.mk (hi); clear BK265; clear BK267; clear HB; clear HI266; have BK265 := n0_; have BK267 := n1_; have HB := n2_; have HI266 := n3_; clear n0_ n1_ n2_ n3_; (try clear hb); (try clear hb2); (try clear hk); (try clear hi)) | (G54_; refine goesL_ (some 28) rfl rfl Try.func99 (by kernel_rfl) rfl G14_ rfl G4_ ?_; G41_; G29_; G30_; rintro e w71 ⟨rfl, hi, hb, hk⟩; refine ⟨_, rfl, ?_⟩; have n0_ := Aside0.mk (KeepBut.blk hk (g' := gb265) (o := .cells G1_ 85 (0, 0)) G57_ NB265_266.out (by simp)); have n1_ := Aside0.mk (KeepBut.blk hk (g' := gb267) (o := .cells G7_ 85 (0, 0)) G58_ NB267_266.out (by simp)); have n2_ := Aside0.mk (hb); have n3_ := Aside0.mk (hi); clear BK265; clear BK267; clear HB; clear HI266; have BK265 := n0_; have BK267 := n1_; have HB := n2_; have HI266 := n3_; clear n0_ n1_ n2_ n3_; (try clear hb); (try clear hb2); (try clear hk); (try clear hi)) | (G76_; refine goesL_ (some 30) rfl rfl Try.func101 (by kernel_rfl) rfl G14_ rfl G4_ ?_; G39_; G29_; G30_; rintro e w72 ⟨rfl, hi, hb, hk⟩; refine ⟨_, rfl, ?_⟩; have n0_ := Aside0.mk (KeepBut.blk hk (g' := gb265) (o := .cells G1_ 85 (0, 0)) G57_ NB265_266.out (by simp)); have n1_ := Aside0.mk (KeepBut.blk hk (g' := gb267) (o := .cells G7_ 85 (0, 0)) G58_ NB267_266.out (by simp)); have n2_ := Aside0.mk (hb); have n3_ := Aside0.mk (hi); clear BK265; clear BK267; clear HB; clear HI266; have BK265 := n0_; have BK267 := n1_; have HB := n2_; have HI266 := n3_; clear n0_ n1_ n2_ n3_; (try clear hb); (try clear hb2); (try clear hk); (try clear hi); have hcz73_0 : w72.cell? ⟨gb267, 0, none⟩ = some (.int .i64 t268) := (G45_).trans rfl; have hcz73_1 : w72.cell? ⟨gb267, 1, none⟩ = some (.int .i64 t272) := (G46_).trans rfl; have hcz73_2 : w72.cell? ⟨gb267, 2, none⟩ = some (.int .i64 t276) := (G47_).trans rfl; have hcz73_3 : w72.cell? ⟨gb267, 3, none⟩ = some (.int .i64 0) := (G48_).trans rfl; have hcz73_4 : w72.cell? ⟨gb267, 4, none⟩ = some (.bool false) := (G49_).trans rfl; have hcz73_5 : w72.cell? ⟨gb267, 5, none⟩ = some (.string (⟨#[]⟩ : ByteArray)) := (G50_).trans rfl; have hfz73_0 := blk_frozen BK267.out 0; have hfz73_1 := blk_frozen BK267.out 1; have hfz73_2 := blk_frozen BK267.out 2; have hfz73_3 := blk_frozen BK267.out 3; have hfz73_4 := blk_frozen BK267.out 4; have hfz73_5 := blk_frozen BK267.out 5) | (G78_; refine goesL_ (some 40) rfl rfl Try.func54 (by kernel_rfl) rfl #[.agg G12_] rfl G4_ ?_; (with_reducible refine (impl_DgramText.calls k t268 t272 t276 (wrap64 (8 * t280)) (t284 == 1) t292 t296 false _ A9.out).mono ?_); rintro e w74 ⟨rfl, hb⟩; refine ⟨_, rfl, ?_⟩; have n0_ := Aside0.mk G28_; have n1_ := Aside0.mk (IsS133.below (show IsS133 w (((w72.setCell ⟨gb267, 5, none⟩ (.string t292)).setCell ⟨gb267, 3, none⟩ (.int .i64 (wrap64 (8 * t280)))).setCell ⟨gb267, 4, none⟩ (.bool (t284 == 1))) gb266 t293 t294 t295 from by repeat G2_) hb); have n2_ := Aside0.mk G13_; have n3_ := Aside0.mk G95_; clear BK265; clear HI266; clear BK267; clear HB; have BK265 := n0_; have HI266 := n1_; have BK267 := n2_; have HB := n3_; clear n0_ n1_ n2_ n3_; (try clear hb); (try clear hb2); (try clear hk); (try clear hi)) | (G77_; refine goesL_ (some 44) rfl rfl Try.func102 (by kernel_rfl) rfl G14_ rfl G4_ ?_; G60_; G29_; G30_; rintro e w75 ⟨rfl, hi, hb, hk⟩; refine ⟨_, rfl, ?_⟩; have n0_ := Aside0.mk (KeepBut.blk hk (g' := gb265) (o := .cells G1_ 85 (0, 0)) G57_ NB265_266.out (by simp)); have n1_ := Aside0.mk (KeepBut.blk hk (g' := gb267) (o := .cells G12_ 85 (0, 0)) G58_ NB267_266.out (by simp)); have n2_ := Aside0.mk (hb); have n3_ := Aside0.mk (hi); clear BK265; clear BK267; clear HB; clear HI266; have BK265 := n0_; have BK267 := n1_; have HB := n2_; have HI266 := n3_; clear n0_ n1_ n2_ n3_; (try clear hb); (try clear hb2); (try clear hk); (try clear hi); have hnb76 := NB265_266.out; have hnc76 := NB266_265.out; have hcz77_0 : w75.cell? ⟨gb265, 0, none⟩ = some (.int .i64 0) := (blk_cell BK265.out 0).trans rfl; have hcz77_1 : w75.cell? ⟨gb265, 1, none⟩ = some (.int .i64 0) := (blk_cell BK265.out 1).trans rfl; have hcz77_2 : w75.cell? ⟨gb265, 2, none⟩ = some (.int .i64 0) := (blk_cell BK265.out 2).trans rfl; have hcz77_3 : w75.cell? ⟨gb265, 3, none⟩ = some (.int .i64 0) := (blk_cell BK265.out 3).trans rfl; have hcz77_4 : w75.cell? ⟨gb265, 4, none⟩ = some (.bool false) := (blk_cell BK265.out 4).trans rfl; have hcz77_5 : w75.cell? ⟨gb265, 5, none⟩ = some (.string (⟨#[]⟩ : ByteArray)) := (blk_cell BK265.out 5).trans rfl; have hfz77_0 := blk_frozen BK265.out 0; have hfz77_1 := blk_frozen BK265.out 1; have hfz77_2 := blk_frozen BK265.out 2; have hfz77_3 := blk_frozen BK265.out 3; have hfz77_4 := blk_frozen BK265.out 4; have hfz77_5 := blk_frozen BK265.out 5))
   J0_
 ·replace c11 := Bool.eq_false_iff.mpr c11
  subst c11
  J16_
  J6_
  J11_
  go_enter Try.func55, Try.ntmps55
  go_wp2_with (first | (G81_; refine box_event ?hg (N := 2) ?hd (cs := G1_) (t := 85) ?hr ?_; (case hd => rfl); (case hg => rfl); G16_; intro gb265 hg w78 hbox hb; have n0_ := Aside0.mk G67_; have n1_ := Aside0.mk (hbox); have n2_ := Aside0.mk (G35_); have n3_ := Aside0.mk (G35_); clear HB; have HB := n0_; have BK265 := n1_; have GW265 := n2_; have GE265 := n3_; clear n0_ n1_ n2_ n3_; clear hb hbox hg) | (G80_; refine box_event ?hg (N := 12) ?hd (cs := G92_) (t := 133) ?hr ?_; (case hd => rfl); (case hg => rfl); G16_; intro gb266 hg w79 hbox hb; have n0_ := Aside0.mk G31_; have n1_ := Aside0.mk (below_step G8_ hb); have n2_ := Aside0.mk (hbox); have n3_ := Aside0.mk (G37_); have n4_ := Aside0.mk (G37_); have n5_ := Aside0.mk (G72_); have n6_ := Aside0.mk (G69_); clear BK265; clear HB; have BK265 := n0_; have HB := n1_; have BK266 := n2_; have GW266 := n3_; have GE266 := n4_; have NB265_266 := n5_; have NB266_265 := n6_; clear n0_ n1_ n2_ n3_ n4_ n5_ n6_; clear hb hbox hg) | (G82_; refine box_event ?hg (N := 5) ?hd (cs := G1_) (t := 85) ?hr ?_; (case hd => rfl); (case hg => rfl); G16_; intro gb267 hg w80 hbox hb; have n0_ := Aside0.mk G31_; have n1_ := Aside0.mk G51_; have n2_ := Aside0.mk (below_step G6_ hb); have n3_ := Aside0.mk (hbox); have n4_ := Aside0.mk (G36_); have n5_ := Aside0.mk (G36_); have n6_ := Aside0.mk (G73_); have n7_ := Aside0.mk (G70_); have n8_ := Aside0.mk (G74_); have n9_ := Aside0.mk (G71_); clear BK265; clear BK266; clear HB; have BK265 := n0_; have BK266 := n1_; have HB := n2_; have BK267 := n3_; have GW267 := n4_; have GE267 := n5_; have NB265_267 := n6_; have NB267_265 := n7_; have NB266_267 := n8_; have NB267_266 := n9_; clear n0_ n1_ n2_ n3_ n4_ n5_ n6_ n7_ n8_ n9_; clear hb hbox hg; have hnb81 := NB267_265.out; have hnc81 := NB265_267.out; have hnb82 := NB267_266.out; have hnc82 := NB266_267.out; have hcz83_0 : w80.cell? ⟨gb267, 0, none⟩ = some (.int .i64 0) := (G45_).trans rfl; have hcz83_1 : w80.cell? ⟨gb267, 1, none⟩ = some (.int .i64 0) := (G46_).trans rfl; have hcz83_2 : w80.cell? ⟨gb267, 2, none⟩ = some (.int .i64 0) := (G47_).trans rfl; have hcz83_3 : w80.cell? ⟨gb267, 3, none⟩ = some (.int .i64 0) := (G48_).trans rfl; have hcz83_4 : w80.cell? ⟨gb267, 4, none⟩ = some (.bool false) := (G49_).trans rfl; have hcz83_5 : w80.cell? ⟨gb267, 5, none⟩ = some (.string (⟨#[]⟩ : ByteArray)) := (G50_).trans rfl; have hfz83_0 := blk_frozen BK267.out 0; have hfz83_1 := blk_frozen BK267.out 1; have hfz83_2 := blk_frozen BK267.out 2; have hfz83_3 := blk_frozen BK267.out 3; have hfz83_4 := blk_frozen BK267.out 4; have hfz83_5 := blk_frozen BK267.out 5) | (G24_; refine goesL_ (some 15) rfl rfl Try.func100 (by kernel_rfl) rfl G14_ rfl G4_ ?_; G52_; G17_; G25_; rintro e w84 ⟨rfl, hi, hb, hk⟩; refine ⟨_, rfl, ?_⟩; have n0_ := Aside0.mk (KeepBut.blk hk (g' := gb265) (o := .cells G1_ 85 (0, 0)) G21_ NB265_266.out (by simp)); have n1_ := Aside0.mk (KeepBut.blk hk (g' := gb267) (o := .cells G1_ 85 (0, 0)) G18_ NB267_266.out (by simp)); have n2_ := Aside0.mk (hb); have n3_ := Aside0.mk (hi); clear BK265; clear BK267; clear HB; have BK265 := n0_; have BK267 := n1_; have HB := n2_; have HI266 := n3_; clear n0_ n1_ n2_ n3_; (try clear hb); (try clear hb2); (try clear hk); (try clear hi); (try clear BK266); have hcz85_0 : w84.cell? ⟨gb267, 0, none⟩ = some (.int .i64 0) := (G45_).trans rfl; have hcz85_1 : w84.cell? ⟨gb267, 1, none⟩ = some (.int .i64 0) := (G46_).trans rfl; have hcz85_2 : w84.cell? ⟨gb267, 2, none⟩ = some (.int .i64 0) := (G47_).trans rfl; have hcz85_3 : w84.cell? ⟨gb267, 3, none⟩ = some (.int .i64 0) := (G48_).trans rfl; have hcz85_4 : w84.cell? ⟨gb267, 4, none⟩ = some (.bool false) := (G49_).trans rfl; have hcz85_5 : w84.cell? ⟨gb267, 5, none⟩ = some (.string (⟨#[]⟩ : ByteArray)) := (G50_).trans rfl; have hfz85_0 := blk_frozen BK267.out 0; have hfz85_1 := blk_frozen BK267.out 1; have hfz85_2 := blk_frozen BK267.out 2; have hfz85_3 := blk_frozen BK267.out 3; have hfz85_4 := blk_frozen BK267.out 4; have hfz85_5 := blk_frozen BK267.out 5) | (G24_; refine goesL_ (some 18) rfl rfl Try.func100 (by kernel_rfl) rfl G14_ rfl G4_ ?_; G42_; G29_; G30_; rintro e w86 ⟨rfl, hi, hb, hk⟩; refine ⟨_, rfl, ?_⟩; have n0_ := Aside0.mk (KeepBut.blk hk (g' := gb265) (o := .cells G1_ 85 (0, 0)) G26_ NB265_266.out (by simp)); have n1_ := Aside0.mk (KeepBut.blk hk (g' := gb267) (o := .cells G22_ 85 (0, 0)) G65_ NB267_266.out (by simp)); have n2_ := Aside0.mk (hb); have n3_ := Aside0.mk (hi); clear BK265; clear BK267; clear HB; clear HI266; have BK265 := n0_; have BK267 := n1_; have HB := n2_; have HI266 := n3_; clear n0_ n1_ n2_ n3_; (try clear hb); (try clear hb2); (try clear hk); (try clear hi); have hcz87_0 : w86.cell? ⟨gb267, 0, none⟩ = some (.int .i64 t268) := (G45_).trans rfl; have hcz87_1 : w86.cell? ⟨gb267, 1, none⟩ = some (.int .i64 0) := (G46_).trans rfl; have hcz87_2 : w86.cell? ⟨gb267, 2, none⟩ = some (.int .i64 0) := (G47_).trans rfl; have hcz87_3 : w86.cell? ⟨gb267, 3, none⟩ = some (.int .i64 0) := (G48_).trans rfl; have hcz87_4 : w86.cell? ⟨gb267, 4, none⟩ = some (.bool false) := (G49_).trans rfl; have hcz87_5 : w86.cell? ⟨gb267, 5, none⟩ = some (.string (⟨#[]⟩ : ByteArray)) := (G50_).trans rfl; have hfz87_0 := blk_frozen BK267.out 0; have hfz87_1 := blk_frozen BK267.out 1; have hfz87_2 := blk_frozen BK267.out 2; have hfz87_3 := blk_frozen BK267.out 3; have hfz87_4 := blk_frozen BK267.out 4; have hfz87_5 := blk_frozen BK267.out 5) | (G54_; refine goesL_ (some 21) rfl rfl Try.func99 (by kernel_rfl) rfl G14_ rfl G4_ ?_; G40_; G29_; G30_; rintro e w88 ⟨rfl, hi, hb, hk⟩; refine ⟨_, rfl, ?_⟩; have n0_ := Aside0.mk (KeepBut.blk hk (g' := gb265) (o := .cells G1_ 85 (0, 0)) G26_ NB265_266.out (by simp)); have n1_ := Aside0.mk (KeepBut.blk hk (g' := gb267) (o := .cells G20_ 85 (0, 0)) G64_ NB267_266.out (by simp)); have n2_ := Aside0.mk (hb); have n3_ := Aside0.mk (hi); clear BK265; clear BK267; clear HB; clear HI266; have BK265 := n0_; have BK267 := n1_; have HB := n2_; have HI266 := n3_; clear n0_ n1_ n2_ n3_; (try clear hb); (try clear hb2); (try clear hk); (try clear hi); have hcz89_0 : w88.cell? ⟨gb267, 0, none⟩ = some (.int .i64 t268) := (G45_).trans rfl; have hcz89_1 : w88.cell? ⟨gb267, 1, none⟩ = some (.int .i64 t272) := (G46_).trans rfl; have hcz89_2 : w88.cell? ⟨gb267, 2, none⟩ = some (.int .i64 0) := (G47_).trans rfl; have hcz89_3 : w88.cell? ⟨gb267, 3, none⟩ = some (.int .i64 0) := (G48_).trans rfl; have hcz89_4 : w88.cell? ⟨gb267, 4, none⟩ = some (.bool false) := (G49_).trans rfl; have hcz89_5 : w88.cell? ⟨gb267, 5, none⟩ = some (.string (⟨#[]⟩ : ByteArray)) := (G50_).trans rfl; have hfz89_0 := blk_frozen BK267.out 0; have hfz89_1 := blk_frozen BK267.out 1; have hfz89_2 := blk_frozen BK267.out 2; have hfz89_3 := blk_frozen BK267.out 3; have hfz89_4 := blk_frozen BK267.out 4; have hfz89_5 := blk_frozen BK267.out 5) | (G24_; refine goesL_ (some 24) rfl rfl Try.func100 (by kernel_rfl) rfl G14_ rfl G4_ ?_; G43_; G29_; G30_; rintro e w90 ⟨rfl, hi, hb, hk⟩; refine ⟨_, rfl, ?_⟩; have n0_ := Aside0.mk (KeepBut.blk hk (g' := gb265) (o := .cells G1_ 85 (0, 0)) G26_ NB265_266.out (by simp)); have n1_ := Aside0.mk (KeepBut.blk hk (g' := gb267) (o := .cells G7_ 85 (0, 0)) G63_ NB267_266.out (by simp)); have n2_ := Aside0.mk (hb); have n3_ := Aside0.mk (hi); clear BK265; clear BK267; clear HB; clear HI266; have BK265 := n0_; have BK267 := n1_; have HB := n2_; have HI266 := n3_; clear n0_ n1_ n2_ n3_; (try clear hb); (try clear hb2); (try clear hk); (try clear hi)) | (G24_; refine goesL_ (some 26) rfl rfl Try.func100 (by kernel_rfl) rfl G14_ rfl G4_ ?_; G44_; G29_; G30_; rintro e w91 ⟨rfl, hi, hb, hk⟩; refine ⟨_, rfl, ?_⟩; have n0_ := Aside0.mk (KeepBut.blk hk (g' := gb265) (o := .cells G1_ 85 (0, 0)) G57_ NB265_266.out (by simp)); have n1_ := Aside0.mk (KeepBut.blk hk (g' := gb267) (o := .cells G7_ 85 (0, 0)) G58_ NB267_266.out (by simp)); have n2_ := Aside0.mk (hb); have n3_ := Aside0.mk (hi); clear BK265; clear BK267; clear HB; clear HI266; have BK265 := n0_; have BK267 := n1_; have HB := n2_; have HI266 := n3_; clear n0_ n1_ n2_ n3_; (try clear hb); (try clear hb2); (try clear hk); (try clear hi)) | (G54_; refine goesL_ (some 28) rfl rfl Try.func99 (by kernel_rfl) rfl G14_ rfl G4_ ?_; G41_; G29_; G30_; rintro e w92 ⟨rfl, hi, hb, hk⟩; refine ⟨_, rfl, ?_⟩; have n0_ := Aside0.mk (KeepBut.blk hk (g' := gb265) (o := .cells G1_ 85 (0, 0)) G57_ NB265_266.out (by simp)); have n1_ := Aside0.mk (KeepBut.blk hk (g' := gb267) (o := .cells G7_ 85 (0, 0)) G58_ NB267_266.out (by simp)); have n2_ := Aside0.mk (hb); have n3_ := Aside0.mk (hi); clear BK265; clear BK267; clear HB; clear HI266; have BK265 := n0_; have BK267 := n1_; have HB := n2_; have HI266 := n3_; clear n0_ n1_ n2_ n3_; (try clear hb); (try clear hb2); (try clear hk); (try clear hi)) | (G76_; refine goesL_ (some 30) rfl rfl Try.func101 (by kernel_rfl) rfl G14_ rfl G4_ ?_; G39_; G29_; G30_; rintro e w93 ⟨rfl, hi, hb, hk⟩; refine ⟨_, rfl, ?_⟩; have n0_ := Aside0.mk (KeepBut.blk hk (g' := gb265) (o := .cells G1_ 85 (0, 0)) G57_ NB265_266.out (by simp)); have n1_ := Aside0.mk (KeepBut.blk hk (g' := gb267) (o := .cells G7_ 85 (0, 0)) G58_ NB267_266.out (by simp)); have n2_ := Aside0.mk (hb); have n3_ := Aside0.mk (hi); clear BK265; clear BK267; clear HB; clear HI266; have BK265 := n0_; have BK267 := n1_; have HB := n2_; have HI266 := n3_; clear n0_ n1_ n2_ n3_; (try clear hb); (try clear hb2); (try clear hk); (try clear hi); have hcz94_0 : w93.cell? ⟨gb267, 0, none⟩ = some (.int .i64 t268) := (G45_).trans rfl; have hcz94_1 : w93.cell? ⟨gb267, 1, none⟩ = some (.int .i64 t272) := (G46_).trans rfl; have hcz94_2 : w93.cell? ⟨gb267, 2, none⟩ = some (.int .i64 t276) := (G47_).trans rfl; have hcz94_3 : w93.cell? ⟨gb267, 3, none⟩ = some (.int .i64 0) := (G48_).trans rfl; have hcz94_4 : w93.cell? ⟨gb267, 4, none⟩ = some (.bool false) := (G49_).trans rfl; have hcz94_5 : w93.cell? ⟨gb267, 5, none⟩ = some (.string (⟨#[]⟩ : ByteArray)) := (G50_).trans rfl; have hfz94_0 := blk_frozen BK267.out 0; have hfz94_1 := blk_frozen BK267.out 1; have hfz94_2 := blk_frozen BK267.out 2; have hfz94_3 := blk_frozen BK267.out 3; have hfz94_4 := blk_frozen BK267.out 4; have hfz94_5 := blk_frozen BK267.out 5) | (G78_; refine goesL_ (some 40) rfl rfl Try.func54 (by kernel_rfl) rfl #[.agg G12_] rfl G4_ ?_; (with_reducible refine (impl_DgramText.calls k t268 t272 t276 (wrap64 (8 * t280)) (t284 == 1) t292 t296 t297 _ A9.out).mono ?_); rintro e w95 ⟨rfl, hb⟩; refine ⟨_, rfl, ?_⟩; have n0_ := Aside0.mk G28_; have n1_ := Aside0.mk (IsS133.below (show IsS133 w (((w93.setCell ⟨gb267, 5, none⟩ (.string t292)).setCell ⟨gb267, 3, none⟩ (.int .i64 (wrap64 (8 * t280)))).setCell ⟨gb267, 4, none⟩ (.bool (t284 == 1))) gb266 t293 t294 t295 from by repeat G2_) hb); have n2_ := Aside0.mk G13_; have n3_ := Aside0.mk G95_; clear BK265; clear HI266; clear BK267; clear HB; have BK265 := n0_; have HI266 := n1_; have BK267 := n2_; have HB := n3_; clear n0_ n1_ n2_ n3_; (try clear hb); (try clear hb2); (try clear hk); (try clear hi)) | (G77_; refine goesL_ (some 44) rfl rfl Try.func102 (by kernel_rfl) rfl G14_ rfl G4_ ?_; (with_reducible refine (impl_scan_done.calls gb266 t293 t294 t295 false t299 t300 t301 w _ ?side1 ?side2 A10.out).mono ?_); G29_; G30_; rintro e w96 ⟨rfl, hi, hb, hk⟩; refine ⟨_, rfl, ?_⟩; have n0_ := Aside0.mk (KeepBut.blk hk (g' := gb265) (o := .cells G1_ 85 (0, 0)) G57_ NB265_266.out (by simp)); have n1_ := Aside0.mk (KeepBut.blk hk (g' := gb267) (o := .cells G12_ 85 (0, 0)) G58_ NB267_266.out (by simp)); have n2_ := Aside0.mk (hb); have n3_ := Aside0.mk (hi); clear BK265; clear BK267; clear HB; clear HI266; have BK265 := n0_; have BK267 := n1_; have HB := n2_; have HI266 := n3_; clear n0_ n1_ n2_ n3_; (try clear hb); (try clear hb2); (try clear hk); (try clear hi); have hnb97 := NB265_266.out; have hnc97 := NB266_265.out; have hcz98_0 : w96.cell? ⟨gb265, 0, none⟩ = some (.int .i64 0) := (blk_cell BK265.out 0).trans rfl; have hcz98_1 : w96.cell? ⟨gb265, 1, none⟩ = some (.int .i64 0) := (blk_cell BK265.out 1).trans rfl; have hcz98_2 : w96.cell? ⟨gb265, 2, none⟩ = some (.int .i64 0) := (blk_cell BK265.out 2).trans rfl; have hcz98_3 : w96.cell? ⟨gb265, 3, none⟩ = some (.int .i64 0) := (blk_cell BK265.out 3).trans rfl; have hcz98_4 : w96.cell? ⟨gb265, 4, none⟩ = some (.bool false) := (blk_cell BK265.out 4).trans rfl; have hcz98_5 : w96.cell? ⟨gb265, 5, none⟩ = some (.string (⟨#[]⟩ : ByteArray)) := (blk_cell BK265.out 5).trans rfl; have hfz98_0 := blk_frozen BK265.out 0; have hfz98_1 := blk_frozen BK265.out 1; have hfz98_2 := blk_frozen BK265.out 2; have hfz98_3 := blk_frozen BK265.out 3; have hfz98_4 := blk_frozen BK265.out 4; have hfz98_5 := blk_frozen BK265.out 5))
  J0_

/-! ### spec_l01In: function 81 -/
def spec_l01In.f (a0 : Int) (a1 : Int) (a2 : Int) : Option (Bool) := if a0 ≥ a1 then (some (decide (a0 ≤ a2))) else (some false)
set_option maxHeartbeats 8000000 in
set_option maxRecDepth 100000 in
theorem spec_l01In.calls (a0 : Int) (a1 : Int) (a2 : Int) (r : Bool) (w : World) (h : spec_l01In.f a0 a1 a2 = some r) :
  Calls Try.prog 81 #[.int .i64 a0, .int .i64 a1, .int .i64 a2] w fun e w' => e = .returned (.bool r) ∧ Drawn0 w w' := by
 have H : (if a0 ≥ a1 then (some (decide (a0 ≤ a2))) else (some false)) = some r := h
 clear h
 by_cases c4 : a0 ≥ a1
 ·rw [if_pos c4] at H
  have c4b0 : decide (a1 ≤ a0) = true := decide_eq_true c4
  clear c4
  J12_
  go_enter Try.func81, Try.ntmps81
  J9_
 ·rw [if_neg c4] at H
  have c4b0 : decide (a1 ≤ a0) = false := decide_eq_false c4
  clear c4
  J12_
  go_enter Try.func81, Try.ntmps81
  J9_

/-! ### spec_DgramOk: function 56 -/
def spec_DgramOk.f (a0_0 : Int) (a0_1 : Int) (a0_2 : Int) (a0_3 : Int) (a0_4 : Bool) (a0_5 : ByteArray) : Option (Bool) := (spec_l01In.f a0_0 1 99).bind fun t303 => (if t303 = true then ((spec_l01In.f a0_1 1 99).bind fun t304 => (if t304 = true then ((spec_l01In.f a0_2 0 65535).bind fun t305 => (if t305 = true then ((spec_l01In.f a0_3 0 160).bind fun t306 => (if t306 = true then (if (Int.tmod a0_3 8) = 0 then ((spec_l01In.f (a0_5.size : Int) 1 (wrap64 (160 - a0_3))).bind fun t307 => (if t307 = true then (if a0_4 = true then (some (((a0_5.size : Int) % 8) == 0)) else (some true)) else (some false))) else (some false)) else (some false))) else (some false))) else (some false))) else (some false))
set_option maxHeartbeats 8000000 in
set_option maxRecDepth 100000 in
theorem spec_DgramOk.calls (a0_0 : Int) (a0_1 : Int) (a0_2 : Int) (a0_3 : Int) (a0_4 : Bool) (a0_5 : ByteArray) (r : Bool) (w : World) (h : spec_DgramOk.f a0_0 a0_1 a0_2 a0_3 a0_4 a0_5 = some r) :
  Calls Try.prog 56 #[.agg #[.int .i64 a0_0, .int .i64 a0_1, .int .i64 a0_2, .int .i64 a0_3, .bool a0_4, .string a0_5]] w fun e w' => e = .returned (.bool r) ∧ Below w.heap.size w w' := by
 have hu85 := Try.underlying85
 J17_
 have H : ((spec_l01In.f a0_0 1 99).bind fun t303 => (if t303 = true then ((spec_l01In.f a0_1 1 99).bind fun t304 => (if t304 = true then ((spec_l01In.f a0_2 0 65535).bind fun t305 => (if t305 = true then ((spec_l01In.f a0_3 0 160).bind fun t306 => (if t306 = true then (if (Int.tmod a0_3 8) = 0 then ((spec_l01In.f (a0_5.size : Int) 1 (wrap64 (160 - a0_3))).bind fun t307 => (if t307 = true then (if a0_4 = true then (some (((a0_5.size : Int) % 8) == 0)) else (some true)) else (some false))) else (some false)) else (some false))) else (some false))) else (some false))) else (some false))) = some r := h
 clear h
 J4_
 obtain ⟨t303, A20, H⟩ := H
 J8_
 have A2 := Aside0.mk A20
 clear A20
 by_cases c3 : t303 = true
 ·subst c3
  J13_
  J4_
  obtain ⟨t304, A40, H⟩ := H
  J8_
  have A4 := Aside0.mk A40
  clear A40
  by_cases c5 : t304 = true
  ·subst c5
   J13_
   J4_
   obtain ⟨t305, A60, H⟩ := H
   J8_
   have A6 := Aside0.mk A60
   clear A60
   by_cases c7 : t305 = true
   ·subst c7
    J13_
    J4_
    obtain ⟨t306, A80, H⟩ := H
    J8_
    have A8 := Aside0.mk A80
    clear A80
    by_cases c9 : t306 = true
    ·subst c9
     J13_
     by_cases c10 : (Int.tmod a0_3 8) = 0
     ·rw [if_pos c10] at H
      have c10b0 : ((Int.tmod a0_3 8) == 0) = true := beq_iff_eq.mpr c10
      have c10b1 : ((Int.tmod a0_3 8) != 0) = false := bne_eq_false_iff_eq.mpr c10
      clear c10
      J4_
      obtain ⟨t307, A110, H⟩ := H
      J8_
      have A11 := Aside0.mk A110
      clear A110
      by_cases c12 : t307 = true
      ·subst c12
       J13_
       by_cases c13 : a0_4 = true
       ·subst c13
        J13_
        J12_
        go_enter Try.func56, Try.ntmps56
        go_wp2_with (first | (G56_; G55_; refine box_event ?hg (N := 1) ?hd (cs := #[.int .i64 a0_0, .int .i64 a0_1, .int .i64 a0_2, .int .i64 a0_3, .bool true, .string a0_5]) (t := 85) ?hr ?_; (case hd => rfl); (case hg => rfl); G16_; intro gb302 hg w14 hbox hb; have n0_ := Aside0.mk G67_; have n1_ := Aside0.mk (hbox); have n2_ := Aside0.mk (G19_); have n3_ := Aside0.mk (G19_); clear HB; have HB := n0_; have BK302 := n1_; have GW302 := n2_; have GE302 := n3_; clear n0_ n1_ n2_ n3_; clear hb hbox hg; have hcz15_0 : w14.cell? ⟨gb302, 0, none⟩ = some (.int .i64 a0_0) := (G85_).trans rfl; have hcz15_1 : w14.cell? ⟨gb302, 1, none⟩ = some (.int .i64 a0_1) := (G86_).trans rfl; have hcz15_2 : w14.cell? ⟨gb302, 2, none⟩ = some (.int .i64 a0_2) := (G87_).trans rfl; have hcz15_3 : w14.cell? ⟨gb302, 3, none⟩ = some (.int .i64 a0_3) := (G88_).trans rfl; have hcz15_4 : w14.cell? ⟨gb302, 4, none⟩ = some (.bool true) := (G89_).trans rfl; have hcz15_5 : w14.cell? ⟨gb302, 5, none⟩ = some (.string a0_5) := (G90_).trans rfl; have hfz15_0 := blk_frozen BK302.out 0; have hfz15_1 := blk_frozen BK302.out 1; have hfz15_2 := blk_frozen BK302.out 2; have hfz15_3 := blk_frozen BK302.out 3; have hfz15_4 := blk_frozen BK302.out 4; have hfz15_5 := blk_frozen BK302.out 5) | (G53_; refine goesL_ (some 5) rfl rfl Try.func81 (by kernel_rfl) rfl G59_ rfl G4_ ?_; G34_; rintro e w' ⟨rfl, ⟨nd, rfl⟩⟩; refine ⟨_, rfl, ?_⟩) | G27_ | G32_ | G38_ | G68_)
        J1_
       ·replace c13 := Bool.eq_false_iff.mpr c13
        subst c13
        J5_
        go_enter Try.func56, Try.ntmps56
        go_wp2_with (first | (G56_; G55_; refine box_event ?hg (N := 1) ?hd (cs := #[.int .i64 a0_0, .int .i64 a0_1, .int .i64 a0_2, .int .i64 a0_3, .bool false, .string a0_5]) (t := 85) ?hr ?_; (case hd => rfl); (case hg => rfl); G16_; intro gb302 hg w16 hbox hb; have n0_ := Aside0.mk G67_; have n1_ := Aside0.mk (hbox); have n2_ := Aside0.mk (G19_); have n3_ := Aside0.mk (G19_); clear HB; have HB := n0_; have BK302 := n1_; have GW302 := n2_; have GE302 := n3_; clear n0_ n1_ n2_ n3_; clear hb hbox hg; have hcz17_0 : w16.cell? ⟨gb302, 0, none⟩ = some (.int .i64 a0_0) := (G85_).trans rfl; have hcz17_1 : w16.cell? ⟨gb302, 1, none⟩ = some (.int .i64 a0_1) := (G86_).trans rfl; have hcz17_2 : w16.cell? ⟨gb302, 2, none⟩ = some (.int .i64 a0_2) := (G87_).trans rfl; have hcz17_3 : w16.cell? ⟨gb302, 3, none⟩ = some (.int .i64 a0_3) := (G88_).trans rfl; have hcz17_4 : w16.cell? ⟨gb302, 4, none⟩ = some (.bool false) := (G89_).trans rfl; have hcz17_5 : w16.cell? ⟨gb302, 5, none⟩ = some (.string a0_5) := (G90_).trans rfl; have hfz17_0 := blk_frozen BK302.out 0; have hfz17_1 := blk_frozen BK302.out 1; have hfz17_2 := blk_frozen BK302.out 2; have hfz17_3 := blk_frozen BK302.out 3; have hfz17_4 := blk_frozen BK302.out 4; have hfz17_5 := blk_frozen BK302.out 5) | (G53_; refine goesL_ (some 5) rfl rfl Try.func81 (by kernel_rfl) rfl G59_ rfl G4_ ?_; G34_; rintro e w' ⟨rfl, ⟨nd, rfl⟩⟩; refine ⟨_, rfl, ?_⟩) | G27_ | G32_ | G38_ | G68_)
        J1_
      ·replace c12 := Bool.eq_false_iff.mpr c12
       subst c12
       J5_
       go_enter Try.func56, Try.ntmps56
       go_wp2_with (first | (G56_; G55_; refine box_event ?hg (N := 1) ?hd (cs := G33_) (t := 85) ?hr ?_; (case hd => rfl); (case hg => rfl); G16_; intro gb302 hg w18 hbox hb; have n0_ := Aside0.mk G67_; have n1_ := Aside0.mk (hbox); have n2_ := Aside0.mk (G19_); have n3_ := Aside0.mk (G19_); clear HB; have HB := n0_; have BK302 := n1_; have GW302 := n2_; have GE302 := n3_; clear n0_ n1_ n2_ n3_; clear hb hbox hg; have hcz19_0 : w18.cell? ⟨gb302, 0, none⟩ = some (.int .i64 a0_0) := (G85_).trans rfl; have hcz19_1 : w18.cell? ⟨gb302, 1, none⟩ = some (.int .i64 a0_1) := (G86_).trans rfl; have hcz19_2 : w18.cell? ⟨gb302, 2, none⟩ = some (.int .i64 a0_2) := (G87_).trans rfl; have hcz19_3 : w18.cell? ⟨gb302, 3, none⟩ = some (.int .i64 a0_3) := (G88_).trans rfl; have hcz19_4 : w18.cell? ⟨gb302, 4, none⟩ = some (.bool a0_4) := (G89_).trans rfl; have hcz19_5 : w18.cell? ⟨gb302, 5, none⟩ = some (.string a0_5) := (G90_).trans rfl; have hfz19_0 := blk_frozen BK302.out 0; have hfz19_1 := blk_frozen BK302.out 1; have hfz19_2 := blk_frozen BK302.out 2; have hfz19_3 := blk_frozen BK302.out 3; have hfz19_4 := blk_frozen BK302.out 4; have hfz19_5 := blk_frozen BK302.out 5) | (G53_; refine goesL_ (some 5) rfl rfl Try.func81 (by kernel_rfl) rfl G59_ rfl G4_ ?_; G34_; rintro e w' ⟨rfl, ⟨nd, rfl⟩⟩; refine ⟨_, rfl, ?_⟩) | G27_ | G32_ | G38_ | (go_at_call 81; (with_reducible refine (spec_l01In.calls (a0_5.size : Int) 1 (wrap64 (160 - a0_3)) false _ A11.out).mono ?_); rintro e w' ⟨rfl, ⟨nd, rfl⟩⟩))
       J1_
     ·rw [if_neg c10] at H
      have c10b0 : ((Int.tmod a0_3 8) == 0) = false := beq_eq_false_iff_ne.mpr c10
      have c10b1 : ((Int.tmod a0_3 8) != 0) = true := bne_iff_ne.mpr c10
      J12_
      go_enter Try.func56, Try.ntmps56
      go_wp2_with (first | (G56_; G55_; refine box_event ?hg (N := 1) ?hd (cs := G33_) (t := 85) ?hr ?_; (case hd => rfl); (case hg => rfl); G16_; intro gb302 hg w20 hbox hb; have n0_ := Aside0.mk G67_; have n1_ := Aside0.mk (hbox); have n2_ := Aside0.mk (G19_); have n3_ := Aside0.mk (G19_); clear HB; have HB := n0_; have BK302 := n1_; have GW302 := n2_; have GE302 := n3_; clear n0_ n1_ n2_ n3_; clear hb hbox hg; have hcz21_0 : w20.cell? ⟨gb302, 0, none⟩ = some (.int .i64 a0_0) := (G85_).trans rfl; have hcz21_1 : w20.cell? ⟨gb302, 1, none⟩ = some (.int .i64 a0_1) := (G86_).trans rfl; have hcz21_2 : w20.cell? ⟨gb302, 2, none⟩ = some (.int .i64 a0_2) := (G87_).trans rfl; have hcz21_3 : w20.cell? ⟨gb302, 3, none⟩ = some (.int .i64 a0_3) := (G88_).trans rfl; have hcz21_4 : w20.cell? ⟨gb302, 4, none⟩ = some (.bool a0_4) := (G89_).trans rfl; have hcz21_5 : w20.cell? ⟨gb302, 5, none⟩ = some (.string a0_5) := (G90_).trans rfl; have hfz21_0 := blk_frozen BK302.out 0; have hfz21_1 := blk_frozen BK302.out 1; have hfz21_2 := blk_frozen BK302.out 2; have hfz21_3 := blk_frozen BK302.out 3; have hfz21_4 := blk_frozen BK302.out 4; have hfz21_5 := blk_frozen BK302.out 5) | (G53_; refine goesL_ (some 5) rfl rfl Try.func81 (by kernel_rfl) rfl G59_ rfl G4_ ?_; G34_; rintro e w' ⟨rfl, ⟨nd, rfl⟩⟩; refine ⟨_, rfl, ?_⟩) | G27_ | G32_ | G38_)
      J1_
    ·replace c9 := Bool.eq_false_iff.mpr c9
     subst c9
     J5_
     go_enter Try.func56, Try.ntmps56
     go_wp2_with (first | (G56_; G55_; refine box_event ?hg (N := 1) ?hd (cs := G33_) (t := 85) ?hr ?_; (case hd => rfl); (case hg => rfl); G16_; intro gb302 hg w22 hbox hb; have n0_ := Aside0.mk G67_; have n1_ := Aside0.mk (hbox); have n2_ := Aside0.mk (G19_); have n3_ := Aside0.mk (G19_); clear HB; have HB := n0_; have BK302 := n1_; have GW302 := n2_; have GE302 := n3_; clear n0_ n1_ n2_ n3_; clear hb hbox hg; have hcz23_0 : w22.cell? ⟨gb302, 0, none⟩ = some (.int .i64 a0_0) := (G85_).trans rfl; have hcz23_1 : w22.cell? ⟨gb302, 1, none⟩ = some (.int .i64 a0_1) := (G86_).trans rfl; have hcz23_2 : w22.cell? ⟨gb302, 2, none⟩ = some (.int .i64 a0_2) := (G87_).trans rfl; have hcz23_3 : w22.cell? ⟨gb302, 3, none⟩ = some (.int .i64 a0_3) := (G88_).trans rfl; have hcz23_4 : w22.cell? ⟨gb302, 4, none⟩ = some (.bool a0_4) := (G89_).trans rfl; have hcz23_5 : w22.cell? ⟨gb302, 5, none⟩ = some (.string a0_5) := (G90_).trans rfl; have hfz23_0 := blk_frozen BK302.out 0; have hfz23_1 := blk_frozen BK302.out 1; have hfz23_2 := blk_frozen BK302.out 2; have hfz23_3 := blk_frozen BK302.out 3; have hfz23_4 := blk_frozen BK302.out 4; have hfz23_5 := blk_frozen BK302.out 5) | (G53_; refine goesL_ (some 5) rfl rfl Try.func81 (by kernel_rfl) rfl G59_ rfl G4_ ?_; G34_; rintro e w' ⟨rfl, ⟨nd, rfl⟩⟩; refine ⟨_, rfl, ?_⟩) | G27_ | G32_ | (go_at_call 81; (with_reducible refine (spec_l01In.calls a0_3 0 160 false _ A8.out).mono ?_); rintro e w' ⟨rfl, ⟨nd, rfl⟩⟩))
     J1_
   ·replace c7 := Bool.eq_false_iff.mpr c7
    subst c7
    J5_
    go_enter Try.func56, Try.ntmps56
    go_wp2_with (first | (G56_; G55_; refine box_event ?hg (N := 1) ?hd (cs := G33_) (t := 85) ?hr ?_; (case hd => rfl); (case hg => rfl); G16_; intro gb302 hg w24 hbox hb; have n0_ := Aside0.mk G67_; have n1_ := Aside0.mk (hbox); have n2_ := Aside0.mk (G19_); have n3_ := Aside0.mk (G19_); clear HB; have HB := n0_; have BK302 := n1_; have GW302 := n2_; have GE302 := n3_; clear n0_ n1_ n2_ n3_; clear hb hbox hg; have hcz25_0 : w24.cell? ⟨gb302, 0, none⟩ = some (.int .i64 a0_0) := (G85_).trans rfl; have hcz25_1 : w24.cell? ⟨gb302, 1, none⟩ = some (.int .i64 a0_1) := (G86_).trans rfl; have hcz25_2 : w24.cell? ⟨gb302, 2, none⟩ = some (.int .i64 a0_2) := (G87_).trans rfl; have hcz25_3 : w24.cell? ⟨gb302, 3, none⟩ = some (.int .i64 a0_3) := (G88_).trans rfl; have hcz25_4 : w24.cell? ⟨gb302, 4, none⟩ = some (.bool a0_4) := (G89_).trans rfl; have hcz25_5 : w24.cell? ⟨gb302, 5, none⟩ = some (.string a0_5) := (G90_).trans rfl; have hfz25_0 := blk_frozen BK302.out 0; have hfz25_1 := blk_frozen BK302.out 1; have hfz25_2 := blk_frozen BK302.out 2; have hfz25_3 := blk_frozen BK302.out 3; have hfz25_4 := blk_frozen BK302.out 4; have hfz25_5 := blk_frozen BK302.out 5) | (G53_; refine goesL_ (some 5) rfl rfl Try.func81 (by kernel_rfl) rfl G59_ rfl G4_ ?_; G34_; rintro e w' ⟨rfl, ⟨nd, rfl⟩⟩; refine ⟨_, rfl, ?_⟩) | G27_ | (go_at_call 81; (with_reducible refine (spec_l01In.calls a0_2 0 65535 false _ A6.out).mono ?_); rintro e w' ⟨rfl, ⟨nd, rfl⟩⟩))
    J1_
  ·replace c5 := Bool.eq_false_iff.mpr c5
   subst c5
   J5_
   go_enter Try.func56, Try.ntmps56
   go_wp2_with (first | (G56_; G55_; refine box_event ?hg (N := 1) ?hd (cs := G33_) (t := 85) ?hr ?_; (case hd => rfl); (case hg => rfl); G16_; intro gb302 hg w26 hbox hb; have n0_ := Aside0.mk G67_; have n1_ := Aside0.mk (hbox); have n2_ := Aside0.mk (G19_); have n3_ := Aside0.mk (G19_); clear HB; have HB := n0_; have BK302 := n1_; have GW302 := n2_; have GE302 := n3_; clear n0_ n1_ n2_ n3_; clear hb hbox hg; have hcz27_0 : w26.cell? ⟨gb302, 0, none⟩ = some (.int .i64 a0_0) := (G85_).trans rfl; have hcz27_1 : w26.cell? ⟨gb302, 1, none⟩ = some (.int .i64 a0_1) := (G86_).trans rfl; have hcz27_2 : w26.cell? ⟨gb302, 2, none⟩ = some (.int .i64 a0_2) := (G87_).trans rfl; have hcz27_3 : w26.cell? ⟨gb302, 3, none⟩ = some (.int .i64 a0_3) := (G88_).trans rfl; have hcz27_4 : w26.cell? ⟨gb302, 4, none⟩ = some (.bool a0_4) := (G89_).trans rfl; have hcz27_5 : w26.cell? ⟨gb302, 5, none⟩ = some (.string a0_5) := (G90_).trans rfl; have hfz27_0 := blk_frozen BK302.out 0; have hfz27_1 := blk_frozen BK302.out 1; have hfz27_2 := blk_frozen BK302.out 2; have hfz27_3 := blk_frozen BK302.out 3; have hfz27_4 := blk_frozen BK302.out 4; have hfz27_5 := blk_frozen BK302.out 5) | (G53_; refine goesL_ (some 5) rfl rfl Try.func81 (by kernel_rfl) rfl G59_ rfl G4_ ?_; G34_; rintro e w' ⟨rfl, ⟨nd, rfl⟩⟩; refine ⟨_, rfl, ?_⟩) | (go_at_call 81; (with_reducible refine (spec_l01In.calls a0_1 1 99 false _ A4.out).mono ?_); rintro e w' ⟨rfl, ⟨nd, rfl⟩⟩))
   J1_
 ·replace c3 := Bool.eq_false_iff.mpr c3
  subst c3
  J5_
  go_enter Try.func56, Try.ntmps56
  go_wp2_with (first | (G56_; G55_; refine box_event ?hg (N := 1) ?hd (cs := G33_) (t := 85) ?hr ?_; (case hd => rfl); (case hg => rfl); G16_; intro gb302 hg w28 hbox hb; have n0_ := Aside0.mk G67_; have n1_ := Aside0.mk (hbox); have n2_ := Aside0.mk (G19_); have n3_ := Aside0.mk (G19_); clear HB; have HB := n0_; have BK302 := n1_; have GW302 := n2_; have GE302 := n3_; clear n0_ n1_ n2_ n3_; clear hb hbox hg; have hcz29_0 : w28.cell? ⟨gb302, 0, none⟩ = some (.int .i64 a0_0) := (G85_).trans rfl; have hcz29_1 : w28.cell? ⟨gb302, 1, none⟩ = some (.int .i64 a0_1) := (G86_).trans rfl; have hcz29_2 : w28.cell? ⟨gb302, 2, none⟩ = some (.int .i64 a0_2) := (G87_).trans rfl; have hcz29_3 : w28.cell? ⟨gb302, 3, none⟩ = some (.int .i64 a0_3) := (G88_).trans rfl; have hcz29_4 : w28.cell? ⟨gb302, 4, none⟩ = some (.bool a0_4) := (G89_).trans rfl; have hcz29_5 : w28.cell? ⟨gb302, 5, none⟩ = some (.string a0_5) := (G90_).trans rfl; have hfz29_0 := blk_frozen BK302.out 0; have hfz29_1 := blk_frozen BK302.out 1; have hfz29_2 := blk_frozen BK302.out 2; have hfz29_3 := blk_frozen BK302.out 3; have hfz29_4 := blk_frozen BK302.out 4; have hfz29_5 := blk_frozen BK302.out 5) | (G53_; refine goesL_ (some 5) rfl rfl Try.func81 (by kernel_rfl) rfl G59_ rfl G4_ ?_; (with_reducible refine (spec_l01In.calls a0_0 1 99 false _ A2.out).mono ?_); rintro e w' ⟨rfl, ⟨nd, rfl⟩⟩; refine ⟨_, rfl, ?_⟩))
  J1_

/-! ### spec_l02Spoilt: function 105 -/
def spec_l02Spoilt.j0 : Nat → ByteArray → Bool → List Int → Int → Int → Option (ByteArray × Int × Int)
 | 0, _, _, _, _, _ => none
 | k + 1, x1, x23, x1000, x1001, x1002 => if x23 = true then (if (x1.size : Int) > 0 then ((spec_l01Below.f x1000 x1001 x1002 (x1.size : Int)).bind fun bt317 => (if 0 ≤ bt317.1 then (if bt317.1 ≤ (x1.size : Int) then ((spec_l01Text.f k x1000 bt317.2.1 bt317.2.2 1).bind fun bt320 => (if (x1.extract 0 (bt317.1 : Int).toNat).size + bt320.1.size ≤ 9223372036854775807 then (if 0 ≤ (wrap64 (bt317.1 + 1)) then (if (wrap64 (bt317.1 + 1)) ≤ (x1.size : Int) then (if ((x1.extract 0 (bt317.1 : Int).toNat) ++ bt320.1).size + (x1.extract ((wrap64 (bt317.1 + 1)) : Int).toNat x1.size).size ≤ 9223372036854775807 then (some (((x1.extract 0 (bt317.1 : Int).toNat) ++ bt320.1) ++ (x1.extract ((wrap64 (bt317.1 + 1)) : Int).toNat x1.size), bt320.2.1, bt320.2.2)) else (none)) else (none)) else (none)) else (none))) else (none)) else (none))) else (some (x1, x1001, x1002))) else (some (x1, x1001, x1002))
def spec_l02Spoilt.f (k : Nat) (s0_0 : List Int) (s0_1 : Int) (s0_2 : Int) (a1 : ByteArray) : Option (ByteArray × Int × Int) := (spec_l01Below.f s0_0 s0_1 s0_2 12).bind fun bt308 => (if bt308.1 = 0 then ((spec_l01Text.f k s0_0 bt308.2.1 bt308.2.2 1).bind fun bt311 => (if a1.size + bt311.1.size ≤ 9223372036854775807 then (some (a1 ++ bt311.1, bt311.2.1, bt311.2.2)) else (none))) else (if bt308.1 = 1 then ((spec_l01Below.f s0_0 bt308.2.1 bt308.2.2 (wrap64 ((a1.size : Int) + 1))).bind fun bt314 => (if 0 ≤ bt314.1 then (if bt314.1 ≤ (a1.size : Int) then (some (a1.extract 0 (bt314.1 : Int).toNat, bt314.2.1, bt314.2.2)) else (none)) else (none))) else (if bt308.1 = 2 then (spec_l02Spoilt.j0 k a1 (bt308.1 == 2) s0_0 bt308.2.1 bt308.2.2) else (spec_l02Spoilt.j0 k a1 (bt308.1 == 3) s0_0 bt308.2.1 bt308.2.2))))
theorem spec_l02Spoilt.mono_l : ∀ k, (∀ y0 y1 y2 y3 y4, LeO (spec_l02Spoilt.j0 k y0 y1 y2 y3 y4) (spec_l02Spoilt.j0 (k + 1) y0 y1 y2 y3 y4))
 | 0 => fun _ _ _ _ _ r h => by simp [spec_l02Spoilt.j0] at h
 | k + 1 => by
  have ih0 := spec_l02Spoilt.mono_l k
  ·intro y0 y1 y2 y3 y4
   unfold spec_l02Spoilt.j0
   repeat' first
   | (with_reducible exact ih0 _ _ _ _ _)
   | (with_reducible exact spec_l01Text.mono _ _ _ _ _)
   | (with_reducible exact LeO.refl _)
   | (with_reducible exact LeO.none _)
   | (with_reducible refine LeO.ite ?_ ?_)
   | (with_reducible refine LeO.bind ?_ (fun _ => ?_))
   | exact ih0 _ _ _ _ _
   | exact spec_l01Text.mono _ _ _ _ _
   | exact LeO.none _
   | refine LeO.ite ?_ ?_
   | refine LeO.bind ?_ (fun _ => ?_)
theorem spec_l02Spoilt.mono : ∀ a0 a1 a2 a3 k, LeO (spec_l02Spoilt.f k a0 a1 a2 a3) (spec_l02Spoilt.f (k + 1) a0 a1 a2 a3) := by
 intro a0 a1 a2 a3 k
 have ih0 := spec_l02Spoilt.mono_l k
 unfold spec_l02Spoilt.f
 repeat' first
   | (with_reducible exact ih0 _ _ _ _ _)
   | (with_reducible exact spec_l01Text.mono _ _ _ _ _)
   | (with_reducible exact LeO.refl _)
   | (with_reducible exact LeO.none _)
   | (with_reducible refine LeO.ite ?_ ?_)
   | (with_reducible refine LeO.bind ?_ (fun _ => ?_))
   | exact ih0 _ _ _ _ _
   | exact spec_l01Text.mono _ _ _ _ _
   | exact LeO.none _
   | refine LeO.ite ?_ ?_
   | refine LeO.bind ?_ (fun _ => ?_)
def spec_l02Spoilt.T10 : Bool × List (List Nat × List Nat) := (true, [([], []), ([], []), ([0, 1], [0, 1]), ([], []), ([3], [3]), ([2, 4], [2, 4]), ([], []), ([], []), ([7], [7]), ([6, 8], [6, 8]), ([5, 9], [5, 9]), ([10, 4, 0, 1, 2, 3, 4, 5, 6, 7, 8, 9, 10], [10])])
def spec_l02Spoilt.B10 : List Nat := [0, 0, 3, 0, 8, 31, 0, 0, 128, 448, 1023, 2047]
theorem spec_l02Spoilt.tab10 : rtab .any (opsOf Try.f105 10) = spec_l02Spoilt.T10 := by kernel_rfl
theorem spec_l02Spoilt.bits10 : waitsOk spec_l02Spoilt.T10.2 spec_l02Spoilt.B10 = true := by kernel_rfl
set_option maxHeartbeats 8000000 in
set_option maxRecDepth 100000 in
theorem spec_l02Spoilt.calls (k : Nat) (g : Nat) (s0_0 : List Int) (s0_1 : Int) (s0_2 : Int) (a1 : ByteArray) (r1 : ByteArray) (r2 : Int) (r3 : Int) (w0 w : World) (hI : IsS182 w0 w g s0_0 s0_1 s0_2) (hB : Below w0.heap.size w0 w) (h : spec_l02Spoilt.f k s0_0 s0_1 s0_2 a1 = some (r1, r2, r3)) :
  Calls Try.prog 105 #[.pointer (some ⟨g, 0, none⟩), .string a1] w fun e w' => e = .returned (.string r1) ∧ IsS182 w0 w' g s0_0 r2 r3 ∧ Below w0.heap.size w0 w' ∧ KeepBut w w' g none := by
 have HI0 := Aside0.mk hI
 have HK := Aside0.mk (KeepBut.refl w g none)
 have HL := Aside0.mk hB.size
 clear hI
 have HW0 := Aside0.mk hB.size
 have HB := Aside0.mk hB
 clear hB
 have H : ((spec_l01Below.f s0_0 s0_1 s0_2 12).bind fun bt308 => (if bt308.1 = 0 then ((spec_l01Text.f k s0_0 bt308.2.1 bt308.2.2 1).bind fun bt311 => (if a1.size + bt311.1.size ≤ 9223372036854775807 then (some (a1 ++ bt311.1, bt311.2.1, bt311.2.2)) else (none))) else (if bt308.1 = 1 then ((spec_l01Below.f s0_0 bt308.2.1 bt308.2.2 (wrap64 ((a1.size : Int) + 1))).bind fun bt314 => (if 0 ≤ bt314.1 then (if bt314.1 ≤ (a1.size : Int) then (some (a1.extract 0 (bt314.1 : Int).toNat, bt314.2.1, bt314.2.2)) else (none)) else (none))) else (if bt308.1 = 2 then (spec_l02Spoilt.j0 k a1 (bt308.1 == 2) s0_0 bt308.2.1 bt308.2.2) else (spec_l02Spoilt.j0 k a1 (bt308.1 == 3) s0_0 bt308.2.1 bt308.2.2))))) = some (r1, r2, r3) := h
 clear h
 J4_
 obtain ⟨⟨t308, t309, t310⟩, A30, H⟩ := H
 J8_
 have A3 := Aside0.mk A30
 clear A30
 by_cases c4 : t308 = 0
 ·rw [if_pos c4] at H
  have c4b0 : (t308 == 0) = true := beq_iff_eq.mpr c4
  have c4b1 : (t308 != 0) = false := bne_eq_false_iff_eq.mpr c4
  clear c4
  J4_
  obtain ⟨⟨t311, t312, t313⟩, A50, H⟩ := H
  J8_
  have A5 := Aside0.mk A50
  clear A50
  by_cases c6 : a1.size + t311.size ≤ 9223372036854775807
  ·rw [if_pos c6] at H
   have c6b0 := eq_true c6
   have c6b1 : decide (a1.size + t311.size ≤ 9223372036854775807) = true := decide_eq_true c6
   try have c6b2 : (9223372036854775807 < a1.size + t311.size) = False := eq_false (Nat.not_lt.2 c6)
   try (have c6b9 := c6b2; simp only [ByteArray.size_append] at c6b9)
   J6_
   J15_
   go_enter Try.func105, Try.ntmps105
   go_wp2_with (first | (G66_; refine goesL_ (some 7) rfl rfl Try.func118 (by kernel_rfl) rfl G94_ rfl G4_ ?_; G62_; G83_; G79_; rintro e w7 ⟨rfl, hi, hb, hk⟩; refine ⟨_, rfl, ?_⟩; have n0_ := Aside0.mk (KeepBut.trans (by repeat G11_) hk (.inl rfl)); have n1_ := Aside0.mk (hb); have n2_ := Aside0.mk (hi); clear HK; clear HB; clear HI0; have HK := n0_; have HB := n1_; have HI0 := n2_; clear n0_ n1_ n2_; (try clear hb); (try clear hb2); (try clear hk); (try clear hi)) | ((with_reducible refine gate_callee (f := 132) rfl ?_); refine goesL_ (some 12) rfl rfl Try.func132 (by kernel_rfl) rfl #[.pointer (some ⟨g, 0, none⟩), .int .i64 1] rfl G4_ ?_; (with_reducible refine (spec_l01Text.calls k g s0_0 t309 t310 1 t311 t312 t313 w0 _ ?side1 ?side2 A5.out).mono ?_); G83_; G79_; rintro e w8 ⟨rfl, hi, hb, hk⟩; refine ⟨_, rfl, ?_⟩; have n0_ := Aside0.mk (KeepBut.trans (by repeat G11_) hk (.inl rfl)); have n1_ := Aside0.mk (hb); have n2_ := Aside0.mk (hi); clear HK; clear HB; clear HI0; have HK := n0_; have HB := n1_; have HI0 := n2_; clear n0_ n1_ n2_; (try clear hb); (try clear hb2); (try clear hk); (try clear hi)))
   J2_
  ·rw [if_neg c6] at H
   J10_
 ·rw [if_neg c4] at H
  have c4b0 : (t308 == 0) = false := beq_eq_false_iff_ne.mpr c4
  have c4b1 : (t308 != 0) = true := bne_iff_ne.mpr c4
  by_cases c9 : t308 = 1
  ·rw [if_pos c9] at H
   have c9b0 : (t308 == 1) = true := beq_iff_eq.mpr c9
   have c9b1 : (t308 != 1) = false := bne_eq_false_iff_eq.mpr c9
   clear c9
   J4_
   obtain ⟨⟨t314, t315, t316⟩, A100, H⟩ := H
   J8_
   have A10 := Aside0.mk A100
   clear A100
   by_cases c11 : 0 ≤ t314
   ·rw [if_pos c11] at H
    have c11b0 := eq_true c11
    have c11b1 : decide (0 ≤ t314) = true := decide_eq_true c11
    clear c11
    by_cases c12 : t314 ≤ (a1.size : Int)
    ·rw [if_pos c12] at H
     have c12b0 := eq_true c12
     have c12b1 : decide (t314 ≤ (a1.size : Int)) = true := decide_eq_true c12
     clear c12
     J6_
     J15_
     go_enter Try.func105, Try.ntmps105
     go_wp2_with (first | (G66_; refine goesL_ (some 7) rfl rfl Try.func118 (by kernel_rfl) rfl G94_ rfl G4_ ?_; G62_; G83_; G79_; rintro e w13 ⟨rfl, hi, hb, hk⟩; refine ⟨_, rfl, ?_⟩; have n0_ := Aside0.mk (KeepBut.trans (by repeat G11_) hk (.inl rfl)); have n1_ := Aside0.mk (hb); have n2_ := Aside0.mk (hi); clear HK; clear HB; clear HI0; have HK := n0_; have HB := n1_; have HI0 := n2_; clear n0_ n1_ n2_; (try clear hb); (try clear hb2); (try clear hk); (try clear hi)) | (G66_; refine goesL_ (some 21) rfl rfl Try.func118 (by kernel_rfl) rfl #[.pointer (some ⟨g, 0, none⟩), .int .i64 (wrap64 ((a1.size : Int) + 1))] rfl G4_ ?_; (with_reducible refine (spec_l01Below.calls g s0_0 t309 t310 (wrap64 ((a1.size : Int) + 1)) t314 t315 t316 w0 _ ?side1 ?side2 A10.out).mono ?_); G83_; G79_; rintro e w14 ⟨rfl, hi, hb, hk⟩; refine ⟨_, rfl, ?_⟩; have n0_ := Aside0.mk (KeepBut.trans (by repeat G11_) hk (.inl rfl)); have n1_ := Aside0.mk (hb); have n2_ := Aside0.mk (hi); clear HK; clear HB; clear HI0; have HK := n0_; have HB := n1_; have HI0 := n2_; clear n0_ n1_ n2_; (try clear hb); (try clear hb2); (try clear hk); (try clear hi)))
     J2_
    ·rw [if_neg c12] at H
     J10_
   ·rw [if_neg c11] at H
    J10_
  ·rw [if_neg c9] at H
   have c9b0 : (t308 == 1) = false := beq_eq_false_iff_ne.mpr c9
   have c9b1 : (t308 != 1) = true := bne_iff_ne.mpr c9
   have HC15 := Aside0.mk H
   clear H
   go_enter Try.func105, Try.ntmps105
   go_upto_if 23 with (first | (G66_; refine goesL_ (some 7) rfl rfl Try.func118 (by kernel_rfl) rfl G94_ rfl G4_ ?_; G62_; G83_; G79_; rintro e w16 ⟨rfl, hi, hb, hk⟩; refine ⟨_, rfl, ?_⟩; have n0_ := Aside0.mk (KeepBut.trans (by repeat G11_) hk (.inl rfl)); have n1_ := Aside0.mk (hb); have n2_ := Aside0.mk (hi); clear HK; clear HB; clear HI0; have HK := n0_; have HB := n1_; have HI0 := n2_; clear n0_ n1_ n2_; (try clear hb); (try clear hb2); (try clear hk); (try clear hi)))
   (try simp only [Act.put, List.setIfInBounds_toArray, List.set_cons_zero, List.set_cons_succ])
   go_cut [23] (fun v23 wc => ∃ (kq : Nat) (x23_14 : Bool), v23 = .bool x23_14 ∧ Aside0 (spec_l02Spoilt.j0 kq a1 x23_14 s0_0 t309 t310 = some (r1, r2, r3)) ∧ Aside0 (kq ≤ k) ∧ Aside0 (IsS182 w0 wc g s0_0 t309 t310) ∧ Aside0 (KeepBut w wc g none) ∧ Aside0 (Below w0.heap.size w0 wc))
   case first =>
    have H := HC15.out
    clear HC15
    by_cases c17 : t308 = 2
    ·rw [if_pos c17] at H
     have c17b0 : (t308 == 2) = true := beq_iff_eq.mpr c17
     have c17b1 : (t308 != 2) = false := bne_eq_false_iff_eq.mpr c17
     clear c17
     J14_
     case rel => exact ⟨_, ((t308 == 2)), (by be_), H', ⟨by first | omega | exact Nat.le_refl _⟩, ⟨by repeat G9_⟩, ⟨by repeat G11_⟩, ⟨by repeat G10_⟩⟩
    ·rw [if_neg c17] at H
     have c17b0 : (t308 == 2) = false := beq_eq_false_iff_ne.mpr c17
     have c17b1 : (t308 != 2) = true := bne_iff_ne.mpr c17
     J14_
     case rel => exact ⟨_, ((t308 == 3)), (by be_), H', ⟨by first | omega | exact Nat.le_refl _⟩, ⟨by repeat G9_⟩, ⟨by repeat G11_⟩, ⟨by repeat G10_⟩⟩
   case rest =>
    clear HC15
    try clear c1
    try clear p2
    try clear c4
    try clear c4b0
    try clear c4b1
    try clear c6
    try clear c6b0
    try clear c6b1
    try clear c6b2
    try clear p6
    try clear c9
    try clear c9b0
    try clear c9b1
    try clear c10
    try clear c11
    try clear c11b0
    try clear c11b1
    try clear c12
    try clear c12b0
    try clear c12b1
    try clear c13
    try clear c17
    try clear c17b0
    try clear c17b1
    obtain ⟨kq, x23_14, rfl, HA, HJ14, HI0, HK, HB⟩ := hcut
    cases kq with
    | zero => exact absurd HA.out (by simp [spec_l02Spoilt.j0])
    | succ kj14 =>
     have H := HA.out
     clear HA
     simp only [spec_l02Spoilt.j0] at H
     by_cases c18 : x23_14 = true
     ·subst c18
      J13_
      by_cases c19 : (a1.size : Int) > 0
      ·rw [if_pos c19] at H
       have c19b0 : decide (0 < (a1.size : Int)) = true := decide_eq_true c19
       have c19b1 : decide (0 < a1.size) = true := decide_eq_true (by omega)
       clear c19
       J4_
       obtain ⟨⟨t317, t318, t319⟩, A200, H⟩ := H
       J8_
       have A20 := Aside0.mk A200
       clear A200
       by_cases c21 : 0 ≤ t317
       ·rw [if_pos c21] at H
        have c21b0 := eq_true c21
        have c21b1 : decide (0 ≤ t317) = true := decide_eq_true c21
        clear c21
        by_cases c22 : t317 ≤ (a1.size : Int)
        ·rw [if_pos c22] at H
         have c22b0 := eq_true c22
         have c22b1 : decide (t317 ≤ (a1.size : Int)) = true := decide_eq_true c22
         clear c22
         J4_
         obtain ⟨⟨t320, t321, t322⟩, A230, H⟩ := H
         J8_
         have A23 := Aside0.mk A230
         clear A230
         by_cases c24 : (a1.extract 0 (t317 : Int).toNat).size + t320.size ≤ 9223372036854775807
         ·rw [if_pos c24] at H
          have c24b0 := eq_true c24
          have c24b1 : decide ((a1.extract 0 (t317 : Int).toNat).size + t320.size ≤ 9223372036854775807) = true := decide_eq_true c24
          try have c24b2 : (9223372036854775807 < (a1.extract 0 (t317 : Int).toNat).size + t320.size) = False := eq_false (Nat.not_lt.2 c24)
          try have c24b8 : (9223372036854775807 < t317.toNat + t320.size) = False := eq_false (by have h_ := c24; simp only [ByteArray.size_append, ByteArray.size_extract, decide_eq_true_eq, decide_eq_false_iff_not] at *; omega)
          try (have c24b9 := c24b2; simp only [ByteArray.size_append] at c24b9)
          obtain ⟨ji25, hji25⟩ : ∃ j_ : Int, (wrap64 (t317 + 1)) = j_ := ⟨_, rfl⟩
          replace H : (if 0 ≤ (ji25) then (if (ji25) ≤ (a1.size : Int) then (if ((a1.extract 0 (t317 : Int).toNat) ++ t320).size + (a1.extract ((ji25) : Int).toNat a1.size).size ≤ 9223372036854775807 then (some (((a1.extract 0 (t317 : Int).toNat) ++ t320) ++ (a1.extract ((ji25) : Int).toNat a1.size), t321, t322)) else (none)) else (none)) else (none)) = some (r1, r2, r3) := by first | (rw [hji25] at H; exact H) | (simp only [hji25] at H ⊢; exact H)
          (try rw [hji25] at A20)
          (try rw [hji25] at A23)
          have hji25w : (IntKind.i64.wrap (t317 + 1)) = ji25 := (i64_w _).trans hji25
          by_cases c26 : 0 ≤ (ji25)
          ·rw [if_pos c26] at H
           have c26b0 := eq_true c26
           have c26b1 : decide (0 ≤ (ji25)) = true := decide_eq_true c26
           clear c26
           by_cases c27 : (ji25) ≤ (a1.size : Int)
           ·rw [if_pos c27] at H
            have c27b0 := eq_true c27
            have c27b1 : decide ((ji25) ≤ (a1.size : Int)) = true := decide_eq_true c27
            clear c27
            by_cases c28 : ((a1.extract 0 (t317 : Int).toNat) ++ t320).size + (a1.extract ((ji25) : Int).toNat a1.size).size ≤ 9223372036854775807
            ·rw [if_pos c28] at H
             have c28b0 := eq_true c28
             have c28b1 : decide (((a1.extract 0 (t317 : Int).toNat) ++ t320).size + (a1.extract ((ji25) : Int).toNat a1.size).size ≤ 9223372036854775807) = true := decide_eq_true c28
             try have c28b2 : (9223372036854775807 < ((a1.extract 0 (t317 : Int).toNat) ++ t320).size + (a1.extract ((ji25) : Int).toNat a1.size).size) = False := eq_false (Nat.not_lt.2 c28)
             try have c28b8 : (9223372036854775807 < t317.toNat + t320.size + (a1.size - ji25.toNat)) = False := eq_false (by have h_ := c28; simp only [ByteArray.size_append, ByteArray.size_extract, decide_eq_true_eq, decide_eq_false_iff_not] at *; omega)
             try (have c28b9 := c28b2; simp only [ByteArray.size_append] at c28b9)
             J6_
             J15_
             try go_wp2_with (first | (G66_; refine goesL_ (some 32) rfl rfl Try.func118 (by kernel_rfl) rfl #[.pointer (some ⟨g, 0, none⟩), .int .i64 (a1.size : Int)] rfl G4_ ?_; (with_reducible refine (spec_l01Below.calls g s0_0 t309 t310 (a1.size : Int) t317 t318 t319 w0 _ ?side1 ?side2 A20.out).mono ?_); G83_; G79_; rintro e w29 ⟨rfl, hi, hb, hk⟩; refine ⟨_, rfl, ?_⟩; have n0_ := Aside0.mk (KeepBut.trans (by repeat G11_) hk (.inl rfl)); have n1_ := Aside0.mk (hb); have n2_ := Aside0.mk (hi); clear HK; clear HB; clear HI0; have HK := n0_; have HB := n1_; have HI0 := n2_; clear n0_ n1_ n2_; (try clear hb); (try clear hb2); (try clear hk); (try clear hi)))
             have n0_ := Aside0.mk (IsS182.drew HI0.out)
             have n1_ := Aside0.mk (keep_drew HK.out)
             have n2_ := Aside0.mk (below_drew1 HB.out)
             clear HI0
             clear HK
             clear HB
             have HI0 := n0_
             have HK := n1_
             have HB := n2_
             clear n0_ n1_ n2_
             refine start_ (n := 12) (S := fun w' => True) (ds := []) #[false, false, false, false, false, false, false, false, false, false, false, false] (by kernel_rfl) rfl rfl trivial (fun hHeld => ?_); refine with_tabW spec_l02Spoilt.tab10 spec_l02Spoilt.bits10 (fun HT_ HW_ => ?_)
             generalize w29.drew = w30 at HI0 HK HB hHeld ⊢
             refine pu_ 0 33 HT_ ?_
             refine pu_ 1 34 HT_ ?_
             refine pu_ 2 35 HT_ ?_
             refine pu_ 3 36 HT_ ?_
             refine pu_ 6 39 HT_ ?_
             refine pu_ 7 40 HT_ ?_
             refine pu_ 8 41 HT_ ?_
             refine pu_ 9 42 HT_ ?_
             refine one_ (i := 4) (N := some 37) #[true, true, true, true, true, false, true, true, true, true, false, false] rfl rfl (one_of HT_.out (by kernel_rfl)) (by decide) (fun K hK => ?_)
             refine goes_ Try.func132 (by kernel_rfl) rfl #[.pointer (some ⟨g, 0, none⟩), .int .i64 1] (by rfl) rfl rfl G4_ ?_
             with_reducible refine (spec_l01Text.calls kj14 g s0_0 t318 t319 1 t320 t321 t322 w0 _ ?side1 ?side2 A23.out).mono ?_
             G83_
             G79_
             rintro e w31 ⟨rfl, hi, hb, hk⟩
             refine ⟨_, rfl, ?_⟩
             have n0_ := Aside0.mk (KeepBut.trans (by repeat G11_) hk (.inl rfl))
             have n1_ := Aside0.mk (hb)
             have n2_ := Aside0.mk (hi)
             clear HK
             clear HB
             clear HI0
             have HK := n0_
             have HB := n1_
             have HI0 := n2_
             clear n0_ n1_ n2_
             (try clear hb)
             (try clear hb2)
             (try clear hk)
             (try clear hi)
             refine hK.out _ _ trivial (fun hHeld => ?_)
             clear hK K
             refine norm_ (a' := ?_) ?_ ?_
             rotate_left
             ·show Act.put _ (some 37) _ = _
              simp only [Act.put, List.setIfInBounds_toArray, List.set_cons_zero, List.set_cons_succ, i64_w, i32_w]
              rfl
             refine pu_ 5 38 HT_ ?_
             refine pu_ 10 43 HT_ ?_
             refine pu_ 11 4 HT_ ?_
             refine done_ (done_of HT_.out (by kernel_rfl)) ?_
             try go_wp2
             go_ret
             exact ⟨by first | rfl | (simp [errW_none, errW_some] <;> rfl) | (simp only [← hji25]; first | rfl | (simp [errW_none, errW_some] <;> rfl)) | (simp [*, errW_none, errW_some] <;> rfl), by repeat G9_, by repeat G10_, by repeat G11_⟩
            ·rw [if_neg c28] at H
             J10_
           ·rw [if_neg c27] at H
            J10_
          ·rw [if_neg c26] at H
           J10_
         ·rw [if_neg c24] at H
          J10_
        ·rw [if_neg c22] at H
         J10_
       ·rw [if_neg c21] at H
        J10_
      ·rw [if_neg c19] at H
       have c19b0 : decide (0 < (a1.size : Int)) = false := decide_eq_false c19
       have c19b1 : decide (0 < a1.size) = false := decide_eq_false (by omega)
       clear c19
       J6_
       J15_
       go_wp2
       J2_
     ·replace c18 := Bool.eq_false_iff.mpr c18
      subst c18
      J16_
      J6_
      J15_
      go_wp2
      J2_

/-! ### spec_SumOnes: function 62 -/
def spec_SumOnes.l0 : Nat → ByteArray → Int → Int → Option (Int)
 | 0, _, _, _ => none
 | k + 1, x0, x3, x4 => if x4 < (x0.size : Int) then (if 0 ≤ x4 then (if (wrap64 (x4 + 1)) < (x0.size : Int) then (if 0 ≤ (wrap64 (x4 + 1)) then (if (wrap64 (x3 + (wrap64 ((wrap64 (256 * (wrap64 (bt x0 x4)))) + (wrap64 (bt x0 (wrap64 (x4 + 1)))))))) > 65535 then (spec_SumOnes.l0 k x0 (wrap64 ((wrap64 (x3 + (wrap64 ((wrap64 (256 * (wrap64 (bt x0 x4)))) + (wrap64 (bt x0 (wrap64 (x4 + 1)))))))) - 65535)) (wrap64 (x4 + 2))) else (spec_SumOnes.l0 k x0 (wrap64 (x3 + (wrap64 ((wrap64 (256 * (wrap64 (bt x0 x4)))) + (wrap64 (bt x0 (wrap64 (x4 + 1)))))))) (wrap64 (x4 + 2)))) else (none)) else (if (wrap64 (x3 + (wrap64 (256 * (wrap64 (bt x0 x4)))))) > 65535 then (spec_SumOnes.l0 k x0 (wrap64 ((wrap64 (x3 + (wrap64 (256 * (wrap64 (bt x0 x4)))))) - 65535)) (wrap64 (x4 + 2))) else (spec_SumOnes.l0 k x0 (wrap64 (x3 + (wrap64 (256 * (wrap64 (bt x0 x4)))))) (wrap64 (x4 + 2))))) else (none)) else (some (wrap64 (65535 - x3)))
def spec_SumOnes.f (k : Nat) (a0 : ByteArray) : Option (Int) := spec_SumOnes.l0 k a0 0 0
theorem spec_SumOnes.mono_l : ∀ k, (∀ y0 y1 y2, LeO (spec_SumOnes.l0 k y0 y1 y2) (spec_SumOnes.l0 (k + 1) y0 y1 y2))
 | 0 => fun _ _ _ r h => by simp [spec_SumOnes.l0] at h
 | k + 1 => by
  have ih0 := spec_SumOnes.mono_l k
  ·intro y0 y1 y2
   unfold spec_SumOnes.l0
   repeat' first
   | (with_reducible exact ih0 _ _ _)
   | (with_reducible exact LeO.refl _)
   | (with_reducible exact LeO.none _)
   | (with_reducible refine LeO.ite ?_ ?_)
   | (with_reducible refine LeO.bind ?_ (fun _ => ?_))
   | exact ih0 _ _ _
   | exact LeO.none _
   | refine LeO.ite ?_ ?_
   | refine LeO.bind ?_ (fun _ => ?_)
theorem spec_SumOnes.mono : ∀ a0 k, LeO (spec_SumOnes.f k a0) (spec_SumOnes.f (k + 1) a0) := by
 intro a0 k
 have ih0 := spec_SumOnes.mono_l k
 unfold spec_SumOnes.f
 repeat' first
   | (with_reducible exact ih0 _ _ _)
   | (with_reducible exact LeO.refl _)
   | (with_reducible exact LeO.none _)
   | (with_reducible refine LeO.ite ?_ ?_)
   | (with_reducible refine LeO.bind ?_ (fun _ => ?_))
   | exact ih0 _ _ _
   | exact LeO.none _
   | refine LeO.ite ?_ ?_
   | refine LeO.bind ?_ (fun _ => ?_)
set_option maxHeartbeats 8000000 in
set_option maxRecDepth 100000 in
theorem spec_SumOnes.calls (k : Nat) (a0 : ByteArray) (r : Int) (w : World) (h : spec_SumOnes.f k a0 = some r) :
  Calls Try.prog 62 #[.string a0] w fun e w' => e = .returned (.int .i64 r) ∧ Drawn0 w w' := by
 have H : (spec_SumOnes.l0 k a0 0 0) = some r := h
 clear h
 have H' := Aside0.mk H
 clear H
 go_enter Try.func62, Try.ntmps62
 go_wp2
 go_loopg [3, 4] k (fun kq v3 v4 w' => ∃ (x3_1 : Int) (x4_1 : Int), v3 = .int .i64 x3_1 ∧ v4 = .int .i64 x4_1 ∧ Aside0 (spec_SumOnes.l0 kq a0 x3_1 x4_1 = some r) ∧ Aside0 (kq ≤ k) ∧ Drawn0 w w')
 case atStart => exact ⟨(0), (0), (by be_), (by be_), H', ⟨Nat.le_refl _⟩, by repeat G61_⟩
 case round =>
  clear H'
  obtain ⟨x3_1, x4_1, rfl, rfl, HA, HK1, ⟨m1, rfl⟩⟩ := hrel
  cases gk with
  | zero => exact absurd HA.out (by simp [spec_SumOnes.l0])
  | succ k1 =>
   have H := HA.out
   clear HA
   simp only [spec_SumOnes.l0] at H
   by_cases c2 : x4_1 < (a0.size : Int)
   ·rw [if_pos c2] at H
    have c2b0 : decide (x4_1 < (a0.size : Int)) = true := decide_eq_true c2
    clear c2
    by_cases c3 : 0 ≤ x4_1
    ·rw [if_pos c3] at H
     have c3b0 : decide (0 ≤ x4_1) = true := decide_eq_true c3
     clear c3
     by_cases c5 : (wrap64 (x4_1 + 1)) < (a0.size : Int)
     ·rw [if_pos c5] at H
      have c5b0 : decide ((wrap64 (x4_1 + 1)) < (a0.size : Int)) = true := decide_eq_true c5
      clear c5
      obtain ⟨ji6, hji6⟩ : ∃ j_ : Int, (wrap64 (x4_1 + 1)) = j_ := ⟨_, rfl⟩
      replace H : (if 0 ≤ (ji6) then (if (wrap64 (x3_1 + (wrap64 ((wrap64 (256 * (wrap64 (bt a0 x4_1)))) + (wrap64 (bt a0 (ji6))))))) > 65535 then (spec_SumOnes.l0 k1 a0 (wrap64 ((wrap64 (x3_1 + (wrap64 ((wrap64 (256 * (wrap64 (bt a0 x4_1)))) + (wrap64 (bt a0 (ji6))))))) - 65535)) (wrap64 (x4_1 + 2))) else (spec_SumOnes.l0 k1 a0 (wrap64 (x3_1 + (wrap64 ((wrap64 (256 * (wrap64 (bt a0 x4_1)))) + (wrap64 (bt a0 (ji6))))))) (wrap64 (x4_1 + 2)))) else (none)) = some r := by first | (rw [hji6] at H; exact H) | (simp only [hji6] at H ⊢; exact H)
      (try rw [hji6] at c5b0)
      have hji6w : (IntKind.i64.wrap (x4_1 + 1)) = ji6 := (i64_w _).trans hji6
      by_cases c7 : 0 ≤ (ji6)
      ·rw [if_pos c7] at H
       have c7b0 : decide (0 ≤ (ji6)) = true := decide_eq_true c7
       clear c7
       by_cases c9 : (wrap64 (x3_1 + (wrap64 ((wrap64 (256 * (wrap64 (bt a0 x4_1)))) + (wrap64 (bt a0 (ji6))))))) > 65535
       ·rw [if_pos c9] at H
        have c9b0 : decide (65535 < (wrap64 (x3_1 + (wrap64 ((wrap64 (256 * (wrap64 (bt a0 x4_1)))) + (wrap64 (bt a0 (ji6)))))))) = true := decide_eq_true c9
        clear c9
        J3_
        J7_
        case rel => exact ⟨(wrap64 ((wrap64 (x3_1 + (wrap64 ((wrap64 (256 * (wrap64 (bt a0 x4_1)))) + (wrap64 (bt a0 (ji6))))))) - 65535)), (wrap64 (x4_1 + 2)), G93_, (by be_), H', G96_, by repeat G61_⟩
       ·rw [if_neg c9] at H
        have c9b0 : decide (65535 < (wrap64 (x3_1 + (wrap64 ((wrap64 (256 * (wrap64 (bt a0 x4_1)))) + (wrap64 (bt a0 (ji6)))))))) = false := decide_eq_false c9
        clear c9
        J3_
        J7_
        case rel => exact ⟨(wrap64 (x3_1 + (wrap64 ((wrap64 (256 * (wrap64 (bt a0 x4_1)))) + (wrap64 (bt a0 (ji6))))))), (wrap64 (x4_1 + 2)), G93_, (by be_), H', G96_, by repeat G61_⟩
      ·rw [if_neg c7] at H
       J10_
     ·rw [if_neg c5] at H
      have c5b0 : decide ((wrap64 (x4_1 + 1)) < (a0.size : Int)) = false := decide_eq_false c5
      clear c5
      by_cases c10 : (wrap64 (x3_1 + (wrap64 (256 * (wrap64 (bt a0 x4_1)))))) > 65535
      ·rw [if_pos c10] at H
       have c10b0 : decide (65535 < (wrap64 (x3_1 + (wrap64 (256 * (wrap64 (bt a0 x4_1))))))) = true := decide_eq_true c10
       clear c10
       J3_
       J18_
       case rel => exact ⟨(wrap64 ((wrap64 (x3_1 + (wrap64 (256 * (wrap64 (bt a0 x4_1)))))) - 65535)), (wrap64 (x4_1 + 2)), (by be_), (by be_), H', G96_, by repeat G61_⟩
      ·rw [if_neg c10] at H
       have c10b0 : decide (65535 < (wrap64 (x3_1 + (wrap64 (256 * (wrap64 (bt a0 x4_1))))))) = false := decide_eq_false c10
       clear c10
       J3_
       J18_
       case rel => exact ⟨(wrap64 (x3_1 + (wrap64 (256 * (wrap64 (bt a0 x4_1)))))), (wrap64 (x4_1 + 2)), (by be_), (by be_), H', G96_, by repeat G61_⟩
    ·rw [if_neg c3] at H
     J10_
   ·rw [if_neg c2] at H
    have c2b0 : decide (x4_1 < (a0.size : Int)) = false := decide_eq_false c2
    clear c2
    J12_
    J9_

/-! ### spec_l11Two: function 158 -/
def spec_l11Two.f (a0 : Int) : Option (ByteArray) := some (strOfNums (([(wrap64 (Int.tdiv a0 256)) % 256, (Int.tmod a0 256) % 256] : List Int)))
set_option maxHeartbeats 8000000 in
set_option maxRecDepth 100000 in
theorem spec_l11Two.calls (a0 : Int) (r : ByteArray) (w : World) (h : spec_l11Two.f a0 = some r) :
  Calls Try.prog 158 #[.int .i64 a0] w fun e w' => e = .returned (.string r) ∧ Below w.heap.size w w' := by
 J17_
 have H : (some (strOfNums (([(wrap64 (Int.tdiv a0 256)) % 256, (Int.tmod a0 256) % 256] : List Int)))) = some r := h
 clear h
 obtain ⟨y323, hy323⟩ : ∃ y_ : List Int, y_ = (([(wrap64 (Int.tdiv a0 256)) % 256, (Int.tmod a0 256) % 256] : List Int)) := ⟨_, rfl⟩
 replace H : (some (strOfNums y323)) = some r := by first | (rw [hy323]; with_reducible exact H) | (have H2_ := (Option.bind_some _ _).symm.trans H; rw [hy323]; with_reducible exact H2_) | (have H2_ := (Option.bind_some _ _).symm.trans H; with_reducible exact H2_) | with_reducible exact H | (rw [hy323]; exact H) | exact H
 have Ny323 := Aside0.mk hy323
 clear hy323
 J12_
 go_enter Try.func158, Try.ntmps158
 go_wp2_with (first | ((with_reducible refine gate_dst (N := 9) rfl ?_); refine Kd.R_lit (Kd.int .u8) _ 5 ?hg (N := 9) ?hd (xs := ([(wrap64 (Int.tdiv a0 256)) % 256, (Int.tmod a0 256) % 256] : List Int)) (inner := [.int .u8 ((wrap64 (Int.tdiv a0 256)) % 256), .int .u8 ((Int.tmod a0 256) % 256)]) (ok := fun _ => True) (okp := fun _ => True) ?hr ?hp (fun _ hk => hk) trivial (Below.refl _ _) (Nat.le_refl _) (by simp) ?_; (case hd => rfl); (case hg => rfl); G16_; (case hp => exact (Reps.one (show Kd.M (Kd.int .u8) _ _ _ ((wrap64 (Int.tdiv a0 256)) % 256) [.int .u8 ((wrap64 (Int.tdiv a0 256)) % 256)] from rfl) (Reps.one (show Kd.M (Kd.int .u8) _ _ _ ((Int.tmod a0 256) % 256) [.int .u8 ((Int.tmod a0 256) % 256)] from rfl) (Reps.none _ _)))); intro v324 w2 ho3 hb hg_ hnew_; clear hg_ hnew_; (first | rw [← Ny323.out] at ho3 | (simp only [Int.reduceToNat] at ho3; rw [← Ny323.out] at ho3)); have n0_ := Aside0.mk (Kd.R_lower ho3 (below_size G5_)); have n1_ := Aside0.mk G67_; clear HB; have HO325 := n0_; have HB := n1_; clear n0_ n1_; clear hb ho3; have hcv4 := own_string (P := Try.prog) Try.underlying45 Try.underlying5 Try.underlying9 (Kd.own_of_R HO325.out)))
 go_ret
 exact ⟨by first | rfl | (simp [errW_none, errW_some] <;> rfl) | (simp [*, errW_none, errW_some] <;> rfl), by repeat (first | (with_reducible first | exact HB.out | apply below_alloc | apply pw_below_drewN | apply below_drew1) | exact HB.out)⟩

end Go.Proofs.Ytjijbffecppeiaa.QFnDgrams
