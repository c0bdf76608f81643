/- Functions that a law reaches, as functions of Lean, and the walks that show that the calls come to their answers: written by a program of this project out of the translation. No condition. -/
import Derived.Test.YtjijbffecppeiaaQFnDgramsx0
import Derived.Test.YtjijbffecppeiaaQFnDgramsx2
import Derived.Test.YtjijbffecppeiaaShort2
import Derived.Test.YtjijbffecppeiaaShort
namespace Go.Proofs.Ytjijbffecppeiaa.QFnDgrams
open Go.RowKit Go.Proofs.YtjijbffecppeiaaW.PrintWords Go.Proofs.YtjijbffecppeiaaW.PrintLast Go.Proofs.YtjijbffecppeiaaW.PrintMore Go.Proofs.Ytjijbffecppeiaa.Short
attribute [local go_sem] max2_int min2_int max_two min_two max_three min_three max_four min_four   -- for this text's walks alone
set_option linter.unusedVariables false
set_option linter.unusedSimpArgs false

/-! ### spec_l11Any: function 128 -/
def spec_l11Any.f (k : Nat) (s0_0 : List Int) (s0_1 : Int) (s0_2 : Int) : Option (Int × Int × Int × Int × Bool × ByteArray × Int × Int) := (spec_l11Dgram.f k s0_0 s0_1 s0_2).bind fun bt168 => ((spec_l01Below.f s0_0 bt168.2.2.2.2.2.2.1 bt168.2.2.2.2.2.2.2 16).bind fun bt177 => (if bt177.1 = 0 then ((spec_l01PickInt.f s0_0 bt177.2.1 bt177.2.2 (([0, 99, 100] : List Int))).bind fun bt183 => (some (bt183.1, bt168.2.1, bt168.2.2.1, bt168.2.2.2.1, bt168.2.2.2.2.1, bt168.2.2.2.2.2.1, bt183.2.1, bt183.2.2))) else (if bt177.1 = 1 then ((spec_l01PickInt.f s0_0 bt177.2.1 bt177.2.2 (([(-1), 65535, 65536] : List Int))).bind fun bt189 => (some (bt168.1, bt168.2.1, bt189.1, bt168.2.2.2.1, bt168.2.2.2.2.1, bt168.2.2.2.2.2.1, bt189.2.1, bt189.2.2))) else (if bt177.1 = 2 then ((spec_l01PickInt.f s0_0 bt177.2.1 bt177.2.2 (([(-8), 4, 8, 152, 160] : List Int))).bind fun bt195 => (some (bt168.1, bt168.2.1, bt168.2.2.1, bt195.1, bt168.2.2.2.2.1, bt168.2.2.2.2.2.1, bt195.2.1, bt195.2.2))) else (if bt177.1 = 3 then (some (bt168.1, bt168.2.1, bt168.2.2.1, bt168.2.2.2.1, true, bt168.2.2.2.2.2.1, bt177.2.1, bt177.2.2)) else (if bt177.1 = 4 then ((spec_l01PickInt.f s0_0 bt177.2.1 bt177.2.2 (([0, 160, 161] : List Int))).bind fun bt201 => ((spec_l01Long.f k bt201.1 67).bind fun t204 => (some (bt168.1, bt168.2.1, bt168.2.2.1, bt168.2.2.2.1, bt168.2.2.2.2.1, t204, bt201.2.1, bt201.2.2)))) else (some (bt168.1, bt168.2.1, bt168.2.2.1, bt168.2.2.2.1, bt168.2.2.2.2.1, bt168.2.2.2.2.2.1, bt177.2.1, bt177.2.2))))))))
theorem spec_l11Any.mono : ∀ a0 a1 a2 k, LeO (spec_l11Any.f k a0 a1 a2) (spec_l11Any.f (k + 1) a0 a1 a2) := by
 intro a0 a1 a2 k
 unfold spec_l11Any.f
 repeat' first
   | (with_reducible exact spec_l01Long.mono _ _ _)
   | (with_reducible exact spec_l11Dgram.mono _ _ _ _)
   | (with_reducible exact LeO.refl _)
   | (with_reducible exact LeO.none _)
   | (with_reducible refine LeO.ite ?_ ?_)
   | (with_reducible refine LeO.bind ?_ (fun _ => ?_))
   | exact spec_l01Long.mono _ _ _
   | exact spec_l11Dgram.mono _ _ _ _
   | exact LeO.none _
   | refine LeO.ite ?_ ?_
   | refine LeO.bind ?_ (fun _ => ?_)
set_option hygiene false
local macro:max "G0_" : tactic => `(tactic| (with_reducible repeat (first | refine blk_drewN ?_ _ | refine blk_drew ?_ | refine blk_alloc ?_ _)))
local macro:max "G1_" : term => `((by (try simp only [List.map_toArray, List.map_cons, List.map_nil]); first | done | rfl | (simp only [List.length_drop, List.length_take]; rfl)))
local macro:max "G2_" : term => `((by repeat (first | (with_reducible first | exact HB.out | apply below_alloc | apply pw_below_drewN | apply below_drew1) | exact HB.out)))
local macro:max "G3_" : term => `(#[.int .i64 0, .int .i64 0, .int .i64 0, .int .i64 0, .bool false, .string (⟨#[]⟩ : ByteArray)])
local macro:max "G4_" : tactic => `(tactic| (first | (with_reducible first | exact HI0.out | apply IsS182.alloc | apply IsS182.drewN | apply IsS182.drew | apply IsS182.set_1 | apply IsS182.set_2 | refine IsS182.far ?_ NB0_167.out _) | exact HI0.out))
local macro:max "G5_" : tactic => `(tactic| (first | (with_reducible first | exact HI0.out | apply IsS182.alloc | apply IsS182.drewN | apply IsS182.drew | apply IsS182.set_1 | apply IsS182.set_2 | refine IsS182.far ?_ NB0_167.out _ | refine IsS182.far ?_ NB0_176.out _) | exact HI0.out))
local macro:max "G6_" : term => `((by repeat (first | (with_reducible first | exact HK.out | apply KeepBut.set_ | apply keep_drewN | apply keep_drew | apply keep_alloc | refine keep_far ?_ GW167.out _) | exact HK.out)))
local macro:max "G7_" : term => `((by G0_; refine blk_put (cs := #[.int .i64 t168, .int .i64 t169, .int .i64 t170, .int .i64 t171, .bool t172, .string (⟨#[]⟩ : ByteArray)]) ?_ 5 _ rfl; G0_; refine blk_put (cs := #[.int .i64 t168, .int .i64 t169, .int .i64 t170, .int .i64 t171, .bool false, .string (⟨#[]⟩ : ByteArray)]) ?_ 4 _ rfl; G0_; refine blk_put (cs := #[.int .i64 t168, .int .i64 t169, .int .i64 t170, .int .i64 0, .bool false, .string (⟨#[]⟩ : ByteArray)]) ?_ 3 _ rfl; G0_; refine blk_put (cs := #[.int .i64 t168, .int .i64 t169, .int .i64 0, .int .i64 0, .bool false, .string (⟨#[]⟩ : ByteArray)]) ?_ 2 _ rfl; G0_; refine blk_put (cs := #[.int .i64 t168, .int .i64 0, .int .i64 0, .int .i64 0, .bool false, .string (⟨#[]⟩ : ByteArray)]) ?_ 1 _ rfl; G0_; refine blk_put (cs := G3_) ?_ 0 _ rfl; G0_; exact BK176.out))
local macro:max "G8_" : term => `((by repeat (first | (with_reducible first | exact HK.out | apply KeepBut.set_ | apply keep_drewN | apply keep_drew | apply keep_alloc | refine keep_far ?_ GW167.out _ | refine keep_far ?_ GW176.out _) | exact HK.out)))
local macro:max "G9_" : tactic => `(tactic| (first | (with_reducible first | exact HB.out | apply below_alloc | apply pw_below_drewN | apply below_drew1 | refine below_set ?_ (IsS182.ge HI0.out) | refine below_set ?_ GE167.out | refine below_set ?_ GE176.out) | exact HB.out))
local macro:max "G10_" : tactic => `(tactic| (first | (with_reducible first | exact HI0.out | apply IsS182.alloc | apply IsS182.drewN | apply IsS182.drew | apply IsS182.set_1 | apply IsS182.set_2) | exact HI0.out))
local macro:max "G11_" : term => `((by rw [hg]; exact (keep_size (w := w) (g := g) (row := none) (by repeat (first | (with_reducible first | exact HK.out | apply KeepBut.set_ | apply keep_drewN | apply keep_drew | apply keep_alloc) | exact HK.out))) : w.heap.size ≤ gb167))
local macro:max "G12_" : tactic => `(tactic| (first | (with_reducible first | exact HB.out | apply below_alloc | apply pw_below_drewN | apply below_drew1 | refine below_set ?_ (IsS182.ge HI0.out) | refine below_set ?_ GE167.out) | exact HB.out))
local macro:max "G13_" : tactic => `(tactic| (case hr => first | (go_simp; done) | (go_simp; rfl)))
local macro:max "G14_" : term => `((by rw [hg]; exact (below_size G2_) : w.heap.size ≤ gb220))
local macro:max "G15_" : term => `((by G0_; refine blk_far ?_ NB167_176.out _; G0_; refine blk_far ?_ NB167_176.out _; G0_; refine blk_far ?_ NB167_176.out _; G0_; refine blk_far ?_ NB167_176.out _; G0_; refine blk_far ?_ NB167_176.out _; G0_; refine blk_far ?_ NB167_176.out _; G0_; exact BK167.out))
local macro:max "G16_" : term => `(#[.int .i64 t168, .int .i64 t169, .int .i64 t170, .int .i64 t171, .bool t172, .string t173])
local macro:max "G17_" : term => `((below_step (by repeat (first | (with_reducible first | exact HB.out | apply below_alloc | apply pw_below_drewN | apply below_drew1 | refine below_set ?_ (IsS182.ge HI0.out)) | exact HB.out)) hb))
local macro:max "G18_" : term => `(#[.int .i64 a0_0, .int .i64 a0_1, .int .i64 a0_2, .int .i64 a0_3, .bool a0_4, .string a0_5])
local macro:max "G19_" : term => `((by rw [hg]; exact (keep_size (w := w) (g := g) (row := none) G6_) : w.heap.size ≤ gb176))
local macro:max "G20_" : term => `((blk_lt (g := gb167) (o := .cells G3_ 85 (0, 0)) (by G0_; exact BK167.out)))
local macro:max "G21_" : term => `((blk_below (g := gb167) (o := .cells G3_ 85 (0, 0)) (by G0_; exact BK167.out) hb))
local macro:max "G22_" : term => `((by repeat (first | (with_reducible first | exact HK.out | apply KeepBut.set_ | apply keep_drewN | apply keep_drew | apply keep_alloc) | exact HK.out)))
local macro:max "G23_" : tactic => `(tactic| (with_reducible refine gate_callee (f := 84) rfl ?_))
local macro:max "G24_" : tactic => `(tactic| (with_reducible refine (spec_l11Dgram.calls k g s0_0 s0_1 s0_2 t168 t169 t170 t171 t172 t173 t174 t175 w0 _ ?side1 ?side2 A2.out).mono ?_))
local macro:max "G25_" : tactic => `(tactic| (with_reducible repeat (first | apply Kd.R_alloc | apply Kd.R_drewN | apply Kd.R_drew)))
local macro:max "G26_" : tactic => `(tactic| (with_reducible refine (impl_within.calls a0_3 0 160 true _ A2.out).mono ?_))
local macro:max "G27_" : tactic => `(tactic| (with_reducible refine gate_callee (f := 130) rfl ?_))
local macro:max "G28_" : tactic => `(tactic| (try (refine gate_guard (by rfl) ?_; dsimp only)))
local macro:max "G29_" : tactic => `(tactic| (with_reducible refine gate_dst (N := 1) rfl ?_))
local macro:max "G30_" : term => `((show IsS182 w0 _ g s0_0 s0_1 s0_2 from by repeat G10_))
local macro:max "G31_" : tactic => `(tactic| (with_reducible refine (spec_l01Below.calls g s0_0 t174 t175 16 t177 t178 t179 w0 _ ?side1 ?side2 A3.out).mono ?_))
local macro:max "G32_" : term => `((by rw [hg]; exact Nat.ne_of_gt (IsS182.lt (show IsS182 w0 _ g s0_0 t174 t175 from by repeat G4_)) : gb176 ≠ g))
local macro:max "G33_" : term => `((by rw [hg]; exact Nat.ne_of_lt (IsS182.lt (show IsS182 w0 _ g s0_0 t174 t175 from by repeat G4_)) : g ≠ gb176))
local macro:max "G34_" : term => `(#[.int .i64 a0_3, .int .i64 0, .int .i64 160])
local macro:max "G35_" : tactic => `(tactic| (have H2_ := (Option.bind_some _ _).symm.trans H; with_reducible exact H2_))
local macro:max "G36_" : term => `(#[.int .i64 t168, .int .i64 t169, .int .i64 0, .int .i64 0, .bool false, .string (⟨#[]⟩ : ByteArray)])
local macro:max "G37_" : term => `(#[.int .i64 t168, .int .i64 0, .int .i64 0, .int .i64 0, .bool false, .string (⟨#[]⟩ : ByteArray)])
local macro:max "G38_" : tactic => `(tactic| (go_at_call 130; (with_reducible refine (impl_isAddr.calls a0_1 true _ A8.out).mono ?_); rintro e w' ⟨rfl, ⟨nd, rfl⟩⟩))
local macro:max "G39_" : tactic => `(tactic| (go_at_call 84; (with_reducible refine (impl_within.calls (a0_5.size : Int) 1 (wrap64 (160 - a0_3)) t222 _ A5.out).mono ?_); rintro e w' ⟨rfl, ⟨nd, rfl⟩⟩))
local macro:max "G40_" : term => `(#[.int .i64 t168, .int .i64 t169, .int .i64 t170, .int .i64 0, .bool false, .string (⟨#[]⟩ : ByteArray)])
local macro:max "G41_" : term => `((blk_below (g := gb176) (o := .cells G16_ 85 (0, 0)) (by G0_; exact BK176.out) hb))
local macro:max "G42_" : term => `((by rw [hg]; exact Nat.ne_of_gt (IsS182.lt G30_) : gb167 ≠ g))
local macro:max "G43_" : term => `((by rw [hg]; exact Nat.ne_of_lt (IsS182.lt G30_) : g ≠ gb167))
local macro:max "G44_" : tactic => `(tactic| (with_reducible refine (impl_isAddr.calls a0_0 true _ A6.out).mono ?_))
local macro:max "G45_" : tactic => `(tactic| (with_reducible refine gate_dst (N := 2) rfl ?_))
local macro:max "G46_" : term => `((by rw [hg]; exact Nat.ne_of_gt G20_ : gb176 ≠ gb167))
local macro:max "G47_" : term => `((by rw [hg]; exact Nat.ne_of_lt G20_ : gb167 ≠ gb176))
local macro:max "G48_" : tactic => `(tactic| (go_at_call 85; (with_reducible refine (impl_isWord.calls a0_2 true _ A10.out).mono ?_); rintro e w' ⟨rfl, ⟨nd, rfl⟩⟩))
local macro:max "G49_" : tactic => `(tactic| (first | (with_reducible first | exact HB.out | apply below_alloc | apply pw_below_drewN | apply below_drew1) | exact HB.out))
local macro:max "G50_" : tactic => `(tactic| (with_reducible refine gate_callee (f := 118) rfl ?_))
local macro:max "G51_" : tactic => `(tactic| (with_reducible refine gate_callee (f := 170) rfl ?_))
local macro:max "G52_" : term => `((below_step G2_ hb))
local macro:max "G53_" : term => `((blk_cell BK220.out 0))
local macro:max "G54_" : term => `((blk_cell BK220.out 1))
local macro:max "G55_" : term => `((blk_cell BK220.out 2))
local macro:max "G56_" : term => `((blk_cell BK220.out 3))
local macro:max "G57_" : term => `((blk_cell BK220.out 4))
local macro:max "G58_" : term => `((blk_cell BK220.out 5))
local macro:max "G59_" : term => `(#[.pointer (some ⟨g, 0, none⟩), .int .i64 16])
local macro:max "G60_" : tactic => `(tactic| (first | exact Drawn0.refl _ | apply Drawn0.step))
local macro:max "G61_" : tactic => `(tactic| (with_reducible refine (impl_within.calls a0_3 0 160 false _ A2.out).mono ?_))
local macro:max "G62_" : tactic => `(tactic| (with_reducible refine gate_dst (N := 3) rfl ?_))
local macro:max "G63_" : term => `(#[.int .i64 t168, .int .i64 t169, .int .i64 t170, .int .i64 t171, .bool false, .string (⟨#[]⟩ : ByteArray)])
local macro:max "G64_" : tactic => `(tactic| (first | (with_reducible first | exact HB.out | apply below_alloc | apply pw_below_drewN | apply below_drew1 | refine below_set ?_ (IsS182.ge HI209.out) | refine below_set ?_ GE205.out) | exact HB.out))
local macro:max "G65_" : tactic => `(tactic| (case side1 => repeat G5_))
local macro:max "G66_" : tactic => `(tactic| (case side2 => repeat G9_))
local macro:max "G67_" : term => `((blk_cell BK176.out 0))
local macro:max "G68_" : term => `((blk_cell BK176.out 1))
local macro:max "G69_" : term => `((blk_cell BK176.out 2))
local macro:max "G70_" : term => `((blk_cell BK176.out 3))
local macro:max "G71_" : term => `((blk_cell BK176.out 4))
local macro:max "G72_" : term => `((blk_cell BK176.out 5))
local macro:max "G73_" : term => `((by G0_; exact BK167.out))
local macro:max "G74_" : tactic => `(tactic| (go_at_call 84; (with_reducible refine (impl_within.calls (a0_5.size : Int) 1 (wrap64 (160 - a0_3)) true _ A5.out).mono ?_); rintro e w' ⟨rfl, ⟨nd, rfl⟩⟩))
local macro:max "G75_" : term => `((blk_below (g := gb205) (o := .cells G3_ 85 (0, 0)) (by G0_; exact BK205.out) hb2))
local macro:max "G76_" : term => `(#[.pointer (some ⟨g, 0, none⟩)])
local macro:max "G77_" : term => `((show IsS182 w0 _ g s0_0 t178 t179 from by repeat G5_))
local macro:max "G78_" : term => `((by first | (with_reducible assumption) | assumption))
local macro:max "G79_" : tactic => `(tactic| (with_reducible refine gate_callee (f := 119) rfl ?_))
local macro:max "G80_" : tactic => `(tactic| (with_reducible refine Kd.C_alloc ?_ _))
local macro:max "G81_" : tactic => `(tactic| (with_reducible refine Kd.C_drewN ?_ _))
local macro:max "G82_" : term => `((below_step (by repeat G12_) hb))
local macro:max "G83_" : tactic => `(tactic| (with_reducible refine (impl_isAddr.calls a0_0 true _ A26.out).mono ?_))
local macro:max "G84_" : tactic => `(tactic| (with_reducible refine (impl_isAddr.calls a0_0 true _ A40.out).mono ?_))
local macro:max "G85_" : tactic => `(tactic| (with_reducible refine Kd.C_drew ?_))
local macro:max "G86_" : tactic => `(tactic| (go_at_call 130; (with_reducible refine (impl_isAddr.calls a0_1 true _ A28.out).mono ?_); rintro e w' ⟨rfl, ⟨nd, rfl⟩⟩))
local macro:max "G87_" : tactic => `(tactic| (go_at_call 130; (with_reducible refine (impl_isAddr.calls a0_1 true _ A42.out).mono ?_); rintro e w' ⟨rfl, ⟨nd, rfl⟩⟩))
local macro:max "G88_" : tactic => `(tactic| (case side2 => repeat G12_))
local macro:max "G89_" : term => `(#[.int .i64 t168, .int .i64 t169, .int .i64 t170, .int .i64 t171, .bool t172, .string (⟨#[]⟩ : ByteArray)])
local macro:max "G90_" : tactic => `(tactic| (case side1 => repeat G4_))
local macro:max "G91_" : term => `((below_step (by repeat G9_) hb))
local macro:max "G92_" : term => `(⟨by have := HK1.out; omega⟩)
local macro:max "G93_" : term => `((blk_cell BK167.out 0))
local macro:max "G94_" : term => `((blk_cell BK167.out 1))
local macro:max "G95_" : term => `((blk_cell BK167.out 2))
local macro:max "G96_" : term => `((blk_cell BK167.out 3))
local macro:max "G97_" : term => `((blk_cell BK167.out 4))
local macro:max "G98_" : term => `((blk_cell BK167.out 5))
local macro:max "G99_" : term => `((by G0_; exact BK176.out))
local macro "J0_" : tactic => `(tactic| ((exact ⟨by first | rfl | (simp [errW_none, errW_some] <;> rfl) | (simp [*, errW_none, errW_some] <;> rfl), by repeat G5_, by repeat G9_, by repeat (first | (with_reducible first | exact HK.out | apply KeepBut.set_ | apply keep_drewN | apply keep_drew | apply keep_alloc | refine keep_far ?_ GW167.out _ | refine keep_far ?_ GW176.out _) | exact HK.out)⟩)))
local macro "J1_" : tactic => `(tactic| ((go_ret); (exact ⟨by first | rfl | (simp [errW_none, errW_some] <;> rfl) | (simp [*, errW_none, errW_some] <;> rfl), by repeat (first | (with_reducible first | exact HB.out | apply below_alloc | apply pw_below_drewN | apply below_drew1 | refine below_set ?_ GE220.out) | exact HB.out)⟩)))
local macro "J2_" : tactic => `(tactic| ((have H' := Aside0.mk H); (clear H); (have p4 : 0 ≤ (x4_1 : Int) := of_decide_eq_true G78_); (have q4 : x4_1 < (a0.size : Int) := of_decide_eq_true G78_); (have hx4 := bt_at a0 x4_1); (replace p4 := eq_true p4); (replace q4 := eq_true q4); (go_wp2); (go_roundg k1); (case measure => have := HK1.out; omega)))
local macro "J3_" : tactic => `(tactic| ((rw [if_neg (show ¬ (false = true) by decide)] at H); (obtain rfl := Option.some.inj H)))
local macro "J4_" : tactic => `(tactic| ((replace H := Option.bind_eq_some_iff.mp H)))
local macro "J5_" : tactic => `(tactic| ((go_ret); (exact ⟨by first | rfl | (simp; done) | (simp [*]; done), by repeat G60_⟩)))
local macro "J6_" : tactic => `(tactic| ((simp only [Option.some.injEq, Prod.mk.injEq] at H); (obtain ⟨rfl, rfl, rfl, rfl, rfl, rfl, rfl, rfl⟩ := H)))
local macro "J7_" : tactic => `(tactic| ((try dsimp only at H)))
local macro "J8_" : tactic => `(tactic| ((obtain rfl := Option.some.inj H)))
local macro "J9_" : tactic => `(tactic| ((go_ret); (exact ⟨by first | rfl | (simp [errW_none, errW_some] <;> rfl) | (simp [*, errW_none, errW_some] <;> rfl), by repeat G49_⟩)))
local macro "J10_" : tactic => `(tactic| ((rw [if_pos rfl] at H)))
local macro "J11_" : tactic => `(tactic| ((have A2 := Aside0.mk A20); (clear A20)))
local macro "J12_" : tactic => `(tactic| ((have HB := Aside0.mk (Below.refl w.heap.size w))))
local macro "J13_" : tactic => `(tactic| ((have HR0 := Aside0.mk hr0); (have HC0 := Aside0.mk hc0); (clear hr0 hc0)))
set_option hygiene true
set_option maxHeartbeats 8000000 in
set_option maxRecDepth 100000 in
theorem spec_l11Any.calls (k : Nat) (g : Nat) (s0_0 : List Int) (s0_1 : Int) (s0_2 : Int) (r1 : Int) (r2 : Int) (r3 : Int) (r4 : Int) (r5 : Bool) (r6 : ByteArray) (r7 : Int) (r8 : Int) (w0 w : World) (hI : IsS182 w0 w g s0_0 s0_1 s0_2) (hB : Below w0.heap.size w0 w) (h : spec_l11Any.f k s0_0 s0_1 s0_2 = some (r1, r2, r3, r4, r5, r6, r7, r8)) :
  Calls Try.prog 128 #[.pointer (some ⟨g, 0, none⟩)] w fun e w' => e = .returned (.agg #[.int .i64 r1, .int .i64 r2, .int .i64 r3, .int .i64 r4, .bool r5, .string r6]) ∧ IsS182 w0 w' g s0_0 r7 r8 ∧ Below w0.heap.size w0 w' ∧ KeepBut w w' g none := by
 have hu85 := Try.underlying85
 have HI0 := Aside0.mk hI
 have HK := Aside0.mk (KeepBut.refl w g none)
 have HL := Aside0.mk hB.size
 clear hI
 have HW0 := Aside0.mk hB.size
 have HB := Aside0.mk hB
 clear hB
 have H : ((spec_l11Dgram.f k s0_0 s0_1 s0_2).bind fun bt168 => ((spec_l01Below.f s0_0 bt168.2.2.2.2.2.2.1 bt168.2.2.2.2.2.2.2 16).bind fun bt177 => (if bt177.1 = 0 then ((spec_l01PickInt.f s0_0 bt177.2.1 bt177.2.2 (([0, 99, 100] : List Int))).bind fun bt183 => (some (bt183.1, bt168.2.1, bt168.2.2.1, bt168.2.2.2.1, bt168.2.2.2.2.1, bt168.2.2.2.2.2.1, bt183.2.1, bt183.2.2))) else (if bt177.1 = 1 then ((spec_l01PickInt.f s0_0 bt177.2.1 bt177.2.2 (([(-1), 65535, 65536] : List Int))).bind fun bt189 => (some (bt168.1, bt168.2.1, bt189.1, bt168.2.2.2.1, bt168.2.2.2.2.1, bt168.2.2.2.2.2.1, bt189.2.1, bt189.2.2))) else (if bt177.1 = 2 then ((spec_l01PickInt.f s0_0 bt177.2.1 bt177.2.2 (([(-8), 4, 8, 152, 160] : List Int))).bind fun bt195 => (some (bt168.1, bt168.2.1, bt168.2.2.1, bt195.1, bt168.2.2.2.2.1, bt168.2.2.2.2.2.1, bt195.2.1, bt195.2.2))) else (if bt177.1 = 3 then (some (bt168.1, bt168.2.1, bt168.2.2.1, bt168.2.2.2.1, true, bt168.2.2.2.2.2.1, bt177.2.1, bt177.2.2)) else (if bt177.1 = 4 then ((spec_l01PickInt.f s0_0 bt177.2.1 bt177.2.2 (([0, 160, 161] : List Int))).bind fun bt201 => ((spec_l01Long.f k bt201.1 67).bind fun t204 => (some (bt168.1, bt168.2.1, bt168.2.2.1, bt168.2.2.2.1, bt168.2.2.2.2.1, t204, bt201.2.1, bt201.2.2)))) else (some (bt168.1, bt168.2.1, bt168.2.2.1, bt168.2.2.2.1, bt168.2.2.2.2.1, bt168.2.2.2.2.2.1, bt177.2.1, bt177.2.2))))))))) = some (r1, r2, r3, r4, r5, r6, r7, r8) := h
 clear h
 J4_
 obtain ⟨⟨t168, t169, t170, t171, t172, t173, t174, t175⟩, A20, H⟩ := H
 J7_
 J11_
 J4_
 obtain ⟨⟨t177, t178, t179⟩, A30, H⟩ := H
 J7_
 have A3 := Aside0.mk A30
 clear A30
 by_cases c4 : t177 = 0
 ·rw [if_pos c4] at H
  have c4b0 : (t177 == 0) = true := beq_iff_eq.mpr c4
  have c4b1 : (t177 != 0) = false := bne_eq_false_iff_eq.mpr c4
  clear c4
  obtain ⟨y180, hy180⟩ : ∃ y_ : List Int, y_ = (([0, 99, 100] : List Int)) := ⟨_, rfl⟩
  replace H : ((spec_l01PickInt.f s0_0 t178 t179 y180).bind fun bt183 => (some (bt183.1, t169, t170, t171, t172, t173, bt183.2.1, bt183.2.2))) = some (r1, r2, r3, r4, r5, r6, r7, r8) := by first | (rw [hy180]; with_reducible exact H) | (have H2_ := (Option.bind_some _ _).symm.trans H; rw [hy180]; with_reducible exact H2_) | G35_ | with_reducible exact H | (rw [hy180]; exact H) | exact H
  have Ny180 := Aside0.mk hy180
  clear hy180
  J4_
  obtain ⟨⟨t183, t184, t185⟩, A50, H⟩ := H
  J7_
  have A5 := Aside0.mk A50
  clear A50
  J6_
  go_enter Try.func128, Try.ntmps128
  go_wp2_with (first | (G45_; refine box_event ?hg (N := 2) ?hd (cs := G3_) (t := 85) ?hr ?_; (case hd => rfl); (case hg => rfl); G13_; intro gb167 hg w6 hbox hb; have n0_ := Aside0.mk (IsS182.below (by repeat G10_) hb); have n1_ := Aside0.mk (KeepBut.trans G22_ (KeepBut.of_below hb g none) (.inl rfl)); have n2_ := Aside0.mk G17_; have n3_ := Aside0.mk (hbox); have n4_ := Aside0.mk (G11_); have n5_ := Aside0.mk ((Nat.le_trans HW0.out G11_ : w0.heap.size ≤ gb167)); have n6_ := Aside0.mk (G43_); have n7_ := Aside0.mk (G42_); clear HI0; clear HK; clear HB; have HI0 := n0_; have HK := n1_; have HB := n2_; have BK167 := n3_; have GW167 := n4_; have GE167 := n5_; have NB0_167 := n6_; have NB167_0 := n7_; clear n0_ n1_ n2_ n3_ n4_ n5_ n6_ n7_; clear hb hbox hg) | (G51_; refine goesL_ (some 5) rfl rfl Try.func170 (by kernel_rfl) rfl G76_ rfl G1_ ?_; G24_; G90_; G88_; rintro e w7 ⟨rfl, hi, hb, hk⟩; refine ⟨_, rfl, ?_⟩; have n0_ := Aside0.mk (KeepBut.blk hk (g' := gb167) (o := .cells G3_ 85 (0, 0)) G73_ NB167_0.out (by simp)); have n1_ := Aside0.mk (KeepBut.trans G6_ hk (.inl rfl)); have n2_ := Aside0.mk (hb); have n3_ := Aside0.mk (hi); clear BK167; clear HK; clear HB; clear HI0; have BK167 := n0_; have HK := n1_; have HB := n2_; have HI0 := n3_; clear n0_ n1_ n2_ n3_; (try clear hb); (try clear hb2); (try clear hk); (try clear hi)) | (G62_; refine box_event ?hg (N := 3) ?hd (cs := G3_) (t := 85) ?hr ?_; (case hd => rfl); (case hg => rfl); G13_; intro gb176 hg w8 hbox hb; have n0_ := Aside0.mk (IsS182.below (by repeat G4_) hb); have n1_ := Aside0.mk G21_; have n2_ := Aside0.mk (KeepBut.trans G6_ (KeepBut.of_below hb g none) (.inl rfl)); have n3_ := Aside0.mk G82_; have n4_ := Aside0.mk (hbox); have n5_ := Aside0.mk (G19_); have n6_ := Aside0.mk ((Nat.le_trans HW0.out G19_ : w0.heap.size ≤ gb176)); have n7_ := Aside0.mk (G47_); have n8_ := Aside0.mk (G46_); have n9_ := Aside0.mk (G33_); have n10_ := Aside0.mk (G32_); clear HI0; clear BK167; clear HK; clear HB; have HI0 := n0_; have BK167 := n1_; have HK := n2_; have HB := n3_; have BK176 := n4_; have GW176 := n5_; have GE176 := n6_; have NB167_176 := n7_; have NB176_167 := n8_; have NB0_176 := n9_; have NB176_0 := n10_; clear n0_ n1_ n2_ n3_ n4_ n5_ n6_ n7_ n8_ n9_ n10_; clear hb hbox hg; have hnb9 := NB176_167.out; have hnc9 := NB167_176.out; have hnb10 := NB176_0.out; have hnc10 := NB0_176.out; have hcz11_0 : w8.cell? ⟨gb176, 0, none⟩ = some (.int .i64 0) := (G67_).trans rfl; have hcz11_1 : w8.cell? ⟨gb176, 1, none⟩ = some (.int .i64 0) := (G68_).trans rfl; have hcz11_2 : w8.cell? ⟨gb176, 2, none⟩ = some (.int .i64 0) := (G69_).trans rfl; have hcz11_3 : w8.cell? ⟨gb176, 3, none⟩ = some (.int .i64 0) := (G70_).trans rfl; have hcz11_4 : w8.cell? ⟨gb176, 4, none⟩ = some (.bool false) := (G71_).trans rfl; have hcz11_5 : w8.cell? ⟨gb176, 5, none⟩ = some (.string (⟨#[]⟩ : ByteArray)) := (G72_).trans rfl; have hfz11_0 := blk_frozen BK176.out 0; have hfz11_1 := blk_frozen BK176.out 1; have hfz11_2 := blk_frozen BK176.out 2; have hfz11_3 := blk_frozen BK176.out 3; have hfz11_4 := blk_frozen BK176.out 4; have hfz11_5 := blk_frozen BK176.out 5) | (G50_; refine goesL_ (some 7) rfl rfl Try.func118 (by kernel_rfl) rfl G59_ rfl G1_ ?_; G31_; G65_; G66_; rintro e w12 ⟨rfl, hi, hb, hk⟩; refine ⟨_, rfl, ?_⟩; have n0_ := Aside0.mk (KeepBut.blk hk (g' := gb167) (o := .cells G3_ 85 (0, 0)) G15_ NB167_0.out (by simp)); have n1_ := Aside0.mk (KeepBut.blk hk (g' := gb176) (o := .cells G16_ 85 (0, 0)) G7_ NB176_0.out (by simp)); have n2_ := Aside0.mk (KeepBut.trans G8_ hk (.inl rfl)); have n3_ := Aside0.mk (hb); have n4_ := Aside0.mk (hi); clear BK167; clear BK176; clear HK; clear HB; clear HI0; have BK167 := n0_; have BK176 := n1_; have HK := n2_; have HB := n3_; have HI0 := n4_; clear n0_ n1_ n2_ n3_ n4_; (try clear hb); (try clear hb2); (try clear hk); (try clear hi)) | ((with_reducible refine gate_dst (N := 11) rfl ?_); refine Kd.R_lit (Kd.int .i64) _ 3 ?hg (N := 11) ?hd (xs := ([0, 99, 100] : List Int)) (inner := [.int .i64 0, .int .i64 99, .int .i64 100]) (ok := fun _ => True) (okp := fun _ => True) ?hr ?hp (fun _ hk => hk) trivial (Below.refl _ _) (Nat.le_refl _) (by simp) ?_; (case hd => rfl); (case hg => rfl); G13_; (case hp => exact (Reps.one (show Kd.M (Kd.int .i64) _ _ _ 0 [.int .i64 0] from rfl) (Reps.one (show Kd.M (Kd.int .i64) _ _ _ 99 [.int .i64 99] from rfl) (Reps.one (show Kd.M (Kd.int .i64) _ _ _ 100 [.int .i64 100] from rfl) (Reps.none _ _))))); intro v181 w13 ho14 hb hg_ hnew_; clear hg_ hnew_; (first | rw [← Ny180.out] at ho14 | (simp only [Int.reduceToNat] at ho14; rw [← Ny180.out] at ho14)); have n0_ := Aside0.mk (Kd.R_lower ho14 (keep_size (w := w) (g := g) (row := none) G8_)); have n1_ := Aside0.mk (IsS182.below (by repeat G5_) hb); have n2_ := Aside0.mk G21_; have n3_ := Aside0.mk G41_; have n4_ := Aside0.mk (KeepBut.trans G8_ (KeepBut.of_below hb g none) (.inl rfl)); have n5_ := Aside0.mk G91_; clear HI0; clear BK167; clear BK176; clear HK; clear HB; have HO182 := n0_; have HI0 := n1_; have BK167 := n2_; have BK176 := n3_; have HK := n4_; have HB := n5_; clear n0_ n1_ n2_ n3_ n4_ n5_; clear hb ho14; obtain ⟨Ao15, co15, eo15⟩ := Kd.R_slice HO182.out; subst eo15) | (G79_; refine goesL_ (some 12) rfl rfl Try.func119 (by kernel_rfl) rfl #[.pointer (some ⟨g, 0, none⟩), .slice Ao15 y180.length co15] rfl G1_ ?_; (with_reducible refine (spec_l01PickInt.calls g s0_0 t178 t179 _ _ y180 t183 t184 t185 w0 _ ?side1 ?side2 ?side3 ?side4 ?side5 A5.out).mono ?_); G65_; G66_; (case side3 => repeat (first | exact (Kd.R_reads' HO182.out).2.2 | G80_ | G81_ | G85_)); (case side4 => exact (Kd.R_reads' HO182.out).2.1); (case side5 => exact far_slice (IsS182.own_ne HI0.out HO182.out (by decide))); rintro e w16 ⟨rfl, hi, hb, hk⟩; refine ⟨_, rfl, ?_⟩; have n0_ := Aside0.mk (KeepBut.blk hk (g' := gb167) (o := .cells G3_ 85 (0, 0)) G73_ NB167_0.out (by simp)); have n1_ := Aside0.mk (KeepBut.blk hk (g' := gb176) (o := .cells G16_ 85 (0, 0)) G99_ NB176_0.out (by simp)); have n2_ := Aside0.mk (Kd.R_mono (Kd.R_keep (IsS182.apart G77_ (by G25_; exact HO182.out) (by decide)) hk (fun _ h => h.2)) (fun _ h => h.1)); have n3_ := Aside0.mk (KeepBut.trans G8_ hk (.inl rfl)); have n4_ := Aside0.mk (hb); have n5_ := Aside0.mk (hi); clear BK167; clear BK176; clear HO182; clear HK; clear HB; clear HI0; have BK167 := n0_; have BK176 := n1_; have HO182 := n2_; have HK := n3_; have HB := n4_; have HI0 := n5_; clear n0_ n1_ n2_ n3_ n4_ n5_; (try clear hb); (try clear hb2); (try clear hk); (try clear hi); have hcz17_0 : w16.cell? ⟨gb176, 0, none⟩ = some (.int .i64 t168) := (G67_).trans rfl; have hcz17_1 : w16.cell? ⟨gb176, 1, none⟩ = some (.int .i64 t169) := (G68_).trans rfl; have hcz17_2 : w16.cell? ⟨gb176, 2, none⟩ = some (.int .i64 t170) := (G69_).trans rfl; have hcz17_3 : w16.cell? ⟨gb176, 3, none⟩ = some (.int .i64 t171) := (G70_).trans rfl; have hcz17_4 : w16.cell? ⟨gb176, 4, none⟩ = some (.bool t172) := (G71_).trans rfl; have hcz17_5 : w16.cell? ⟨gb176, 5, none⟩ = some (.string t173) := (G72_).trans rfl; have hfz17_0 := blk_frozen BK176.out 0; have hfz17_1 := blk_frozen BK176.out 1; have hfz17_2 := blk_frozen BK176.out 2; have hfz17_3 := blk_frozen BK176.out 3; have hfz17_4 := blk_frozen BK176.out 4; have hfz17_5 := blk_frozen BK176.out 5; have hnb18 := NB167_0.out; have hnc18 := NB0_167.out; have hcz19_0 : w16.cell? ⟨gb167, 0, none⟩ = some (.int .i64 0) := (G93_).trans rfl; have hcz19_1 : w16.cell? ⟨gb167, 1, none⟩ = some (.int .i64 0) := (G94_).trans rfl; have hcz19_2 : w16.cell? ⟨gb167, 2, none⟩ = some (.int .i64 0) := (G95_).trans rfl; have hcz19_3 : w16.cell? ⟨gb167, 3, none⟩ = some (.int .i64 0) := (G96_).trans rfl; have hcz19_4 : w16.cell? ⟨gb167, 4, none⟩ = some (.bool false) := (G97_).trans rfl; have hcz19_5 : w16.cell? ⟨gb167, 5, none⟩ = some (.string (⟨#[]⟩ : ByteArray)) := (G98_).trans rfl; have hfz19_0 := blk_frozen BK167.out 0; have hfz19_1 := blk_frozen BK167.out 1; have hfz19_2 := blk_frozen BK167.out 2; have hfz19_3 := blk_frozen BK167.out 3; have hfz19_4 := blk_frozen BK167.out 4; have hfz19_5 := blk_frozen BK167.out 5))
  refine bodyPost_ret (results_cell_row rfl _ _ gb167 85 #[.int .i64 t183, .int .i64 t169, .int .i64 t170, .int .i64 t171, .bool t172, .string t173] (0, 0) _ rfl (by G0_; refine blk_put (cs := #[.int .i64 t183, .int .i64 t169, .int .i64 t170, .int .i64 t171, .bool t172, .string (⟨#[]⟩ : ByteArray)]) ?_ 5 _ rfl; G0_; refine blk_put (cs := #[.int .i64 t183, .int .i64 t169, .int .i64 t170, .int .i64 t171, .bool false, .string (⟨#[]⟩ : ByteArray)]) ?_ 4 _ rfl; G0_; refine blk_put (cs := #[.int .i64 t183, .int .i64 t169, .int .i64 t170, .int .i64 0, .bool false, .string (⟨#[]⟩ : ByteArray)]) ?_ 3 _ rfl; G0_; refine blk_put (cs := #[.int .i64 t183, .int .i64 t169, .int .i64 0, .int .i64 0, .bool false, .string (⟨#[]⟩ : ByteArray)]) ?_ 2 _ rfl; G0_; refine blk_put (cs := #[.int .i64 t183, .int .i64 0, .int .i64 0, .int .i64 0, .bool false, .string (⟨#[]⟩ : ByteArray)]) ?_ 1 _ rfl; G0_; refine blk_put (cs := G3_) ?_ 0 _ rfl; G0_; refine blk_far ?_ NB167_176.out _; G0_; exact BK167.out) Try.underlying85 rfl (by kernel_rfl)) rfl ?_
  J0_
 ·rw [if_neg c4] at H
  have c4b0 : (t177 == 0) = false := beq_eq_false_iff_ne.mpr c4
  have c4b1 : (t177 != 0) = true := bne_iff_ne.mpr c4
  by_cases c20 : t177 = 1
  ·rw [if_pos c20] at H
   have c20b0 : (t177 == 1) = true := beq_iff_eq.mpr c20
   have c20b1 : (t177 != 1) = false := bne_eq_false_iff_eq.mpr c20
   clear c20
   obtain ⟨y186, hy186⟩ : ∃ y_ : List Int, y_ = (([(-1), 65535, 65536] : List Int)) := ⟨_, rfl⟩
   replace H : ((spec_l01PickInt.f s0_0 t178 t179 y186).bind fun bt189 => (some (t168, t169, bt189.1, t171, t172, t173, bt189.2.1, bt189.2.2))) = some (r1, r2, r3, r4, r5, r6, r7, r8) := by first | (rw [hy186]; with_reducible exact H) | (have H2_ := (Option.bind_some _ _).symm.trans H; rw [hy186]; with_reducible exact H2_) | G35_ | with_reducible exact H | (rw [hy186]; exact H) | exact H
   have Ny186 := Aside0.mk hy186
   clear hy186
   J4_
   obtain ⟨⟨t189, t190, t191⟩, A210, H⟩ := H
   J7_
   have A21 := Aside0.mk A210
   clear A210
   J6_
   go_enter Try.func128, Try.ntmps128
   go_wp2_with (first | (G45_; refine box_event ?hg (N := 2) ?hd (cs := G3_) (t := 85) ?hr ?_; (case hd => rfl); (case hg => rfl); G13_; intro gb167 hg w22 hbox hb; have n0_ := Aside0.mk (IsS182.below (by repeat G10_) hb); have n1_ := Aside0.mk (KeepBut.trans G22_ (KeepBut.of_below hb g none) (.inl rfl)); have n2_ := Aside0.mk G17_; have n3_ := Aside0.mk (hbox); have n4_ := Aside0.mk (G11_); have n5_ := Aside0.mk ((Nat.le_trans HW0.out G11_ : w0.heap.size ≤ gb167)); have n6_ := Aside0.mk (G43_); have n7_ := Aside0.mk (G42_); clear HI0; clear HK; clear HB; have HI0 := n0_; have HK := n1_; have HB := n2_; have BK167 := n3_; have GW167 := n4_; have GE167 := n5_; have NB0_167 := n6_; have NB167_0 := n7_; clear n0_ n1_ n2_ n3_ n4_ n5_ n6_ n7_; clear hb hbox hg) | (G51_; refine goesL_ (some 5) rfl rfl Try.func170 (by kernel_rfl) rfl G76_ rfl G1_ ?_; G24_; G90_; G88_; rintro e w23 ⟨rfl, hi, hb, hk⟩; refine ⟨_, rfl, ?_⟩; have n0_ := Aside0.mk (KeepBut.blk hk (g' := gb167) (o := .cells G3_ 85 (0, 0)) G73_ NB167_0.out (by simp)); have n1_ := Aside0.mk (KeepBut.trans G6_ hk (.inl rfl)); have n2_ := Aside0.mk (hb); have n3_ := Aside0.mk (hi); clear BK167; clear HK; clear HB; clear HI0; have BK167 := n0_; have HK := n1_; have HB := n2_; have HI0 := n3_; clear n0_ n1_ n2_ n3_; (try clear hb); (try clear hb2); (try clear hk); (try clear hi)) | (G62_; refine box_event ?hg (N := 3) ?hd (cs := G3_) (t := 85) ?hr ?_; (case hd => rfl); (case hg => rfl); G13_; intro gb176 hg w24 hbox hb; have n0_ := Aside0.mk (IsS182.below (by repeat G4_) hb); have n1_ := Aside0.mk G21_; have n2_ := Aside0.mk (KeepBut.trans G6_ (KeepBut.of_below hb g none) (.inl rfl)); have n3_ := Aside0.mk G82_; have n4_ := Aside0.mk (hbox); have n5_ := Aside0.mk (G19_); have n6_ := Aside0.mk ((Nat.le_trans HW0.out G19_ : w0.heap.size ≤ gb176)); have n7_ := Aside0.mk (G47_); have n8_ := Aside0.mk (G46_); have n9_ := Aside0.mk (G33_); have n10_ := Aside0.mk (G32_); clear HI0; clear BK167; clear HK; clear HB; have HI0 := n0_; have BK167 := n1_; have HK := n2_; have HB := n3_; have BK176 := n4_; have GW176 := n5_; have GE176 := n6_; have NB167_176 := n7_; have NB176_167 := n8_; have NB0_176 := n9_; have NB176_0 := n10_; clear n0_ n1_ n2_ n3_ n4_ n5_ n6_ n7_ n8_ n9_ n10_; clear hb hbox hg; have hnb25 := NB176_167.out; have hnc25 := NB167_176.out; have hnb26 := NB176_0.out; have hnc26 := NB0_176.out; have hcz27_0 : w24.cell? ⟨gb176, 0, none⟩ = some (.int .i64 0) := (G67_).trans rfl; have hcz27_1 : w24.cell? ⟨gb176, 1, none⟩ = some (.int .i64 0) := (G68_).trans rfl; have hcz27_2 : w24.cell? ⟨gb176, 2, none⟩ = some (.int .i64 0) := (G69_).trans rfl; have hcz27_3 : w24.cell? ⟨gb176, 3, none⟩ = some (.int .i64 0) := (G70_).trans rfl; have hcz27_4 : w24.cell? ⟨gb176, 4, none⟩ = some (.bool false) := (G71_).trans rfl; have hcz27_5 : w24.cell? ⟨gb176, 5, none⟩ = some (.string (⟨#[]⟩ : ByteArray)) := (G72_).trans rfl; have hfz27_0 := blk_frozen BK176.out 0; have hfz27_1 := blk_frozen BK176.out 1; have hfz27_2 := blk_frozen BK176.out 2; have hfz27_3 := blk_frozen BK176.out 3; have hfz27_4 := blk_frozen BK176.out 4; have hfz27_5 := blk_frozen BK176.out 5) | (G50_; refine goesL_ (some 7) rfl rfl Try.func118 (by kernel_rfl) rfl G59_ rfl G1_ ?_; G31_; G65_; G66_; rintro e w28 ⟨rfl, hi, hb, hk⟩; refine ⟨_, rfl, ?_⟩; have n0_ := Aside0.mk (KeepBut.blk hk (g' := gb167) (o := .cells G3_ 85 (0, 0)) G15_ NB167_0.out (by simp)); have n1_ := Aside0.mk (KeepBut.blk hk (g' := gb176) (o := .cells G16_ 85 (0, 0)) G7_ NB176_0.out (by simp)); have n2_ := Aside0.mk (KeepBut.trans G8_ hk (.inl rfl)); have n3_ := Aside0.mk (hb); have n4_ := Aside0.mk (hi); clear BK167; clear BK176; clear HK; clear HB; clear HI0; have BK167 := n0_; have BK176 := n1_; have HK := n2_; have HB := n3_; have HI0 := n4_; clear n0_ n1_ n2_ n3_ n4_; (try clear hb); (try clear hb2); (try clear hk); (try clear hi)) | ((with_reducible refine gate_dst (N := 17) rfl ?_); refine Kd.R_lit (Kd.int .i64) _ 3 ?hg (N := 17) ?hd (xs := ([(-1), 65535, 65536] : List Int)) (inner := [.int .i64 (-1), .int .i64 65535, .int .i64 65536]) (ok := fun _ => True) (okp := fun _ => True) ?hr ?hp (fun _ hk => hk) trivial (Below.refl _ _) (Nat.le_refl _) (by simp) ?_; (case hd => rfl); (case hg => rfl); G13_; (case hp => exact (Reps.one (show Kd.M (Kd.int .i64) _ _ _ (-1) [.int .i64 (-1)] from rfl) (Reps.one (show Kd.M (Kd.int .i64) _ _ _ 65535 [.int .i64 65535] from rfl) (Reps.one (show Kd.M (Kd.int .i64) _ _ _ 65536 [.int .i64 65536] from rfl) (Reps.none _ _))))); intro v187 w29 ho30 hb hg_ hnew_; clear hg_ hnew_; (first | rw [← Ny186.out] at ho30 | (simp only [Int.reduceToNat] at ho30; rw [← Ny186.out] at ho30)); have n0_ := Aside0.mk (Kd.R_lower ho30 (keep_size (w := w) (g := g) (row := none) G8_)); have n1_ := Aside0.mk (IsS182.below (by repeat G5_) hb); have n2_ := Aside0.mk G21_; have n3_ := Aside0.mk G41_; have n4_ := Aside0.mk (KeepBut.trans G8_ (KeepBut.of_below hb g none) (.inl rfl)); have n5_ := Aside0.mk G91_; clear HI0; clear BK167; clear BK176; clear HK; clear HB; have HO188 := n0_; have HI0 := n1_; have BK167 := n2_; have BK176 := n3_; have HK := n4_; have HB := n5_; clear n0_ n1_ n2_ n3_ n4_ n5_; clear hb ho30; obtain ⟨Ao31, co31, eo31⟩ := Kd.R_slice HO188.out; subst eo31) | (G79_; refine goesL_ (some 18) rfl rfl Try.func119 (by kernel_rfl) rfl #[.pointer (some ⟨g, 0, none⟩), .slice Ao31 y186.length co31] rfl G1_ ?_; (with_reducible refine (spec_l01PickInt.calls g s0_0 t178 t179 _ _ y186 t189 t190 t191 w0 _ ?side1 ?side2 ?side3 ?side4 ?side5 A21.out).mono ?_); G65_; G66_; (case side3 => repeat (first | exact (Kd.R_reads' HO188.out).2.2 | G80_ | G81_ | G85_)); (case side4 => exact (Kd.R_reads' HO188.out).2.1); (case side5 => exact far_slice (IsS182.own_ne HI0.out HO188.out (by decide))); rintro e w32 ⟨rfl, hi, hb, hk⟩; refine ⟨_, rfl, ?_⟩; have n0_ := Aside0.mk (KeepBut.blk hk (g' := gb167) (o := .cells G3_ 85 (0, 0)) G73_ NB167_0.out (by simp)); have n1_ := Aside0.mk (KeepBut.blk hk (g' := gb176) (o := .cells G16_ 85 (0, 0)) G99_ NB176_0.out (by simp)); have n2_ := Aside0.mk (Kd.R_mono (Kd.R_keep (IsS182.apart G77_ (by G25_; exact HO188.out) (by decide)) hk (fun _ h => h.2)) (fun _ h => h.1)); have n3_ := Aside0.mk (KeepBut.trans G8_ hk (.inl rfl)); have n4_ := Aside0.mk (hb); have n5_ := Aside0.mk (hi); clear BK167; clear BK176; clear HO188; clear HK; clear HB; clear HI0; have BK167 := n0_; have BK176 := n1_; have HO188 := n2_; have HK := n3_; have HB := n4_; have HI0 := n5_; clear n0_ n1_ n2_ n3_ n4_ n5_; (try clear hb); (try clear hb2); (try clear hk); (try clear hi); have hcz33_0 : w32.cell? ⟨gb176, 0, none⟩ = some (.int .i64 t168) := (G67_).trans rfl; have hcz33_1 : w32.cell? ⟨gb176, 1, none⟩ = some (.int .i64 t169) := (G68_).trans rfl; have hcz33_2 : w32.cell? ⟨gb176, 2, none⟩ = some (.int .i64 t170) := (G69_).trans rfl; have hcz33_3 : w32.cell? ⟨gb176, 3, none⟩ = some (.int .i64 t171) := (G70_).trans rfl; have hcz33_4 : w32.cell? ⟨gb176, 4, none⟩ = some (.bool t172) := (G71_).trans rfl; have hcz33_5 : w32.cell? ⟨gb176, 5, none⟩ = some (.string t173) := (G72_).trans rfl; have hfz33_0 := blk_frozen BK176.out 0; have hfz33_1 := blk_frozen BK176.out 1; have hfz33_2 := blk_frozen BK176.out 2; have hfz33_3 := blk_frozen BK176.out 3; have hfz33_4 := blk_frozen BK176.out 4; have hfz33_5 := blk_frozen BK176.out 5; have hnb34 := NB167_0.out; have hnc34 := NB0_167.out; have hcz35_0 : w32.cell? ⟨gb167, 0, none⟩ = some (.int .i64 0) := (G93_).trans rfl; have hcz35_1 : w32.cell? ⟨gb167, 1, none⟩ = some (.int .i64 0) := (G94_).trans rfl; have hcz35_2 : w32.cell? ⟨gb167, 2, none⟩ = some (.int .i64 0) := (G95_).trans rfl; have hcz35_3 : w32.cell? ⟨gb167, 3, none⟩ = some (.int .i64 0) := (G96_).trans rfl; have hcz35_4 : w32.cell? ⟨gb167, 4, none⟩ = some (.bool false) := (G97_).trans rfl; have hcz35_5 : w32.cell? ⟨gb167, 5, none⟩ = some (.string (⟨#[]⟩ : ByteArray)) := (G98_).trans rfl; have hfz35_0 := blk_frozen BK167.out 0; have hfz35_1 := blk_frozen BK167.out 1; have hfz35_2 := blk_frozen BK167.out 2; have hfz35_3 := blk_frozen BK167.out 3; have hfz35_4 := blk_frozen BK167.out 4; have hfz35_5 := blk_frozen BK167.out 5))
   refine bodyPost_ret (results_cell_row rfl _ _ gb167 85 #[.int .i64 t168, .int .i64 t169, .int .i64 t189, .int .i64 t171, .bool t172, .string t173] (0, 0) _ rfl (by G0_; refine blk_put (cs := #[.int .i64 t168, .int .i64 t169, .int .i64 t189, .int .i64 t171, .bool t172, .string (⟨#[]⟩ : ByteArray)]) ?_ 5 _ rfl; G0_; refine blk_put (cs := #[.int .i64 t168, .int .i64 t169, .int .i64 t189, .int .i64 t171, .bool false, .string (⟨#[]⟩ : ByteArray)]) ?_ 4 _ rfl; G0_; refine blk_put (cs := #[.int .i64 t168, .int .i64 t169, .int .i64 t189, .int .i64 0, .bool false, .string (⟨#[]⟩ : ByteArray)]) ?_ 3 _ rfl; G0_; refine blk_put (cs := G36_) ?_ 2 _ rfl; G0_; refine blk_put (cs := G37_) ?_ 1 _ rfl; G0_; refine blk_put (cs := G3_) ?_ 0 _ rfl; G0_; refine blk_far ?_ NB167_176.out _; G0_; exact BK167.out) Try.underlying85 rfl (by kernel_rfl)) rfl ?_
   J0_
  ·rw [if_neg c20] at H
   have c20b0 : (t177 == 1) = false := beq_eq_false_iff_ne.mpr c20
   have c20b1 : (t177 != 1) = true := bne_iff_ne.mpr c20
   by_cases c36 : t177 = 2
   ·rw [if_pos c36] at H
    have c36b0 : (t177 == 2) = true := beq_iff_eq.mpr c36
    have c36b1 : (t177 != 2) = false := bne_eq_false_iff_eq.mpr c36
    clear c36
    obtain ⟨y192, hy192⟩ : ∃ y_ : List Int, y_ = (([(-8), 4, 8, 152, 160] : List Int)) := ⟨_, rfl⟩
    replace H : ((spec_l01PickInt.f s0_0 t178 t179 y192).bind fun bt195 => (some (t168, t169, t170, bt195.1, t172, t173, bt195.2.1, bt195.2.2))) = some (r1, r2, r3, r4, r5, r6, r7, r8) := by first | (rw [hy192]; with_reducible exact H) | (have H2_ := (Option.bind_some _ _).symm.trans H; rw [hy192]; with_reducible exact H2_) | G35_ | with_reducible exact H | (rw [hy192]; exact H) | exact H
    have Ny192 := Aside0.mk hy192
    clear hy192
    J4_
    obtain ⟨⟨t195, t196, t197⟩, A370, H⟩ := H
    J7_
    have A37 := Aside0.mk A370
    clear A370
    J6_
    go_enter Try.func128, Try.ntmps128
    go_wp2_with (first | (G45_; refine box_event ?hg (N := 2) ?hd (cs := G3_) (t := 85) ?hr ?_; (case hd => rfl); (case hg => rfl); G13_; intro gb167 hg w38 hbox hb; have n0_ := Aside0.mk (IsS182.below (by repeat G10_) hb); have n1_ := Aside0.mk (KeepBut.trans G22_ (KeepBut.of_below hb g none) (.inl rfl)); have n2_ := Aside0.mk G17_; have n3_ := Aside0.mk (hbox); have n4_ := Aside0.mk (G11_); have n5_ := Aside0.mk ((Nat.le_trans HW0.out G11_ : w0.heap.size ≤ gb167)); have n6_ := Aside0.mk (G43_); have n7_ := Aside0.mk (G42_); clear HI0; clear HK; clear HB; have HI0 := n0_; have HK := n1_; have HB := n2_; have BK167 := n3_; have GW167 := n4_; have GE167 := n5_; have NB0_167 := n6_; have NB167_0 := n7_; clear n0_ n1_ n2_ n3_ n4_ n5_ n6_ n7_; clear hb hbox hg) | (G51_; refine goesL_ (some 5) rfl rfl Try.func170 (by kernel_rfl) rfl G76_ rfl G1_ ?_; G24_; G90_; G88_; rintro e w39 ⟨rfl, hi, hb, hk⟩; refine ⟨_, rfl, ?_⟩; have n0_ := Aside0.mk (KeepBut.blk hk (g' := gb167) (o := .cells G3_ 85 (0, 0)) G73_ NB167_0.out (by simp)); have n1_ := Aside0.mk (KeepBut.trans G6_ hk (.inl rfl)); have n2_ := Aside0.mk (hb); have n3_ := Aside0.mk (hi); clear BK167; clear HK; clear HB; clear HI0; have BK167 := n0_; have HK := n1_; have HB := n2_; have HI0 := n3_; clear n0_ n1_ n2_ n3_; (try clear hb); (try clear hb2); (try clear hk); (try clear hi)) | (G62_; refine box_event ?hg (N := 3) ?hd (cs := G3_) (t := 85) ?hr ?_; (case hd => rfl); (case hg => rfl); G13_; intro gb176 hg w40 hbox hb; have n0_ := Aside0.mk (IsS182.below (by repeat G4_) hb); have n1_ := Aside0.mk G21_; have n2_ := Aside0.mk (KeepBut.trans G6_ (KeepBut.of_below hb g none) (.inl rfl)); have n3_ := Aside0.mk G82_; have n4_ := Aside0.mk (hbox); have n5_ := Aside0.mk (G19_); have n6_ := Aside0.mk ((Nat.le_trans HW0.out G19_ : w0.heap.size ≤ gb176)); have n7_ := Aside0.mk (G47_); have n8_ := Aside0.mk (G46_); have n9_ := Aside0.mk (G33_); have n10_ := Aside0.mk (G32_); clear HI0; clear BK167; clear HK; clear HB; have HI0 := n0_; have BK167 := n1_; have HK := n2_; have HB := n3_; have BK176 := n4_; have GW176 := n5_; have GE176 := n6_; have NB167_176 := n7_; have NB176_167 := n8_; have NB0_176 := n9_; have NB176_0 := n10_; clear n0_ n1_ n2_ n3_ n4_ n5_ n6_ n7_ n8_ n9_ n10_; clear hb hbox hg; have hnb41 := NB176_167.out; have hnc41 := NB167_176.out; have hnb42 := NB176_0.out; have hnc42 := NB0_176.out; have hcz43_0 : w40.cell? ⟨gb176, 0, none⟩ = some (.int .i64 0) := (G67_).trans rfl; have hcz43_1 : w40.cell? ⟨gb176, 1, none⟩ = some (.int .i64 0) := (G68_).trans rfl; have hcz43_2 : w40.cell? ⟨gb176, 2, none⟩ = some (.int .i64 0) := (G69_).trans rfl; have hcz43_3 : w40.cell? ⟨gb176, 3, none⟩ = some (.int .i64 0) := (G70_).trans rfl; have hcz43_4 : w40.cell? ⟨gb176, 4, none⟩ = some (.bool false) := (G71_).trans rfl; have hcz43_5 : w40.cell? ⟨gb176, 5, none⟩ = some (.string (⟨#[]⟩ : ByteArray)) := (G72_).trans rfl; have hfz43_0 := blk_frozen BK176.out 0; have hfz43_1 := blk_frozen BK176.out 1; have hfz43_2 := blk_frozen BK176.out 2; have hfz43_3 := blk_frozen BK176.out 3; have hfz43_4 := blk_frozen BK176.out 4; have hfz43_5 := blk_frozen BK176.out 5) | (G50_; refine goesL_ (some 7) rfl rfl Try.func118 (by kernel_rfl) rfl G59_ rfl G1_ ?_; G31_; G65_; G66_; rintro e w44 ⟨rfl, hi, hb, hk⟩; refine ⟨_, rfl, ?_⟩; have n0_ := Aside0.mk (KeepBut.blk hk (g' := gb167) (o := .cells G3_ 85 (0, 0)) G15_ NB167_0.out (by simp)); have n1_ := Aside0.mk (KeepBut.blk hk (g' := gb176) (o := .cells G16_ 85 (0, 0)) G7_ NB176_0.out (by simp)); have n2_ := Aside0.mk (KeepBut.trans G8_ hk (.inl rfl)); have n3_ := Aside0.mk (hb); have n4_ := Aside0.mk (hi); clear BK167; clear BK176; clear HK; clear HB; clear HI0; have BK167 := n0_; have BK176 := n1_; have HK := n2_; have HB := n3_; have HI0 := n4_; clear n0_ n1_ n2_ n3_ n4_; (try clear hb); (try clear hb2); (try clear hk); (try clear hi)) | ((with_reducible refine gate_dst (N := 23) rfl ?_); refine Kd.R_lit (Kd.int .i64) _ 3 ?hg (N := 23) ?hd (xs := ([(-8), 4, 8, 152, 160] : List Int)) (inner := [.int .i64 (-8), .int .i64 4, .int .i64 8, .int .i64 152, .int .i64 160]) (ok := fun _ => True) (okp := fun _ => True) ?hr ?hp (fun _ hk => hk) trivial (Below.refl _ _) (Nat.le_refl _) (by simp) ?_; (case hd => rfl); (case hg => rfl); G13_; (case hp => exact (Reps.one (show Kd.M (Kd.int .i64) _ _ _ (-8) [.int .i64 (-8)] from rfl) (Reps.one (show Kd.M (Kd.int .i64) _ _ _ 4 [.int .i64 4] from rfl) (Reps.one (show Kd.M (Kd.int .i64) _ _ _ 8 [.int .i64 8] from rfl) (Reps.one (show Kd.M (Kd.int .i64) _ _ _ 152 [.int .i64 152] from rfl) (Reps.one (show Kd.M (Kd.int .i64) _ _ _ 160 [.int .i64 160] from rfl) (Reps.none _ _))))))); intro v193 w45 ho46 hb hg_ hnew_; clear hg_ hnew_; (first | rw [← Ny192.out] at ho46 | (simp only [Int.reduceToNat] at ho46; rw [← Ny192.out] at ho46)); have n0_ := Aside0.mk (Kd.R_lower ho46 (keep_size (w := w) (g := g) (row := none) G8_)); have n1_ := Aside0.mk (IsS182.below (by repeat G5_) hb); have n2_ := Aside0.mk G21_; have n3_ := Aside0.mk G41_; have n4_ := Aside0.mk (KeepBut.trans G8_ (KeepBut.of_below hb g none) (.inl rfl)); have n5_ := Aside0.mk G91_; clear HI0; clear BK167; clear BK176; clear HK; clear HB; have HO194 := n0_; have HI0 := n1_; have BK167 := n2_; have BK176 := n3_; have HK := n4_; have HB := n5_; clear n0_ n1_ n2_ n3_ n4_ n5_; clear hb ho46; obtain ⟨Ao47, co47, eo47⟩ := Kd.R_slice HO194.out; subst eo47) | (G79_; refine goesL_ (some 24) rfl rfl Try.func119 (by kernel_rfl) rfl #[.pointer (some ⟨g, 0, none⟩), .slice Ao47 y192.length co47] rfl G1_ ?_; (with_reducible refine (spec_l01PickInt.calls g s0_0 t178 t179 _ _ y192 t195 t196 t197 w0 _ ?side1 ?side2 ?side3 ?side4 ?side5 A37.out).mono ?_); G65_; G66_; (case side3 => repeat (first | exact (Kd.R_reads' HO194.out).2.2 | G80_ | G81_ | G85_)); (case side4 => exact (Kd.R_reads' HO194.out).2.1); (case side5 => exact far_slice (IsS182.own_ne HI0.out HO194.out (by decide))); rintro e w48 ⟨rfl, hi, hb, hk⟩; refine ⟨_, rfl, ?_⟩; have n0_ := Aside0.mk (KeepBut.blk hk (g' := gb167) (o := .cells G3_ 85 (0, 0)) G73_ NB167_0.out (by simp)); have n1_ := Aside0.mk (KeepBut.blk hk (g' := gb176) (o := .cells G16_ 85 (0, 0)) G99_ NB176_0.out (by simp)); have n2_ := Aside0.mk (Kd.R_mono (Kd.R_keep (IsS182.apart G77_ (by G25_; exact HO194.out) (by decide)) hk (fun _ h => h.2)) (fun _ h => h.1)); have n3_ := Aside0.mk (KeepBut.trans G8_ hk (.inl rfl)); have n4_ := Aside0.mk (hb); have n5_ := Aside0.mk (hi); clear BK167; clear BK176; clear HO194; clear HK; clear HB; clear HI0; have BK167 := n0_; have BK176 := n1_; have HO194 := n2_; have HK := n3_; have HB := n4_; have HI0 := n5_; clear n0_ n1_ n2_ n3_ n4_ n5_; (try clear hb); (try clear hb2); (try clear hk); (try clear hi); have hcz49_0 : w48.cell? ⟨gb176, 0, none⟩ = some (.int .i64 t168) := (G67_).trans rfl; have hcz49_1 : w48.cell? ⟨gb176, 1, none⟩ = some (.int .i64 t169) := (G68_).trans rfl; have hcz49_2 : w48.cell? ⟨gb176, 2, none⟩ = some (.int .i64 t170) := (G69_).trans rfl; have hcz49_3 : w48.cell? ⟨gb176, 3, none⟩ = some (.int .i64 t171) := (G70_).trans rfl; have hcz49_4 : w48.cell? ⟨gb176, 4, none⟩ = some (.bool t172) := (G71_).trans rfl; have hcz49_5 : w48.cell? ⟨gb176, 5, none⟩ = some (.string t173) := (G72_).trans rfl; have hfz49_0 := blk_frozen BK176.out 0; have hfz49_1 := blk_frozen BK176.out 1; have hfz49_2 := blk_frozen BK176.out 2; have hfz49_3 := blk_frozen BK176.out 3; have hfz49_4 := blk_frozen BK176.out 4; have hfz49_5 := blk_frozen BK176.out 5; have hnb50 := NB167_0.out; have hnc50 := NB0_167.out; have hcz51_0 : w48.cell? ⟨gb167, 0, none⟩ = some (.int .i64 0) := (G93_).trans rfl; have hcz51_1 : w48.cell? ⟨gb167, 1, none⟩ = some (.int .i64 0) := (G94_).trans rfl; have hcz51_2 : w48.cell? ⟨gb167, 2, none⟩ = some (.int .i64 0) := (G95_).trans rfl; have hcz51_3 : w48.cell? ⟨gb167, 3, none⟩ = some (.int .i64 0) := (G96_).trans rfl; have hcz51_4 : w48.cell? ⟨gb167, 4, none⟩ = some (.bool false) := (G97_).trans rfl; have hcz51_5 : w48.cell? ⟨gb167, 5, none⟩ = some (.string (⟨#[]⟩ : ByteArray)) := (G98_).trans rfl; have hfz51_0 := blk_frozen BK167.out 0; have hfz51_1 := blk_frozen BK167.out 1; have hfz51_2 := blk_frozen BK167.out 2; have hfz51_3 := blk_frozen BK167.out 3; have hfz51_4 := blk_frozen BK167.out 4; have hfz51_5 := blk_frozen BK167.out 5))
    refine bodyPost_ret (results_cell_row rfl _ _ gb167 85 #[.int .i64 t168, .int .i64 t169, .int .i64 t170, .int .i64 t195, .bool t172, .string t173] (0, 0) _ rfl (by G0_; refine blk_put (cs := #[.int .i64 t168, .int .i64 t169, .int .i64 t170, .int .i64 t195, .bool t172, .string (⟨#[]⟩ : ByteArray)]) ?_ 5 _ rfl; G0_; refine blk_put (cs := #[.int .i64 t168, .int .i64 t169, .int .i64 t170, .int .i64 t195, .bool false, .string (⟨#[]⟩ : ByteArray)]) ?_ 4 _ rfl; G0_; refine blk_put (cs := G40_) ?_ 3 _ rfl; G0_; refine blk_put (cs := G36_) ?_ 2 _ rfl; G0_; refine blk_put (cs := G37_) ?_ 1 _ rfl; G0_; refine blk_put (cs := G3_) ?_ 0 _ rfl; G0_; refine blk_far ?_ NB167_176.out _; G0_; exact BK167.out) Try.underlying85 rfl (by kernel_rfl)) rfl ?_
    J0_
   ·rw [if_neg c36] at H
    have c36b0 : (t177 == 2) = false := beq_eq_false_iff_ne.mpr c36
    have c36b1 : (t177 != 2) = true := bne_iff_ne.mpr c36
    by_cases c52 : t177 = 3
    ·rw [if_pos c52] at H
     have c52b0 : (t177 == 3) = true := beq_iff_eq.mpr c52
     have c52b1 : (t177 != 3) = false := bne_eq_false_iff_eq.mpr c52
     clear c52
     J6_
     go_enter Try.func128, Try.ntmps128
     go_wp2_with (first | (G45_; refine box_event ?hg (N := 2) ?hd (cs := G3_) (t := 85) ?hr ?_; (case hd => rfl); (case hg => rfl); G13_; intro gb167 hg w53 hbox hb; have n0_ := Aside0.mk (IsS182.below (by repeat G10_) hb); have n1_ := Aside0.mk (KeepBut.trans G22_ (KeepBut.of_below hb g none) (.inl rfl)); have n2_ := Aside0.mk G17_; have n3_ := Aside0.mk (hbox); have n4_ := Aside0.mk (G11_); have n5_ := Aside0.mk ((Nat.le_trans HW0.out G11_ : w0.heap.size ≤ gb167)); have n6_ := Aside0.mk (G43_); have n7_ := Aside0.mk (G42_); clear HI0; clear HK; clear HB; have HI0 := n0_; have HK := n1_; have HB := n2_; have BK167 := n3_; have GW167 := n4_; have GE167 := n5_; have NB0_167 := n6_; have NB167_0 := n7_; clear n0_ n1_ n2_ n3_ n4_ n5_ n6_ n7_; clear hb hbox hg) | (G51_; refine goesL_ (some 5) rfl rfl Try.func170 (by kernel_rfl) rfl G76_ rfl G1_ ?_; G24_; G90_; G88_; rintro e w54 ⟨rfl, hi, hb, hk⟩; refine ⟨_, rfl, ?_⟩; have n0_ := Aside0.mk (KeepBut.blk hk (g' := gb167) (o := .cells G3_ 85 (0, 0)) G73_ NB167_0.out (by simp)); have n1_ := Aside0.mk (KeepBut.trans G6_ hk (.inl rfl)); have n2_ := Aside0.mk (hb); have n3_ := Aside0.mk (hi); clear BK167; clear HK; clear HB; clear HI0; have BK167 := n0_; have HK := n1_; have HB := n2_; have HI0 := n3_; clear n0_ n1_ n2_ n3_; (try clear hb); (try clear hb2); (try clear hk); (try clear hi)) | (G62_; refine box_event ?hg (N := 3) ?hd (cs := G3_) (t := 85) ?hr ?_; (case hd => rfl); (case hg => rfl); G13_; intro gb176 hg w55 hbox hb; have n0_ := Aside0.mk (IsS182.below (by repeat G4_) hb); have n1_ := Aside0.mk G21_; have n2_ := Aside0.mk (KeepBut.trans G6_ (KeepBut.of_below hb g none) (.inl rfl)); have n3_ := Aside0.mk G82_; have n4_ := Aside0.mk (hbox); have n5_ := Aside0.mk (G19_); have n6_ := Aside0.mk ((Nat.le_trans HW0.out G19_ : w0.heap.size ≤ gb176)); have n7_ := Aside0.mk (G47_); have n8_ := Aside0.mk (G46_); have n9_ := Aside0.mk (G33_); have n10_ := Aside0.mk (G32_); clear HI0; clear BK167; clear HK; clear HB; have HI0 := n0_; have BK167 := n1_; have HK := n2_; have HB := n3_; have BK176 := n4_; have GW176 := n5_; have GE176 := n6_; have NB167_176 := n7_; have NB176_167 := n8_; have NB0_176 := n9_; have NB176_0 := n10_; clear n0_ n1_ n2_ n3_ n4_ n5_ n6_ n7_ n8_ n9_ n10_; clear hb hbox hg; have hnb56 := NB176_167.out; have hnc56 := NB167_176.out; have hnb57 := NB176_0.out; have hnc57 := NB0_176.out; have hcz58_0 : w55.cell? ⟨gb176, 0, none⟩ = some (.int .i64 0) := (G67_).trans rfl; have hcz58_1 : w55.cell? ⟨gb176, 1, none⟩ = some (.int .i64 0) := (G68_).trans rfl; have hcz58_2 : w55.cell? ⟨gb176, 2, none⟩ = some (.int .i64 0) := (G69_).trans rfl; have hcz58_3 : w55.cell? ⟨gb176, 3, none⟩ = some (.int .i64 0) := (G70_).trans rfl; have hcz58_4 : w55.cell? ⟨gb176, 4, none⟩ = some (.bool false) := (G71_).trans rfl; have hcz58_5 : w55.cell? ⟨gb176, 5, none⟩ = some (.string (⟨#[]⟩ : ByteArray)) := (G72_).trans rfl; have hfz58_0 := blk_frozen BK176.out 0; have hfz58_1 := blk_frozen BK176.out 1; have hfz58_2 := blk_frozen BK176.out 2; have hfz58_3 := blk_frozen BK176.out 3; have hfz58_4 := blk_frozen BK176.out 4; have hfz58_5 := blk_frozen BK176.out 5) | (G50_; refine goesL_ (some 7) rfl rfl Try.func118 (by kernel_rfl) rfl G59_ rfl G1_ ?_; G31_; G65_; G66_; rintro e w59 ⟨rfl, hi, hb, hk⟩; refine ⟨_, rfl, ?_⟩; have n0_ := Aside0.mk (KeepBut.blk hk (g' := gb167) (o := .cells G3_ 85 (0, 0)) G15_ NB167_0.out (by simp)); have n1_ := Aside0.mk (KeepBut.blk hk (g' := gb176) (o := .cells G16_ 85 (0, 0)) G7_ NB176_0.out (by simp)); have n2_ := Aside0.mk (KeepBut.trans G8_ hk (.inl rfl)); have n3_ := Aside0.mk (hb); have n4_ := Aside0.mk (hi); clear BK167; clear BK176; clear HK; clear HB; clear HI0; have BK167 := n0_; have BK176 := n1_; have HK := n2_; have HB := n3_; have HI0 := n4_; clear n0_ n1_ n2_ n3_ n4_; (try clear hb); (try clear hb2); (try clear hk); (try clear hi); have hcz60_0 : w59.cell? ⟨gb176, 0, none⟩ = some (.int .i64 t168) := (G67_).trans rfl; have hcz60_1 : w59.cell? ⟨gb176, 1, none⟩ = some (.int .i64 t169) := (G68_).trans rfl; have hcz60_2 : w59.cell? ⟨gb176, 2, none⟩ = some (.int .i64 t170) := (G69_).trans rfl; have hcz60_3 : w59.cell? ⟨gb176, 3, none⟩ = some (.int .i64 t171) := (G70_).trans rfl; have hcz60_4 : w59.cell? ⟨gb176, 4, none⟩ = some (.bool t172) := (G71_).trans rfl; have hcz60_5 : w59.cell? ⟨gb176, 5, none⟩ = some (.string t173) := (G72_).trans rfl; have hfz60_0 := blk_frozen BK176.out 0; have hfz60_1 := blk_frozen BK176.out 1; have hfz60_2 := blk_frozen BK176.out 2; have hfz60_3 := blk_frozen BK176.out 3; have hfz60_4 := blk_frozen BK176.out 4; have hfz60_5 := blk_frozen BK176.out 5; have hnb61 := NB167_0.out; have hnc61 := NB0_167.out; have hcz62_0 : w59.cell? ⟨gb167, 0, none⟩ = some (.int .i64 0) := (G93_).trans rfl; have hcz62_1 : w59.cell? ⟨gb167, 1, none⟩ = some (.int .i64 0) := (G94_).trans rfl; have hcz62_2 : w59.cell? ⟨gb167, 2, none⟩ = some (.int .i64 0) := (G95_).trans rfl; have hcz62_3 : w59.cell? ⟨gb167, 3, none⟩ = some (.int .i64 0) := (G96_).trans rfl; have hcz62_4 : w59.cell? ⟨gb167, 4, none⟩ = some (.bool false) := (G97_).trans rfl; have hcz62_5 : w59.cell? ⟨gb167, 5, none⟩ = some (.string (⟨#[]⟩ : ByteArray)) := (G98_).trans rfl; have hfz62_0 := blk_frozen BK167.out 0; have hfz62_1 := blk_frozen BK167.out 1; have hfz62_2 := blk_frozen BK167.out 2; have hfz62_3 := blk_frozen BK167.out 3; have hfz62_4 := blk_frozen BK167.out 4; have hfz62_5 := blk_frozen BK167.out 5))
     refine bodyPost_ret (results_cell_row rfl _ _ gb167 85 #[.int .i64 t168, .int .i64 t169, .int .i64 t170, .int .i64 t171, .bool true, .string t173] (0, 0) _ rfl (by G0_; refine blk_put (cs := #[.int .i64 t168, .int .i64 t169, .int .i64 t170, .int .i64 t171, .bool true, .string (⟨#[]⟩ : ByteArray)]) ?_ 5 _ rfl; G0_; refine blk_put (cs := G63_) ?_ 4 _ rfl; G0_; refine blk_put (cs := G40_) ?_ 3 _ rfl; G0_; refine blk_put (cs := G36_) ?_ 2 _ rfl; G0_; refine blk_put (cs := G37_) ?_ 1 _ rfl; G0_; refine blk_put (cs := G3_) ?_ 0 _ rfl; G0_; refine blk_far ?_ NB167_176.out _; G0_; exact BK167.out) Try.underlying85 rfl (by kernel_rfl)) rfl ?_
     J0_
    ·rw [if_neg c52] at H
     have c52b0 : (t177 == 3) = false := beq_eq_false_iff_ne.mpr c52
     have c52b1 : (t177 != 3) = true := bne_iff_ne.mpr c52
     by_cases c63 : t177 = 4
     ·rw [if_pos c63] at H
      have c63b0 : (t177 == 4) = true := beq_iff_eq.mpr c63
      have c63b1 : (t177 != 4) = false := bne_eq_false_iff_eq.mpr c63
      clear c63
      obtain ⟨y198, hy198⟩ : ∃ y_ : List Int, y_ = (([0, 160, 161] : List Int)) := ⟨_, rfl⟩
      replace H : ((spec_l01PickInt.f s0_0 t178 t179 y198).bind fun bt201 => ((spec_l01Long.f k bt201.1 67).bind fun t204 => (some (t168, t169, t170, t171, t172, t204, bt201.2.1, bt201.2.2)))) = some (r1, r2, r3, r4, r5, r6, r7, r8) := by first | (rw [hy198]; with_reducible exact H) | (have H2_ := (Option.bind_some _ _).symm.trans H; rw [hy198]; with_reducible exact H2_) | G35_ | with_reducible exact H | (rw [hy198]; exact H) | exact H
      have Ny198 := Aside0.mk hy198
      clear hy198
      J4_
      obtain ⟨⟨t201, t202, t203⟩, A640, H⟩ := H
      J7_
      have A64 := Aside0.mk A640
      clear A640
      J4_
      obtain ⟨t204, A650, H⟩ := H
      J7_
      have A65 := Aside0.mk A650
      clear A650
      J6_
      go_enter Try.func128, Try.ntmps128
      go_wp2_with (first | (G45_; refine box_event ?hg (N := 2) ?hd (cs := G3_) (t := 85) ?hr ?_; (case hd => rfl); (case hg => rfl); G13_; intro gb167 hg w66 hbox hb; have n0_ := Aside0.mk (IsS182.below (by repeat G10_) hb); have n1_ := Aside0.mk (KeepBut.trans G22_ (KeepBut.of_below hb g none) (.inl rfl)); have n2_ := Aside0.mk G17_; have n3_ := Aside0.mk (hbox); have n4_ := Aside0.mk (G11_); have n5_ := Aside0.mk ((Nat.le_trans HW0.out G11_ : w0.heap.size ≤ gb167)); have n6_ := Aside0.mk (G43_); have n7_ := Aside0.mk (G42_); clear HI0; clear HK; clear HB; have HI0 := n0_; have HK := n1_; have HB := n2_; have BK167 := n3_; have GW167 := n4_; have GE167 := n5_; have NB0_167 := n6_; have NB167_0 := n7_; clear n0_ n1_ n2_ n3_ n4_ n5_ n6_ n7_; clear hb hbox hg) | (G51_; refine goesL_ (some 5) rfl rfl Try.func170 (by kernel_rfl) rfl G76_ rfl G1_ ?_; G24_; G90_; G88_; rintro e w67 ⟨rfl, hi, hb, hk⟩; refine ⟨_, rfl, ?_⟩; have n0_ := Aside0.mk (KeepBut.blk hk (g' := gb167) (o := .cells G3_ 85 (0, 0)) G73_ NB167_0.out (by simp)); have n1_ := Aside0.mk (KeepBut.trans G6_ hk (.inl rfl)); have n2_ := Aside0.mk (hb); have n3_ := Aside0.mk (hi); clear BK167; clear HK; clear HB; clear HI0; have BK167 := n0_; have HK := n1_; have HB := n2_; have HI0 := n3_; clear n0_ n1_ n2_ n3_; (try clear hb); (try clear hb2); (try clear hk); (try clear hi)) | (G62_; refine box_event ?hg (N := 3) ?hd (cs := G3_) (t := 85) ?hr ?_; (case hd => rfl); (case hg => rfl); G13_; intro gb176 hg w68 hbox hb; have n0_ := Aside0.mk (IsS182.below (by repeat G4_) hb); have n1_ := Aside0.mk G21_; have n2_ := Aside0.mk (KeepBut.trans G6_ (KeepBut.of_below hb g none) (.inl rfl)); have n3_ := Aside0.mk G82_; have n4_ := Aside0.mk (hbox); have n5_ := Aside0.mk (G19_); have n6_ := Aside0.mk ((Nat.le_trans HW0.out G19_ : w0.heap.size ≤ gb176)); have n7_ := Aside0.mk (G47_); have n8_ := Aside0.mk (G46_); have n9_ := Aside0.mk (G33_); have n10_ := Aside0.mk (G32_); clear HI0; clear BK167; clear HK; clear HB; have HI0 := n0_; have BK167 := n1_; have HK := n2_; have HB := n3_; have BK176 := n4_; have GW176 := n5_; have GE176 := n6_; have NB167_176 := n7_; have NB176_167 := n8_; have NB0_176 := n9_; have NB176_0 := n10_; clear n0_ n1_ n2_ n3_ n4_ n5_ n6_ n7_ n8_ n9_ n10_; clear hb hbox hg; have hnb69 := NB176_167.out; have hnc69 := NB167_176.out; have hnb70 := NB176_0.out; have hnc70 := NB0_176.out; have hcz71_0 : w68.cell? ⟨gb176, 0, none⟩ = some (.int .i64 0) := (G67_).trans rfl; have hcz71_1 : w68.cell? ⟨gb176, 1, none⟩ = some (.int .i64 0) := (G68_).trans rfl; have hcz71_2 : w68.cell? ⟨gb176, 2, none⟩ = some (.int .i64 0) := (G69_).trans rfl; have hcz71_3 : w68.cell? ⟨gb176, 3, none⟩ = some (.int .i64 0) := (G70_).trans rfl; have hcz71_4 : w68.cell? ⟨gb176, 4, none⟩ = some (.bool false) := (G71_).trans rfl; have hcz71_5 : w68.cell? ⟨gb176, 5, none⟩ = some (.string (⟨#[]⟩ : ByteArray)) := (G72_).trans rfl; have hfz71_0 := blk_frozen BK176.out 0; have hfz71_1 := blk_frozen BK176.out 1; have hfz71_2 := blk_frozen BK176.out 2; have hfz71_3 := blk_frozen BK176.out 3; have hfz71_4 := blk_frozen BK176.out 4; have hfz71_5 := blk_frozen BK176.out 5) | (G50_; refine goesL_ (some 7) rfl rfl Try.func118 (by kernel_rfl) rfl G59_ rfl G1_ ?_; G31_; G65_; G66_; rintro e w72 ⟨rfl, hi, hb, hk⟩; refine ⟨_, rfl, ?_⟩; have n0_ := Aside0.mk (KeepBut.blk hk (g' := gb167) (o := .cells G3_ 85 (0, 0)) G15_ NB167_0.out (by simp)); have n1_ := Aside0.mk (KeepBut.blk hk (g' := gb176) (o := .cells G16_ 85 (0, 0)) G7_ NB176_0.out (by simp)); have n2_ := Aside0.mk (KeepBut.trans G8_ hk (.inl rfl)); have n3_ := Aside0.mk (hb); have n4_ := Aside0.mk (hi); clear BK167; clear BK176; clear HK; clear HB; clear HI0; have BK167 := n0_; have BK176 := n1_; have HK := n2_; have HB := n3_; have HI0 := n4_; clear n0_ n1_ n2_ n3_ n4_; (try clear hb); (try clear hb2); (try clear hk); (try clear hi)) | ((with_reducible refine gate_dst (N := 32) rfl ?_); refine Kd.R_lit (Kd.int .i64) _ 3 ?hg (N := 32) ?hd (xs := ([0, 160, 161] : List Int)) (inner := [.int .i64 0, .int .i64 160, .int .i64 161]) (ok := fun _ => True) (okp := fun _ => True) ?hr ?hp (fun _ hk => hk) trivial (Below.refl _ _) (Nat.le_refl _) (by simp) ?_; (case hd => rfl); (case hg => rfl); G13_; (case hp => exact (Reps.one (show Kd.M (Kd.int .i64) _ _ _ 0 [.int .i64 0] from rfl) (Reps.one (show Kd.M (Kd.int .i64) _ _ _ 160 [.int .i64 160] from rfl) (Reps.one (show Kd.M (Kd.int .i64) _ _ _ 161 [.int .i64 161] from rfl) (Reps.none _ _))))); intro v199 w73 ho74 hb hg_ hnew_; clear hg_ hnew_; (first | rw [← Ny198.out] at ho74 | (simp only [Int.reduceToNat] at ho74; rw [← Ny198.out] at ho74)); have n0_ := Aside0.mk (Kd.R_lower ho74 (keep_size (w := w) (g := g) (row := none) G8_)); have n1_ := Aside0.mk (IsS182.below (by repeat G5_) hb); have n2_ := Aside0.mk G21_; have n3_ := Aside0.mk G41_; have n4_ := Aside0.mk (KeepBut.trans G8_ (KeepBut.of_below hb g none) (.inl rfl)); have n5_ := Aside0.mk G91_; clear HI0; clear BK167; clear BK176; clear HK; clear HB; have HO200 := n0_; have HI0 := n1_; have BK167 := n2_; have BK176 := n3_; have HK := n4_; have HB := n5_; clear n0_ n1_ n2_ n3_ n4_ n5_; clear hb ho74; obtain ⟨Ao75, co75, eo75⟩ := Kd.R_slice HO200.out; subst eo75) | (G79_; refine goesL_ (some 33) rfl rfl Try.func119 (by kernel_rfl) rfl #[.pointer (some ⟨g, 0, none⟩), .slice Ao75 y198.length co75] rfl G1_ ?_; (with_reducible refine (spec_l01PickInt.calls g s0_0 t178 t179 _ _ y198 t201 t202 t203 w0 _ ?side1 ?side2 ?side3 ?side4 ?side5 A64.out).mono ?_); G65_; G66_; (case side3 => repeat (first | exact (Kd.R_reads' HO200.out).2.2 | G80_ | G81_ | G85_)); (case side4 => exact (Kd.R_reads' HO200.out).2.1); (case side5 => exact far_slice (IsS182.own_ne HI0.out HO200.out (by decide))); rintro e w76 ⟨rfl, hi, hb, hk⟩; refine ⟨_, rfl, ?_⟩; have n0_ := Aside0.mk (KeepBut.blk hk (g' := gb167) (o := .cells G3_ 85 (0, 0)) G73_ NB167_0.out (by simp)); have n1_ := Aside0.mk (KeepBut.blk hk (g' := gb176) (o := .cells G16_ 85 (0, 0)) G99_ NB176_0.out (by simp)); have n2_ := Aside0.mk (Kd.R_mono (Kd.R_keep (IsS182.apart G77_ (by G25_; exact HO200.out) (by decide)) hk (fun _ h => h.2)) (fun _ h => h.1)); have n3_ := Aside0.mk (KeepBut.trans G8_ hk (.inl rfl)); have n4_ := Aside0.mk (hb); have n5_ := Aside0.mk (hi); clear BK167; clear BK176; clear HO200; clear HK; clear HB; clear HI0; have BK167 := n0_; have BK176 := n1_; have HO200 := n2_; have HK := n3_; have HB := n4_; have HI0 := n5_; clear n0_ n1_ n2_ n3_ n4_ n5_; (try clear hb); (try clear hb2); (try clear hk); (try clear hi)) | ((with_reducible refine gate_callee (f := 121) rfl ?_); refine goesL_ (some 34) rfl rfl Try.func121 (by kernel_rfl) rfl #[.int .i64 t201, .int .u8 67] rfl G1_ ?_; (with_reducible refine (spec_l01Long.calls k t201 67 t204 _ A65.out).mono ?_); rintro e w77 ⟨rfl, hb⟩; refine ⟨_, rfl, ?_⟩; have n0_ := Aside0.mk (Kd.R_below (by G25_; exact HO200.out) hb); have n1_ := Aside0.mk (IsS182.below (by repeat G5_) hb); have n2_ := Aside0.mk G21_; have n3_ := Aside0.mk G41_; have n4_ := Aside0.mk (KeepBut.trans G8_ (KeepBut.of_below hb g none) (.inl rfl)); have n5_ := Aside0.mk G91_; clear HO200; clear HI0; clear BK167; clear BK176; clear HK; clear HB; have HO200 := n0_; have HI0 := n1_; have BK167 := n2_; have BK176 := n3_; have HK := n4_; have HB := n5_; clear n0_ n1_ n2_ n3_ n4_ n5_; (try clear hb); (try clear hb2); (try clear hk); (try clear hi); have hcz78_0 : w77.cell? ⟨gb176, 0, none⟩ = some (.int .i64 t168) := (G67_).trans rfl; have hcz78_1 : w77.cell? ⟨gb176, 1, none⟩ = some (.int .i64 t169) := (G68_).trans rfl; have hcz78_2 : w77.cell? ⟨gb176, 2, none⟩ = some (.int .i64 t170) := (G69_).trans rfl; have hcz78_3 : w77.cell? ⟨gb176, 3, none⟩ = some (.int .i64 t171) := (G70_).trans rfl; have hcz78_4 : w77.cell? ⟨gb176, 4, none⟩ = some (.bool t172) := (G71_).trans rfl; have hcz78_5 : w77.cell? ⟨gb176, 5, none⟩ = some (.string t173) := (G72_).trans rfl; have hfz78_0 := blk_frozen BK176.out 0; have hfz78_1 := blk_frozen BK176.out 1; have hfz78_2 := blk_frozen BK176.out 2; have hfz78_3 := blk_frozen BK176.out 3; have hfz78_4 := blk_frozen BK176.out 4; have hfz78_5 := blk_frozen BK176.out 5; have hnb79 := NB167_0.out; have hnc79 := NB0_167.out; have hcz80_0 : w77.cell? ⟨gb167, 0, none⟩ = some (.int .i64 0) := (G93_).trans rfl; have hcz80_1 : w77.cell? ⟨gb167, 1, none⟩ = some (.int .i64 0) := (G94_).trans rfl; have hcz80_2 : w77.cell? ⟨gb167, 2, none⟩ = some (.int .i64 0) := (G95_).trans rfl; have hcz80_3 : w77.cell? ⟨gb167, 3, none⟩ = some (.int .i64 0) := (G96_).trans rfl; have hcz80_4 : w77.cell? ⟨gb167, 4, none⟩ = some (.bool false) := (G97_).trans rfl; have hcz80_5 : w77.cell? ⟨gb167, 5, none⟩ = some (.string (⟨#[]⟩ : ByteArray)) := (G98_).trans rfl; have hfz80_0 := blk_frozen BK167.out 0; have hfz80_1 := blk_frozen BK167.out 1; have hfz80_2 := blk_frozen BK167.out 2; have hfz80_3 := blk_frozen BK167.out 3; have hfz80_4 := blk_frozen BK167.out 4; have hfz80_5 := blk_frozen BK167.out 5))
      refine bodyPost_ret (results_cell_row rfl _ _ gb167 85 #[.int .i64 t168, .int .i64 t169, .int .i64 t170, .int .i64 t171, .bool t172, .string t204] (0, 0) _ rfl (by G0_; refine blk_put (cs := G89_) ?_ 5 _ rfl; G0_; refine blk_put (cs := G63_) ?_ 4 _ rfl; G0_; refine blk_put (cs := G40_) ?_ 3 _ rfl; G0_; refine blk_put (cs := G36_) ?_ 2 _ rfl; G0_; refine blk_put (cs := G37_) ?_ 1 _ rfl; G0_; refine blk_put (cs := G3_) ?_ 0 _ rfl; G0_; refine blk_far ?_ NB167_176.out _; G0_; exact BK167.out) Try.underlying85 rfl (by kernel_rfl)) rfl ?_
      J0_
     ·rw [if_neg c63] at H
      have c63b0 : (t177 == 4) = false := beq_eq_false_iff_ne.mpr c63
      have c63b1 : (t177 != 4) = true := bne_iff_ne.mpr c63
      J6_
      go_enter Try.func128, Try.ntmps128
      go_wp2_with (first | (G45_; refine box_event ?hg (N := 2) ?hd (cs := G3_) (t := 85) ?hr ?_; (case hd => rfl); (case hg => rfl); G13_; intro gb167 hg w81 hbox hb; have n0_ := Aside0.mk (IsS182.below (by repeat G10_) hb); have n1_ := Aside0.mk (KeepBut.trans G22_ (KeepBut.of_below hb g none) (.inl rfl)); have n2_ := Aside0.mk G17_; have n3_ := Aside0.mk (hbox); have n4_ := Aside0.mk (G11_); have n5_ := Aside0.mk ((Nat.le_trans HW0.out G11_ : w0.heap.size ≤ gb167)); have n6_ := Aside0.mk (G43_); have n7_ := Aside0.mk (G42_); clear HI0; clear HK; clear HB; have HI0 := n0_; have HK := n1_; have HB := n2_; have BK167 := n3_; have GW167 := n4_; have GE167 := n5_; have NB0_167 := n6_; have NB167_0 := n7_; clear n0_ n1_ n2_ n3_ n4_ n5_ n6_ n7_; clear hb hbox hg) | (G51_; refine goesL_ (some 5) rfl rfl Try.func170 (by kernel_rfl) rfl G76_ rfl G1_ ?_; G24_; G90_; G88_; rintro e w82 ⟨rfl, hi, hb, hk⟩; refine ⟨_, rfl, ?_⟩; have n0_ := Aside0.mk (KeepBut.blk hk (g' := gb167) (o := .cells G3_ 85 (0, 0)) G73_ NB167_0.out (by simp)); have n1_ := Aside0.mk (KeepBut.trans G6_ hk (.inl rfl)); have n2_ := Aside0.mk (hb); have n3_ := Aside0.mk (hi); clear BK167; clear HK; clear HB; clear HI0; have BK167 := n0_; have HK := n1_; have HB := n2_; have HI0 := n3_; clear n0_ n1_ n2_ n3_; (try clear hb); (try clear hb2); (try clear hk); (try clear hi)) | (G62_; refine box_event ?hg (N := 3) ?hd (cs := G3_) (t := 85) ?hr ?_; (case hd => rfl); (case hg => rfl); G13_; intro gb176 hg w83 hbox hb; have n0_ := Aside0.mk (IsS182.below (by repeat G4_) hb); have n1_ := Aside0.mk G21_; have n2_ := Aside0.mk (KeepBut.trans G6_ (KeepBut.of_below hb g none) (.inl rfl)); have n3_ := Aside0.mk G82_; have n4_ := Aside0.mk (hbox); have n5_ := Aside0.mk (G19_); have n6_ := Aside0.mk ((Nat.le_trans HW0.out G19_ : w0.heap.size ≤ gb176)); have n7_ := Aside0.mk (G47_); have n8_ := Aside0.mk (G46_); have n9_ := Aside0.mk (G33_); have n10_ := Aside0.mk (G32_); clear HI0; clear BK167; clear HK; clear HB; have HI0 := n0_; have BK167 := n1_; have HK := n2_; have HB := n3_; have BK176 := n4_; have GW176 := n5_; have GE176 := n6_; have NB167_176 := n7_; have NB176_167 := n8_; have NB0_176 := n9_; have NB176_0 := n10_; clear n0_ n1_ n2_ n3_ n4_ n5_ n6_ n7_ n8_ n9_ n10_; clear hb hbox hg; have hnb84 := NB176_167.out; have hnc84 := NB167_176.out; have hnb85 := NB176_0.out; have hnc85 := NB0_176.out; have hcz86_0 : w83.cell? ⟨gb176, 0, none⟩ = some (.int .i64 0) := (G67_).trans rfl; have hcz86_1 : w83.cell? ⟨gb176, 1, none⟩ = some (.int .i64 0) := (G68_).trans rfl; have hcz86_2 : w83.cell? ⟨gb176, 2, none⟩ = some (.int .i64 0) := (G69_).trans rfl; have hcz86_3 : w83.cell? ⟨gb176, 3, none⟩ = some (.int .i64 0) := (G70_).trans rfl; have hcz86_4 : w83.cell? ⟨gb176, 4, none⟩ = some (.bool false) := (G71_).trans rfl; have hcz86_5 : w83.cell? ⟨gb176, 5, none⟩ = some (.string (⟨#[]⟩ : ByteArray)) := (G72_).trans rfl; have hfz86_0 := blk_frozen BK176.out 0; have hfz86_1 := blk_frozen BK176.out 1; have hfz86_2 := blk_frozen BK176.out 2; have hfz86_3 := blk_frozen BK176.out 3; have hfz86_4 := blk_frozen BK176.out 4; have hfz86_5 := blk_frozen BK176.out 5) | (G50_; refine goesL_ (some 7) rfl rfl Try.func118 (by kernel_rfl) rfl G59_ rfl G1_ ?_; G31_; G65_; G66_; rintro e w87 ⟨rfl, hi, hb, hk⟩; refine ⟨_, rfl, ?_⟩; have n0_ := Aside0.mk (KeepBut.blk hk (g' := gb167) (o := .cells G3_ 85 (0, 0)) G15_ NB167_0.out (by simp)); have n1_ := Aside0.mk (KeepBut.blk hk (g' := gb176) (o := .cells G16_ 85 (0, 0)) G7_ NB176_0.out (by simp)); have n2_ := Aside0.mk (KeepBut.trans G8_ hk (.inl rfl)); have n3_ := Aside0.mk (hb); have n4_ := Aside0.mk (hi); clear BK167; clear BK176; clear HK; clear HB; clear HI0; have BK167 := n0_; have BK176 := n1_; have HK := n2_; have HB := n3_; have HI0 := n4_; clear n0_ n1_ n2_ n3_ n4_; (try clear hb); (try clear hb2); (try clear hk); (try clear hi); have hcz88_0 : w87.cell? ⟨gb176, 0, none⟩ = some (.int .i64 t168) := (G67_).trans rfl; have hcz88_1 : w87.cell? ⟨gb176, 1, none⟩ = some (.int .i64 t169) := (G68_).trans rfl; have hcz88_2 : w87.cell? ⟨gb176, 2, none⟩ = some (.int .i64 t170) := (G69_).trans rfl; have hcz88_3 : w87.cell? ⟨gb176, 3, none⟩ = some (.int .i64 t171) := (G70_).trans rfl; have hcz88_4 : w87.cell? ⟨gb176, 4, none⟩ = some (.bool t172) := (G71_).trans rfl; have hcz88_5 : w87.cell? ⟨gb176, 5, none⟩ = some (.string t173) := (G72_).trans rfl; have hfz88_0 := blk_frozen BK176.out 0; have hfz88_1 := blk_frozen BK176.out 1; have hfz88_2 := blk_frozen BK176.out 2; have hfz88_3 := blk_frozen BK176.out 3; have hfz88_4 := blk_frozen BK176.out 4; have hfz88_5 := blk_frozen BK176.out 5; have hnb89 := NB167_0.out; have hnc89 := NB0_167.out; have hcz90_0 : w87.cell? ⟨gb167, 0, none⟩ = some (.int .i64 0) := (G93_).trans rfl; have hcz90_1 : w87.cell? ⟨gb167, 1, none⟩ = some (.int .i64 0) := (G94_).trans rfl; have hcz90_2 : w87.cell? ⟨gb167, 2, none⟩ = some (.int .i64 0) := (G95_).trans rfl; have hcz90_3 : w87.cell? ⟨gb167, 3, none⟩ = some (.int .i64 0) := (G96_).trans rfl; have hcz90_4 : w87.cell? ⟨gb167, 4, none⟩ = some (.bool false) := (G97_).trans rfl; have hcz90_5 : w87.cell? ⟨gb167, 5, none⟩ = some (.string (⟨#[]⟩ : ByteArray)) := (G98_).trans rfl; have hfz90_0 := blk_frozen BK167.out 0; have hfz90_1 := blk_frozen BK167.out 1; have hfz90_2 := blk_frozen BK167.out 2; have hfz90_3 := blk_frozen BK167.out 3; have hfz90_4 := blk_frozen BK167.out 4; have hfz90_5 := blk_frozen BK167.out 5))
      refine bodyPost_ret (results_cell_row rfl _ _ gb167 85 G16_ (0, 0) _ rfl (by G0_; refine blk_put (cs := G89_) ?_ 5 _ rfl; G0_; refine blk_put (cs := G63_) ?_ 4 _ rfl; G0_; refine blk_put (cs := G40_) ?_ 3 _ rfl; G0_; refine blk_put (cs := G36_) ?_ 2 _ rfl; G0_; refine blk_put (cs := G37_) ?_ 1 _ rfl; G0_; refine blk_put (cs := G3_) ?_ 0 _ rfl; G0_; exact BK167.out) Try.underlying85 rfl (by kernel_rfl)) rfl ?_
      J0_

/-! ### spec_DrawDgramText: function 53 -/
def spec_DrawDgramText.f (k : Nat) (l0 : List Int) : Option (Int × Int × Int × Int × Bool × ByteArray) := (spec_l01New.f k l0).bind fun bt206 => ((spec_l11Any.f k bt206.1 bt206.2.1 bt206.2.2).bind fun bt210 => (some (bt210.1, bt210.2.1, bt210.2.2.1, bt210.2.2.2.1, bt210.2.2.2.2.1, bt210.2.2.2.2.2.1)))
theorem spec_DrawDgramText.mono : ∀ a0 k, LeO (spec_DrawDgramText.f k a0) (spec_DrawDgramText.f (k + 1) a0) := by
 intro a0 k
 unfold spec_DrawDgramText.f
 repeat' first
   | (with_reducible exact spec_l01New.mono _ _)
   | (with_reducible exact spec_l11Any.mono _ _ _ _)
   | (with_reducible exact LeO.refl _)
   | (with_reducible exact LeO.none _)
   | (with_reducible refine LeO.ite ?_ ?_)
   | (with_reducible refine LeO.bind ?_ (fun _ => ?_))
   | exact spec_l01New.mono _ _
   | exact spec_l11Any.mono _ _ _ _
   | exact LeO.none _
   | refine LeO.ite ?_ ?_
   | refine LeO.bind ?_ (fun _ => ?_)
set_option maxHeartbeats 8000000 in
set_option maxRecDepth 100000 in
theorem spec_DrawDgramText.calls (k : Nat) (A0 : Option Addr) (c0 : Nat) (l0 : List Int) (r1 : Int) (r2 : Int) (r3 : Int) (r4 : Int) (r5 : Bool) (r6 : ByteArray) (w : World) (hr0 : Kd.C (Kd.int .u8) w A0 l0.length l0) (hc0 : l0.length ≤ c0) (h : spec_DrawDgramText.f k l0 = some (r1, r2, r3, r4, r5, r6)) :
  Calls Try.prog 53 #[.slice A0 l0.length c0] w fun e w' => e = .returned (.agg #[.int .i64 r1, .int .i64 r2, .int .i64 r3, .int .i64 r4, .bool r5, .string r6]) ∧ Below w.heap.size w w' := by
 have hu85 := Try.underlying85
 J13_
 J12_
 have H : ((spec_l01New.f k l0).bind fun bt206 => ((spec_l11Any.f k bt206.1 bt206.2.1 bt206.2.2).bind fun bt210 => (some (bt210.1, bt210.2.1, bt210.2.2.1, bt210.2.2.2.1, bt210.2.2.2.2.1, bt210.2.2.2.2.2.1)))) = some (r1, r2, r3, r4, r5, r6) := h
 clear h
 J4_
 obtain ⟨⟨t206, t207, t208⟩, A20, H⟩ := H
 J7_
 J11_
 J4_
 obtain ⟨⟨t210, t211, t212, t213, t214, t215, t216, t217⟩, A30, H⟩ := H
 J7_
 have A3 := Aside0.mk A30
 clear A30
 simp only [Option.some.injEq, Prod.mk.injEq] at H
 obtain ⟨rfl, rfl, rfl, rfl, rfl, rfl⟩ := H
 go_enter Try.func53, Try.ntmps53
 go_wp2_with (first | (G45_; refine box_event ?hg (N := 2) ?hd (cs := G3_) (t := 85) ?hr ?_; (case hd => rfl); (case hg => rfl); G13_; intro gb205 hg w4 hbox hb; have n0_ := Aside0.mk G52_; have n1_ := Aside0.mk (hbox); have n2_ := Aside0.mk ((by rw [hg]; exact (below_size G2_) : w.heap.size ≤ gb205)); have n3_ := Aside0.mk ((by rw [hg]; exact (below_size G2_) : w.heap.size ≤ gb205)); clear HB; have HB := n0_; have BK205 := n1_; have GW205 := n2_; have GE205 := n3_; clear n0_ n1_ n2_ n3_; clear hb hbox hg) | ((with_reducible refine gate_callee (f := 96) rfl ?_); refine goesL_ (some 4) rfl rfl Try.func96 (by kernel_rfl) rfl #[.slice A0 l0.length c0] rfl G1_ ?_; (with_reducible refine (spec_l01New.calls k _ _ l0 t206 t207 t208 w _ ?side1 ?side2 ?side3 A2.out).mono ?_); (case side1 => repeat (first | (with_reducible first | exact HB.out | apply below_alloc | apply pw_below_drewN | apply below_drew1 | refine below_set ?_ GE205.out) | exact HB.out)); (case side2 => exact HR0.out); (case side3 => exact HC0.out); rintro e w5 ⟨g209, rfl, hi, hb, hb2⟩; refine ⟨_, rfl, ?_⟩; have n0_ := Aside0.mk G75_; have n1_ := Aside0.mk (hb); have n2_ := Aside0.mk (hi); have n3_ := Aside0.mk (IsS182.ne_blk hi G75_ (by decide)); have n4_ := Aside0.mk (Ne.symm (IsS182.ne_blk hi G75_ (by decide))); clear BK205; clear HB; have BK205 := n0_; have HB := n1_; have HI209 := n2_; have NB209_205 := n3_; have NB205_209 := n4_; clear n0_ n1_ n2_ n3_ n4_; (try clear hb); (try clear hb2); (try clear hk); (try clear hi)) | ((with_reducible refine gate_callee (f := 128) rfl ?_); refine goesL_ (some 5) rfl rfl Try.func128 (by kernel_rfl) rfl #[.pointer (some ⟨g209, 0, none⟩)] rfl G1_ ?_; (with_reducible refine (spec_l11Any.calls k g209 t206 t207 t208 t210 t211 t212 t213 t214 t215 t216 t217 w _ ?side1 ?side2 A3.out).mono ?_); (case side1 => repeat (first | (with_reducible first | exact HI209.out | apply IsS182.alloc | apply IsS182.drewN | apply IsS182.drew | apply IsS182.set_1 | apply IsS182.set_2 | refine IsS182.far ?_ NB209_205.out _) | exact HI209.out)); (case side2 => repeat G64_); rintro e w6 ⟨rfl, hi, hb, hk⟩; refine ⟨_, rfl, ?_⟩; have n0_ := Aside0.mk (KeepBut.blk hk (g' := gb205) (o := .cells G3_ 85 (0, 0)) (by G0_; exact BK205.out) NB205_209.out (by simp)); have n1_ := Aside0.mk (hb); have n2_ := Aside0.mk (hi); clear BK205; clear HB; clear HI209; have BK205 := n0_; have HB := n1_; have HI209 := n2_; clear n0_ n1_ n2_; (try clear hb); (try clear hb2); (try clear hk); (try clear hi); have hnb7 := NB205_209.out; have hnc7 := NB209_205.out; have hcz8_0 : w6.cell? ⟨gb205, 0, none⟩ = some (.int .i64 0) := (blk_cell BK205.out 0).trans rfl; have hcz8_1 : w6.cell? ⟨gb205, 1, none⟩ = some (.int .i64 0) := (blk_cell BK205.out 1).trans rfl; have hcz8_2 : w6.cell? ⟨gb205, 2, none⟩ = some (.int .i64 0) := (blk_cell BK205.out 2).trans rfl; have hcz8_3 : w6.cell? ⟨gb205, 3, none⟩ = some (.int .i64 0) := (blk_cell BK205.out 3).trans rfl; have hcz8_4 : w6.cell? ⟨gb205, 4, none⟩ = some (.bool false) := (blk_cell BK205.out 4).trans rfl; have hcz8_5 : w6.cell? ⟨gb205, 5, none⟩ = some (.string (⟨#[]⟩ : ByteArray)) := (blk_cell BK205.out 5).trans rfl; have hfz8_0 := blk_frozen BK205.out 0; have hfz8_1 := blk_frozen BK205.out 1; have hfz8_2 := blk_frozen BK205.out 2; have hfz8_3 := blk_frozen BK205.out 3; have hfz8_4 := blk_frozen BK205.out 4; have hfz8_5 := blk_frozen BK205.out 5))
 refine bodyPost_ret (results_cell_row rfl _ _ gb205 85 #[.int .i64 t210, .int .i64 t211, .int .i64 t212, .int .i64 t213, .bool t214, .string t215] (0, 0) _ rfl (by G0_; refine blk_put (cs := #[.int .i64 t210, .int .i64 t211, .int .i64 t212, .int .i64 t213, .bool t214, .string (⟨#[]⟩ : ByteArray)]) ?_ 5 _ rfl; G0_; refine blk_put (cs := #[.int .i64 t210, .int .i64 t211, .int .i64 t212, .int .i64 t213, .bool false, .string (⟨#[]⟩ : ByteArray)]) ?_ 4 _ rfl; G0_; refine blk_put (cs := #[.int .i64 t210, .int .i64 t211, .int .i64 t212, .int .i64 0, .bool false, .string (⟨#[]⟩ : ByteArray)]) ?_ 3 _ rfl; G0_; refine blk_put (cs := #[.int .i64 t210, .int .i64 t211, .int .i64 0, .int .i64 0, .bool false, .string (⟨#[]⟩ : ByteArray)]) ?_ 2 _ rfl; G0_; refine blk_put (cs := #[.int .i64 t210, .int .i64 0, .int .i64 0, .int .i64 0, .bool false, .string (⟨#[]⟩ : ByteArray)]) ?_ 1 _ rfl; G0_; refine blk_put (cs := G3_) ?_ 0 _ rfl; G0_; exact BK205.out) Try.underlying85 rfl (by kernel_rfl)) rfl ?_
 exact ⟨by first | rfl | (simp [errW_none, errW_some] <;> rfl) | (simp [*, errW_none, errW_some] <;> rfl), by repeat G64_⟩

/-! ### impl_within: function 84 -/
def impl_within.f (a0 : Int) (a1 : Int) (a2 : Int) : Option (Bool) := if a0 ≥ a1 then (some (decide (a0 ≤ a2))) else (some false)
set_option maxHeartbeats 8000000 in
set_option maxRecDepth 100000 in
theorem impl_within.calls (a0 : Int) (a1 : Int) (a2 : Int) (r : Bool) (w : World) (h : impl_within.f a0 a1 a2 = some r) :
  Calls Try.prog 84 #[.int .i64 a0, .int .i64 a1, .int .i64 a2] w fun e w' => e = .returned (.bool r) ∧ Drawn0 w w' := by
 have H : (if a0 ≥ a1 then (some (decide (a0 ≤ a2))) else (some false)) = some r := h
 clear h
 by_cases c4 : a0 ≥ a1
 ·rw [if_pos c4] at H
  have c4b0 : decide (a1 ≤ a0) = true := decide_eq_true c4
  clear c4
  J8_
  go_enter Try.func84, Try.ntmps84
  go_wp2
  J5_
 ·rw [if_neg c4] at H
  have c4b0 : decide (a1 ≤ a0) = false := decide_eq_false c4
  clear c4
  J8_
  go_enter Try.func84, Try.ntmps84
  go_wp2
  J5_

/-! ### impl_isWord: function 85 -/
def impl_isWord.f (a0 : Int) : Option (Bool) := (impl_within.f a0 0 65535).bind fun t218 => (some t218)
set_option maxHeartbeats 8000000 in
set_option maxRecDepth 100000 in
theorem impl_isWord.calls (a0 : Int) (r : Bool) (w : World) (h : impl_isWord.f a0 = some r) :
  Calls Try.prog 85 #[.int .i64 a0] w fun e w' => e = .returned (.bool r) ∧ Drawn0 w w' := by
 have H : ((impl_within.f a0 0 65535).bind fun t218 => (some t218)) = some r := h
 clear h
 J4_
 obtain ⟨t218, A20, H⟩ := H
 J7_
 J11_
 J8_
 go_enter Try.func85, Try.ntmps85
 go_wp2_with (first | (G23_; refine goesL_ (some 4) rfl rfl Try.func84 (by kernel_rfl) rfl #[.int .i64 a0, .int .i64 0, .int .i64 65535] rfl G1_ ?_; (with_reducible refine (impl_within.calls a0 0 65535 t218 _ A2.out).mono ?_); rintro e w' ⟨rfl, ⟨nd, rfl⟩⟩; refine ⟨_, rfl, ?_⟩))
 J5_

/-! ### impl_isAddr: function 130 -/
def impl_isAddr.f (a0 : Int) : Option (Bool) := (impl_within.f a0 1 99).bind fun t219 => (some t219)
set_option maxHeartbeats 8000000 in
set_option maxRecDepth 100000 in
theorem impl_isAddr.calls (a0 : Int) (r : Bool) (w : World) (h : impl_isAddr.f a0 = some r) :
  Calls Try.prog 130 #[.int .i64 a0] w fun e w' => e = .returned (.bool r) ∧ Drawn0 w w' := by
 have H : ((impl_within.f a0 1 99).bind fun t219 => (some t219)) = some r := h
 clear h
 J4_
 obtain ⟨t219, A20, H⟩ := H
 J7_
 J11_
 J8_
 go_enter Try.func130, Try.ntmps130
 go_wp2_with (first | (G23_; refine goesL_ (some 4) rfl rfl Try.func84 (by kernel_rfl) rfl #[.int .i64 a0, .int .i64 1, .int .i64 99] rfl G1_ ?_; (with_reducible refine (impl_within.calls a0 1 99 t219 _ A2.out).mono ?_); rintro e w' ⟨rfl, ⟨nd, rfl⟩⟩; refine ⟨_, rfl, ?_⟩))
 J5_

/-! ### impl_DgramOk: function 57 -/
def impl_DgramOk.f (a0_0 : Int) (a0_1 : Int) (a0_2 : Int) (a0_3 : Int) (a0_4 : Bool) (a0_5 : ByteArray) : Option (Bool) := (impl_within.f a0_3 0 160).bind fun t221 => (if t221 = true then (if (Int.tmod a0_3 8) = 0 then ((impl_within.f (a0_5.size : Int) 1 (wrap64 (160 - a0_3))).bind fun t222 => ((impl_isAddr.f a0_0).bind fun t223 => (if t223 = true then ((impl_isAddr.f a0_1).bind fun t224 => (if t224 = true then ((impl_isWord.f a0_2).bind fun t225 => (if t225 = true then (if t222 = true then (if a0_4 = true then (some (((a0_5.size : Int) % 8) == 0)) else (some true)) else (some false)) else (some false))) else (some false))) else (some false)))) else ((impl_isAddr.f a0_0).bind fun t226 => (if t226 = true then ((impl_isAddr.f a0_1).bind fun t227 => (if t227 = true then ((impl_isWord.f a0_2).bind fun t228 => (if t228 = true then (some false) else (some false))) else (some false))) else (some false)))) else ((impl_isAddr.f a0_0).bind fun t229 => (if t229 = true then ((impl_isAddr.f a0_1).bind fun t230 => (if t230 = true then ((impl_isWord.f a0_2).bind fun t231 => (if t231 = true then (some false) else (some false))) else (some false))) else (some false))))
set_option maxHeartbeats 8000000 in
set_option maxRecDepth 100000 in
theorem impl_DgramOk.calls (a0_0 : Int) (a0_1 : Int) (a0_2 : Int) (a0_3 : Int) (a0_4 : Bool) (a0_5 : ByteArray) (r : Bool) (w : World) (h : impl_DgramOk.f a0_0 a0_1 a0_2 a0_3 a0_4 a0_5 = some r) :
  Calls Try.prog 57 #[.agg #[.int .i64 a0_0, .int .i64 a0_1, .int .i64 a0_2, .int .i64 a0_3, .bool a0_4, .string a0_5]] w fun e w' => e = .returned (.bool r) ∧ Below w.heap.size w w' := by
 have hu85 := Try.underlying85
 J12_
 have H : ((impl_within.f a0_3 0 160).bind fun t221 => (if t221 = true then (if (Int.tmod a0_3 8) = 0 then ((impl_within.f (a0_5.size : Int) 1 (wrap64 (160 - a0_3))).bind fun t222 => ((impl_isAddr.f a0_0).bind fun t223 => (if t223 = true then ((impl_isAddr.f a0_1).bind fun t224 => (if t224 = true then ((impl_isWord.f a0_2).bind fun t225 => (if t225 = true then (if t222 = true then (if a0_4 = true then (some (((a0_5.size : Int) % 8) == 0)) else (some true)) else (some false)) else (some false))) else (some false))) else (some false)))) else ((impl_isAddr.f a0_0).bind fun t226 => (if t226 = true then ((impl_isAddr.f a0_1).bind fun t227 => (if t227 = true then ((impl_isWord.f a0_2).bind fun t228 => (if t228 = true then (some false) else (some false))) else (some false))) else (some false)))) else ((impl_isAddr.f a0_0).bind fun t229 => (if t229 = true then ((impl_isAddr.f a0_1).bind fun t230 => (if t230 = true then ((impl_isWord.f a0_2).bind fun t231 => (if t231 = true then (some false) else (some false))) else (some false))) else (some false))))) = some r := h
 clear h
 J4_
 obtain ⟨t221, A20, H⟩ := H
 J7_
 J11_
 by_cases c3 : t221 = true
 ·subst c3
  J10_
  by_cases c4 : (Int.tmod a0_3 8) = 0
  ·rw [if_pos c4] at H
   have c4b0 : ((Int.tmod a0_3 8) == 0) = true := beq_iff_eq.mpr c4
   have c4b1 : ((Int.tmod a0_3 8) != 0) = false := bne_eq_false_iff_eq.mpr c4
   clear c4
   J4_
   obtain ⟨t222, A50, H⟩ := H
   J7_
   have A5 := Aside0.mk A50
   clear A50
   J4_
   obtain ⟨t223, A60, H⟩ := H
   J7_
   have A6 := Aside0.mk A60
   clear A60
   by_cases c7 : t223 = true
   ·subst c7
    J10_
    J4_
    obtain ⟨t224, A80, H⟩ := H
    J7_
    have A8 := Aside0.mk A80
    clear A80
    by_cases c9 : t224 = true
    ·subst c9
     J10_
     J4_
     obtain ⟨t225, A100, H⟩ := H
     J7_
     have A10 := Aside0.mk A100
     clear A100
     by_cases c11 : t225 = true
     ·subst c11
      J10_
      by_cases c12 : t222 = true
      ·subst c12
       J10_
       by_cases c13 : a0_4 = true
       ·subst c13
        J10_
        J8_
        go_enter Try.func57, Try.ntmps57
        go_wp2_with (first | (G29_; G28_; refine box_event ?hg (N := 1) ?hd (cs := #[.int .i64 a0_0, .int .i64 a0_1, .int .i64 a0_2, .int .i64 a0_3, .bool true, .string a0_5]) (t := 85) ?hr ?_; (case hd => rfl); (case hg => rfl); G13_; intro gb220 hg w14 hbox hb; have n0_ := Aside0.mk G52_; have n1_ := Aside0.mk (hbox); have n2_ := Aside0.mk (G14_); have n3_ := Aside0.mk (G14_); clear HB; have HB := n0_; have BK220 := n1_; have GW220 := n2_; have GE220 := n3_; clear n0_ n1_ n2_ n3_; clear hb hbox hg; have hcz15_0 : w14.cell? ⟨gb220, 0, none⟩ = some (.int .i64 a0_0) := (G53_).trans rfl; have hcz15_1 : w14.cell? ⟨gb220, 1, none⟩ = some (.int .i64 a0_1) := (G54_).trans rfl; have hcz15_2 : w14.cell? ⟨gb220, 2, none⟩ = some (.int .i64 a0_2) := (G55_).trans rfl; have hcz15_3 : w14.cell? ⟨gb220, 3, none⟩ = some (.int .i64 a0_3) := (G56_).trans rfl; have hcz15_4 : w14.cell? ⟨gb220, 4, none⟩ = some (.bool true) := (G57_).trans rfl; have hcz15_5 : w14.cell? ⟨gb220, 5, none⟩ = some (.string a0_5) := (G58_).trans rfl; have hfz15_0 := blk_frozen BK220.out 0; have hfz15_1 := blk_frozen BK220.out 1; have hfz15_2 := blk_frozen BK220.out 2; have hfz15_3 := blk_frozen BK220.out 3; have hfz15_4 := blk_frozen BK220.out 4; have hfz15_5 := blk_frozen BK220.out 5) | (G23_; refine goesL_ (some 6) rfl rfl Try.func84 (by kernel_rfl) rfl G34_ rfl G1_ ?_; G26_; rintro e w' ⟨rfl, ⟨nd, rfl⟩⟩; refine ⟨_, rfl, ?_⟩) | G74_ | (G27_; refine goesL_ (some 24) rfl rfl Try.func130 (by kernel_rfl) rfl #[.int .i64 a0_0] rfl G1_ ?_; G44_; rintro e w' ⟨rfl, ⟨nd, rfl⟩⟩; refine ⟨_, rfl, ?_⟩) | G38_ | G48_)
        J1_
       ·replace c13 := Bool.eq_false_iff.mpr c13
        subst c13
        J3_
        go_enter Try.func57, Try.ntmps57
        go_wp2_with (first | (G29_; G28_; refine box_event ?hg (N := 1) ?hd (cs := #[.int .i64 a0_0, .int .i64 a0_1, .int .i64 a0_2, .int .i64 a0_3, .bool false, .string a0_5]) (t := 85) ?hr ?_; (case hd => rfl); (case hg => rfl); G13_; intro gb220 hg w16 hbox hb; have n0_ := Aside0.mk G52_; have n1_ := Aside0.mk (hbox); have n2_ := Aside0.mk (G14_); have n3_ := Aside0.mk (G14_); clear HB; have HB := n0_; have BK220 := n1_; have GW220 := n2_; have GE220 := n3_; clear n0_ n1_ n2_ n3_; clear hb hbox hg; have hcz17_0 : w16.cell? ⟨gb220, 0, none⟩ = some (.int .i64 a0_0) := (G53_).trans rfl; have hcz17_1 : w16.cell? ⟨gb220, 1, none⟩ = some (.int .i64 a0_1) := (G54_).trans rfl; have hcz17_2 : w16.cell? ⟨gb220, 2, none⟩ = some (.int .i64 a0_2) := (G55_).trans rfl; have hcz17_3 : w16.cell? ⟨gb220, 3, none⟩ = some (.int .i64 a0_3) := (G56_).trans rfl; have hcz17_4 : w16.cell? ⟨gb220, 4, none⟩ = some (.bool false) := (G57_).trans rfl; have hcz17_5 : w16.cell? ⟨gb220, 5, none⟩ = some (.string a0_5) := (G58_).trans rfl; have hfz17_0 := blk_frozen BK220.out 0; have hfz17_1 := blk_frozen BK220.out 1; have hfz17_2 := blk_frozen BK220.out 2; have hfz17_3 := blk_frozen BK220.out 3; have hfz17_4 := blk_frozen BK220.out 4; have hfz17_5 := blk_frozen BK220.out 5) | (G23_; refine goesL_ (some 6) rfl rfl Try.func84 (by kernel_rfl) rfl G34_ rfl G1_ ?_; G26_; rintro e w' ⟨rfl, ⟨nd, rfl⟩⟩; refine ⟨_, rfl, ?_⟩) | G74_ | (G27_; refine goesL_ (some 24) rfl rfl Try.func130 (by kernel_rfl) rfl #[.int .i64 a0_0] rfl G1_ ?_; G44_; rintro e w' ⟨rfl, ⟨nd, rfl⟩⟩; refine ⟨_, rfl, ?_⟩) | G38_ | G48_)
        J1_
      ·replace c12 := Bool.eq_false_iff.mpr c12
       subst c12
       J3_
       go_enter Try.func57, Try.ntmps57
       go_wp2_with (first | (G29_; G28_; refine box_event ?hg (N := 1) ?hd (cs := G18_) (t := 85) ?hr ?_; (case hd => rfl); (case hg => rfl); G13_; intro gb220 hg w18 hbox hb; have n0_ := Aside0.mk G52_; have n1_ := Aside0.mk (hbox); have n2_ := Aside0.mk (G14_); have n3_ := Aside0.mk (G14_); clear HB; have HB := n0_; have BK220 := n1_; have GW220 := n2_; have GE220 := n3_; clear n0_ n1_ n2_ n3_; clear hb hbox hg; have hcz19_0 : w18.cell? ⟨gb220, 0, none⟩ = some (.int .i64 a0_0) := (G53_).trans rfl; have hcz19_1 : w18.cell? ⟨gb220, 1, none⟩ = some (.int .i64 a0_1) := (G54_).trans rfl; have hcz19_2 : w18.cell? ⟨gb220, 2, none⟩ = some (.int .i64 a0_2) := (G55_).trans rfl; have hcz19_3 : w18.cell? ⟨gb220, 3, none⟩ = some (.int .i64 a0_3) := (G56_).trans rfl; have hcz19_4 : w18.cell? ⟨gb220, 4, none⟩ = some (.bool a0_4) := (G57_).trans rfl; have hcz19_5 : w18.cell? ⟨gb220, 5, none⟩ = some (.string a0_5) := (G58_).trans rfl; have hfz19_0 := blk_frozen BK220.out 0; have hfz19_1 := blk_frozen BK220.out 1; have hfz19_2 := blk_frozen BK220.out 2; have hfz19_3 := blk_frozen BK220.out 3; have hfz19_4 := blk_frozen BK220.out 4; have hfz19_5 := blk_frozen BK220.out 5) | (G23_; refine goesL_ (some 6) rfl rfl Try.func84 (by kernel_rfl) rfl G34_ rfl G1_ ?_; G26_; rintro e w' ⟨rfl, ⟨nd, rfl⟩⟩; refine ⟨_, rfl, ?_⟩) | (go_at_call 84; (with_reducible refine (impl_within.calls (a0_5.size : Int) 1 (wrap64 (160 - a0_3)) false _ A5.out).mono ?_); rintro e w' ⟨rfl, ⟨nd, rfl⟩⟩) | (G27_; refine goesL_ (some 24) rfl rfl Try.func130 (by kernel_rfl) rfl #[.int .i64 a0_0] rfl G1_ ?_; G44_; rintro e w' ⟨rfl, ⟨nd, rfl⟩⟩; refine ⟨_, rfl, ?_⟩) | G38_ | G48_)
       J1_
     ·replace c11 := Bool.eq_false_iff.mpr c11
      subst c11
      J3_
      go_enter Try.func57, Try.ntmps57
      go_wp2_with (first | (G29_; G28_; refine box_event ?hg (N := 1) ?hd (cs := G18_) (t := 85) ?hr ?_; (case hd => rfl); (case hg => rfl); G13_; intro gb220 hg w20 hbox hb; have n0_ := Aside0.mk G52_; have n1_ := Aside0.mk (hbox); have n2_ := Aside0.mk (G14_); have n3_ := Aside0.mk (G14_); clear HB; have HB := n0_; have BK220 := n1_; have GW220 := n2_; have GE220 := n3_; clear n0_ n1_ n2_ n3_; clear hb hbox hg; have hcz21_0 : w20.cell? ⟨gb220, 0, none⟩ = some (.int .i64 a0_0) := (G53_).trans rfl; have hcz21_1 : w20.cell? ⟨gb220, 1, none⟩ = some (.int .i64 a0_1) := (G54_).trans rfl; have hcz21_2 : w20.cell? ⟨gb220, 2, none⟩ = some (.int .i64 a0_2) := (G55_).trans rfl; have hcz21_3 : w20.cell? ⟨gb220, 3, none⟩ = some (.int .i64 a0_3) := (G56_).trans rfl; have hcz21_4 : w20.cell? ⟨gb220, 4, none⟩ = some (.bool a0_4) := (G57_).trans rfl; have hcz21_5 : w20.cell? ⟨gb220, 5, none⟩ = some (.string a0_5) := (G58_).trans rfl; have hfz21_0 := blk_frozen BK220.out 0; have hfz21_1 := blk_frozen BK220.out 1; have hfz21_2 := blk_frozen BK220.out 2; have hfz21_3 := blk_frozen BK220.out 3; have hfz21_4 := blk_frozen BK220.out 4; have hfz21_5 := blk_frozen BK220.out 5) | (G23_; refine goesL_ (some 6) rfl rfl Try.func84 (by kernel_rfl) rfl G34_ rfl G1_ ?_; G26_; rintro e w' ⟨rfl, ⟨nd, rfl⟩⟩; refine ⟨_, rfl, ?_⟩) | G39_ | (G27_; refine goesL_ (some 24) rfl rfl Try.func130 (by kernel_rfl) rfl #[.int .i64 a0_0] rfl G1_ ?_; G44_; rintro e w' ⟨rfl, ⟨nd, rfl⟩⟩; refine ⟨_, rfl, ?_⟩) | G38_ | (go_at_call 85; (with_reducible refine (impl_isWord.calls a0_2 false _ A10.out).mono ?_); rintro e w' ⟨rfl, ⟨nd, rfl⟩⟩))
      J1_
    ·replace c9 := Bool.eq_false_iff.mpr c9
     subst c9
     J3_
     go_enter Try.func57, Try.ntmps57
     go_wp2_with (first | (G29_; G28_; refine box_event ?hg (N := 1) ?hd (cs := G18_) (t := 85) ?hr ?_; (case hd => rfl); (case hg => rfl); G13_; intro gb220 hg w22 hbox hb; have n0_ := Aside0.mk G52_; have n1_ := Aside0.mk (hbox); have n2_ := Aside0.mk (G14_); have n3_ := Aside0.mk (G14_); clear HB; have HB := n0_; have BK220 := n1_; have GW220 := n2_; have GE220 := n3_; clear n0_ n1_ n2_ n3_; clear hb hbox hg; have hcz23_0 : w22.cell? ⟨gb220, 0, none⟩ = some (.int .i64 a0_0) := (G53_).trans rfl; have hcz23_1 : w22.cell? ⟨gb220, 1, none⟩ = some (.int .i64 a0_1) := (G54_).trans rfl; have hcz23_2 : w22.cell? ⟨gb220, 2, none⟩ = some (.int .i64 a0_2) := (G55_).trans rfl; have hcz23_3 : w22.cell? ⟨gb220, 3, none⟩ = some (.int .i64 a0_3) := (G56_).trans rfl; have hcz23_4 : w22.cell? ⟨gb220, 4, none⟩ = some (.bool a0_4) := (G57_).trans rfl; have hcz23_5 : w22.cell? ⟨gb220, 5, none⟩ = some (.string a0_5) := (G58_).trans rfl; have hfz23_0 := blk_frozen BK220.out 0; have hfz23_1 := blk_frozen BK220.out 1; have hfz23_2 := blk_frozen BK220.out 2; have hfz23_3 := blk_frozen BK220.out 3; have hfz23_4 := blk_frozen BK220.out 4; have hfz23_5 := blk_frozen BK220.out 5) | (G23_; refine goesL_ (some 6) rfl rfl Try.func84 (by kernel_rfl) rfl G34_ rfl G1_ ?_; G26_; rintro e w' ⟨rfl, ⟨nd, rfl⟩⟩; refine ⟨_, rfl, ?_⟩) | G39_ | (G27_; refine goesL_ (some 24) rfl rfl Try.func130 (by kernel_rfl) rfl #[.int .i64 a0_0] rfl G1_ ?_; G44_; rintro e w' ⟨rfl, ⟨nd, rfl⟩⟩; refine ⟨_, rfl, ?_⟩) | (go_at_call 130; (with_reducible refine (impl_isAddr.calls a0_1 false _ A8.out).mono ?_); rintro e w' ⟨rfl, ⟨nd, rfl⟩⟩))
     J1_
   ·replace c7 := Bool.eq_false_iff.mpr c7
    subst c7
    J3_
    go_enter Try.func57, Try.ntmps57
    go_wp2_with (first | (G29_; G28_; refine box_event ?hg (N := 1) ?hd (cs := G18_) (t := 85) ?hr ?_; (case hd => rfl); (case hg => rfl); G13_; intro gb220 hg w24 hbox hb; have n0_ := Aside0.mk G52_; have n1_ := Aside0.mk (hbox); have n2_ := Aside0.mk (G14_); have n3_ := Aside0.mk (G14_); clear HB; have HB := n0_; have BK220 := n1_; have GW220 := n2_; have GE220 := n3_; clear n0_ n1_ n2_ n3_; clear hb hbox hg; have hcz25_0 : w24.cell? ⟨gb220, 0, none⟩ = some (.int .i64 a0_0) := (G53_).trans rfl; have hcz25_1 : w24.cell? ⟨gb220, 1, none⟩ = some (.int .i64 a0_1) := (G54_).trans rfl; have hcz25_2 : w24.cell? ⟨gb220, 2, none⟩ = some (.int .i64 a0_2) := (G55_).trans rfl; have hcz25_3 : w24.cell? ⟨gb220, 3, none⟩ = some (.int .i64 a0_3) := (G56_).trans rfl; have hcz25_4 : w24.cell? ⟨gb220, 4, none⟩ = some (.bool a0_4) := (G57_).trans rfl; have hcz25_5 : w24.cell? ⟨gb220, 5, none⟩ = some (.string a0_5) := (G58_).trans rfl; have hfz25_0 := blk_frozen BK220.out 0; have hfz25_1 := blk_frozen BK220.out 1; have hfz25_2 := blk_frozen BK220.out 2; have hfz25_3 := blk_frozen BK220.out 3; have hfz25_4 := blk_frozen BK220.out 4; have hfz25_5 := blk_frozen BK220.out 5) | (G23_; refine goesL_ (some 6) rfl rfl Try.func84 (by kernel_rfl) rfl G34_ rfl G1_ ?_; G26_; rintro e w' ⟨rfl, ⟨nd, rfl⟩⟩; refine ⟨_, rfl, ?_⟩) | G39_ | (G27_; refine goesL_ (some 24) rfl rfl Try.func130 (by kernel_rfl) rfl #[.int .i64 a0_0] rfl G1_ ?_; (with_reducible refine (impl_isAddr.calls a0_0 false _ A6.out).mono ?_); rintro e w' ⟨rfl, ⟨nd, rfl⟩⟩; refine ⟨_, rfl, ?_⟩))
    J1_
  ·rw [if_neg c4] at H
   have c4b0 : ((Int.tmod a0_3 8) == 0) = false := beq_eq_false_iff_ne.mpr c4
   have c4b1 : ((Int.tmod a0_3 8) != 0) = true := bne_iff_ne.mpr c4
   J4_
   obtain ⟨t226, A260, H⟩ := H
   J7_
   have A26 := Aside0.mk A260
   clear A260
   by_cases c27 : t226 = true
   ·subst c27
    J10_
    J4_
    obtain ⟨t227, A280, H⟩ := H
    J7_
    have A28 := Aside0.mk A280
    clear A280
    by_cases c29 : t227 = true
    ·subst c29
     J10_
     J4_
     obtain ⟨t228, A300, H⟩ := H
     J7_
     have A30 := Aside0.mk A300
     clear A300
     by_cases c31 : t228 = true
     ·subst c31
      J10_
      J8_
      go_enter Try.func57, Try.ntmps57
      go_wp2_with (first | (G29_; G28_; refine box_event ?hg (N := 1) ?hd (cs := G18_) (t := 85) ?hr ?_; (case hd => rfl); (case hg => rfl); G13_; intro gb220 hg w32 hbox hb; have n0_ := Aside0.mk G52_; have n1_ := Aside0.mk (hbox); have n2_ := Aside0.mk (G14_); have n3_ := Aside0.mk (G14_); clear HB; have HB := n0_; have BK220 := n1_; have GW220 := n2_; have GE220 := n3_; clear n0_ n1_ n2_ n3_; clear hb hbox hg; have hcz33_0 : w32.cell? ⟨gb220, 0, none⟩ = some (.int .i64 a0_0) := (G53_).trans rfl; have hcz33_1 : w32.cell? ⟨gb220, 1, none⟩ = some (.int .i64 a0_1) := (G54_).trans rfl; have hcz33_2 : w32.cell? ⟨gb220, 2, none⟩ = some (.int .i64 a0_2) := (G55_).trans rfl; have hcz33_3 : w32.cell? ⟨gb220, 3, none⟩ = some (.int .i64 a0_3) := (G56_).trans rfl; have hcz33_4 : w32.cell? ⟨gb220, 4, none⟩ = some (.bool a0_4) := (G57_).trans rfl; have hcz33_5 : w32.cell? ⟨gb220, 5, none⟩ = some (.string a0_5) := (G58_).trans rfl; have hfz33_0 := blk_frozen BK220.out 0; have hfz33_1 := blk_frozen BK220.out 1; have hfz33_2 := blk_frozen BK220.out 2; have hfz33_3 := blk_frozen BK220.out 3; have hfz33_4 := blk_frozen BK220.out 4; have hfz33_5 := blk_frozen BK220.out 5) | (G23_; refine goesL_ (some 6) rfl rfl Try.func84 (by kernel_rfl) rfl G34_ rfl G1_ ?_; G26_; rintro e w' ⟨rfl, ⟨nd, rfl⟩⟩; refine ⟨_, rfl, ?_⟩) | (G27_; refine goesL_ (some 24) rfl rfl Try.func130 (by kernel_rfl) rfl #[.int .i64 a0_0] rfl G1_ ?_; G83_; rintro e w' ⟨rfl, ⟨nd, rfl⟩⟩; refine ⟨_, rfl, ?_⟩) | G86_ | (go_at_call 85; (with_reducible refine (impl_isWord.calls a0_2 true _ A30.out).mono ?_); rintro e w' ⟨rfl, ⟨nd, rfl⟩⟩))
      J1_
     ·replace c31 := Bool.eq_false_iff.mpr c31
      subst c31
      J3_
      go_enter Try.func57, Try.ntmps57
      go_wp2_with (first | (G29_; G28_; refine box_event ?hg (N := 1) ?hd (cs := G18_) (t := 85) ?hr ?_; (case hd => rfl); (case hg => rfl); G13_; intro gb220 hg w34 hbox hb; have n0_ := Aside0.mk G52_; have n1_ := Aside0.mk (hbox); have n2_ := Aside0.mk (G14_); have n3_ := Aside0.mk (G14_); clear HB; have HB := n0_; have BK220 := n1_; have GW220 := n2_; have GE220 := n3_; clear n0_ n1_ n2_ n3_; clear hb hbox hg; have hcz35_0 : w34.cell? ⟨gb220, 0, none⟩ = some (.int .i64 a0_0) := (G53_).trans rfl; have hcz35_1 : w34.cell? ⟨gb220, 1, none⟩ = some (.int .i64 a0_1) := (G54_).trans rfl; have hcz35_2 : w34.cell? ⟨gb220, 2, none⟩ = some (.int .i64 a0_2) := (G55_).trans rfl; have hcz35_3 : w34.cell? ⟨gb220, 3, none⟩ = some (.int .i64 a0_3) := (G56_).trans rfl; have hcz35_4 : w34.cell? ⟨gb220, 4, none⟩ = some (.bool a0_4) := (G57_).trans rfl; have hcz35_5 : w34.cell? ⟨gb220, 5, none⟩ = some (.string a0_5) := (G58_).trans rfl; have hfz35_0 := blk_frozen BK220.out 0; have hfz35_1 := blk_frozen BK220.out 1; have hfz35_2 := blk_frozen BK220.out 2; have hfz35_3 := blk_frozen BK220.out 3; have hfz35_4 := blk_frozen BK220.out 4; have hfz35_5 := blk_frozen BK220.out 5) | (G23_; refine goesL_ (some 6) rfl rfl Try.func84 (by kernel_rfl) rfl G34_ rfl G1_ ?_; G26_; rintro e w' ⟨rfl, ⟨nd, rfl⟩⟩; refine ⟨_, rfl, ?_⟩) | (G27_; refine goesL_ (some 24) rfl rfl Try.func130 (by kernel_rfl) rfl #[.int .i64 a0_0] rfl G1_ ?_; G83_; rintro e w' ⟨rfl, ⟨nd, rfl⟩⟩; refine ⟨_, rfl, ?_⟩) | G86_ | (go_at_call 85; (with_reducible refine (impl_isWord.calls a0_2 false _ A30.out).mono ?_); rintro e w' ⟨rfl, ⟨nd, rfl⟩⟩))
      J1_
    ·replace c29 := Bool.eq_false_iff.mpr c29
     subst c29
     J3_
     go_enter Try.func57, Try.ntmps57
     go_wp2_with (first | (G29_; G28_; refine box_event ?hg (N := 1) ?hd (cs := G18_) (t := 85) ?hr ?_; (case hd => rfl); (case hg => rfl); G13_; intro gb220 hg w36 hbox hb; have n0_ := Aside0.mk G52_; have n1_ := Aside0.mk (hbox); have n2_ := Aside0.mk (G14_); have n3_ := Aside0.mk (G14_); clear HB; have HB := n0_; have BK220 := n1_; have GW220 := n2_; have GE220 := n3_; clear n0_ n1_ n2_ n3_; clear hb hbox hg; have hcz37_0 : w36.cell? ⟨gb220, 0, none⟩ = some (.int .i64 a0_0) := (G53_).trans rfl; have hcz37_1 : w36.cell? ⟨gb220, 1, none⟩ = some (.int .i64 a0_1) := (G54_).trans rfl; have hcz37_2 : w36.cell? ⟨gb220, 2, none⟩ = some (.int .i64 a0_2) := (G55_).trans rfl; have hcz37_3 : w36.cell? ⟨gb220, 3, none⟩ = some (.int .i64 a0_3) := (G56_).trans rfl; have hcz37_4 : w36.cell? ⟨gb220, 4, none⟩ = some (.bool a0_4) := (G57_).trans rfl; have hcz37_5 : w36.cell? ⟨gb220, 5, none⟩ = some (.string a0_5) := (G58_).trans rfl; have hfz37_0 := blk_frozen BK220.out 0; have hfz37_1 := blk_frozen BK220.out 1; have hfz37_2 := blk_frozen BK220.out 2; have hfz37_3 := blk_frozen BK220.out 3; have hfz37_4 := blk_frozen BK220.out 4; have hfz37_5 := blk_frozen BK220.out 5) | (G23_; refine goesL_ (some 6) rfl rfl Try.func84 (by kernel_rfl) rfl G34_ rfl G1_ ?_; G26_; rintro e w' ⟨rfl, ⟨nd, rfl⟩⟩; refine ⟨_, rfl, ?_⟩) | (G27_; refine goesL_ (some 24) rfl rfl Try.func130 (by kernel_rfl) rfl #[.int .i64 a0_0] rfl G1_ ?_; G83_; rintro e w' ⟨rfl, ⟨nd, rfl⟩⟩; refine ⟨_, rfl, ?_⟩) | (go_at_call 130; (with_reducible refine (impl_isAddr.calls a0_1 false _ A28.out).mono ?_); rintro e w' ⟨rfl, ⟨nd, rfl⟩⟩))
     J1_
   ·replace c27 := Bool.eq_false_iff.mpr c27
    subst c27
    J3_
    go_enter Try.func57, Try.ntmps57
    go_wp2_with (first | (G29_; G28_; refine box_event ?hg (N := 1) ?hd (cs := G18_) (t := 85) ?hr ?_; (case hd => rfl); (case hg => rfl); G13_; intro gb220 hg w38 hbox hb; have n0_ := Aside0.mk G52_; have n1_ := Aside0.mk (hbox); have n2_ := Aside0.mk (G14_); have n3_ := Aside0.mk (G14_); clear HB; have HB := n0_; have BK220 := n1_; have GW220 := n2_; have GE220 := n3_; clear n0_ n1_ n2_ n3_; clear hb hbox hg; have hcz39_0 : w38.cell? ⟨gb220, 0, none⟩ = some (.int .i64 a0_0) := (G53_).trans rfl; have hcz39_1 : w38.cell? ⟨gb220, 1, none⟩ = some (.int .i64 a0_1) := (G54_).trans rfl; have hcz39_2 : w38.cell? ⟨gb220, 2, none⟩ = some (.int .i64 a0_2) := (G55_).trans rfl; have hcz39_3 : w38.cell? ⟨gb220, 3, none⟩ = some (.int .i64 a0_3) := (G56_).trans rfl; have hcz39_4 : w38.cell? ⟨gb220, 4, none⟩ = some (.bool a0_4) := (G57_).trans rfl; have hcz39_5 : w38.cell? ⟨gb220, 5, none⟩ = some (.string a0_5) := (G58_).trans rfl; have hfz39_0 := blk_frozen BK220.out 0; have hfz39_1 := blk_frozen BK220.out 1; have hfz39_2 := blk_frozen BK220.out 2; have hfz39_3 := blk_frozen BK220.out 3; have hfz39_4 := blk_frozen BK220.out 4; have hfz39_5 := blk_frozen BK220.out 5) | (G23_; refine goesL_ (some 6) rfl rfl Try.func84 (by kernel_rfl) rfl G34_ rfl G1_ ?_; G26_; rintro e w' ⟨rfl, ⟨nd, rfl⟩⟩; refine ⟨_, rfl, ?_⟩) | (G27_; refine goesL_ (some 24) rfl rfl Try.func130 (by kernel_rfl) rfl #[.int .i64 a0_0] rfl G1_ ?_; (with_reducible refine (impl_isAddr.calls a0_0 false _ A26.out).mono ?_); rintro e w' ⟨rfl, ⟨nd, rfl⟩⟩; refine ⟨_, rfl, ?_⟩))
    J1_
 ·replace c3 := Bool.eq_false_iff.mpr c3
  subst c3
  rw [if_neg (show ¬ (false = true) by decide)] at H
  J4_
  obtain ⟨t229, A400, H⟩ := H
  J7_
  have A40 := Aside0.mk A400
  clear A400
  by_cases c41 : t229 = true
  ·subst c41
   J10_
   J4_
   obtain ⟨t230, A420, H⟩ := H
   J7_
   have A42 := Aside0.mk A420
   clear A420
   by_cases c43 : t230 = true
   ·subst c43
    J10_
    J4_
    obtain ⟨t231, A440, H⟩ := H
    J7_
    have A44 := Aside0.mk A440
    clear A440
    by_cases c45 : t231 = true
    ·subst c45
     J10_
     J8_
     go_enter Try.func57, Try.ntmps57
     go_wp2_with (first | (G29_; G28_; refine box_event ?hg (N := 1) ?hd (cs := G18_) (t := 85) ?hr ?_; (case hd => rfl); (case hg => rfl); G13_; intro gb220 hg w46 hbox hb; have n0_ := Aside0.mk G52_; have n1_ := Aside0.mk (hbox); have n2_ := Aside0.mk (G14_); have n3_ := Aside0.mk (G14_); clear HB; have HB := n0_; have BK220 := n1_; have GW220 := n2_; have GE220 := n3_; clear n0_ n1_ n2_ n3_; clear hb hbox hg; have hcz47_0 : w46.cell? ⟨gb220, 0, none⟩ = some (.int .i64 a0_0) := (G53_).trans rfl; have hcz47_1 : w46.cell? ⟨gb220, 1, none⟩ = some (.int .i64 a0_1) := (G54_).trans rfl; have hcz47_2 : w46.cell? ⟨gb220, 2, none⟩ = some (.int .i64 a0_2) := (G55_).trans rfl; have hcz47_3 : w46.cell? ⟨gb220, 3, none⟩ = some (.int .i64 a0_3) := (G56_).trans rfl; have hcz47_4 : w46.cell? ⟨gb220, 4, none⟩ = some (.bool a0_4) := (G57_).trans rfl; have hcz47_5 : w46.cell? ⟨gb220, 5, none⟩ = some (.string a0_5) := (G58_).trans rfl; have hfz47_0 := blk_frozen BK220.out 0; have hfz47_1 := blk_frozen BK220.out 1; have hfz47_2 := blk_frozen BK220.out 2; have hfz47_3 := blk_frozen BK220.out 3; have hfz47_4 := blk_frozen BK220.out 4; have hfz47_5 := blk_frozen BK220.out 5) | (G23_; refine goesL_ (some 6) rfl rfl Try.func84 (by kernel_rfl) rfl G34_ rfl G1_ ?_; G61_; rintro e w' ⟨rfl, ⟨nd, rfl⟩⟩; refine ⟨_, rfl, ?_⟩) | (G27_; refine goesL_ (some 24) rfl rfl Try.func130 (by kernel_rfl) rfl #[.int .i64 a0_0] rfl G1_ ?_; G84_; rintro e w' ⟨rfl, ⟨nd, rfl⟩⟩; refine ⟨_, rfl, ?_⟩) | G87_ | (go_at_call 85; (with_reducible refine (impl_isWord.calls a0_2 true _ A44.out).mono ?_); rintro e w' ⟨rfl, ⟨nd, rfl⟩⟩))
     J1_
    ·replace c45 := Bool.eq_false_iff.mpr c45
     subst c45
     J3_
     go_enter Try.func57, Try.ntmps57
     go_wp2_with (first | (G29_; G28_; refine box_event ?hg (N := 1) ?hd (cs := G18_) (t := 85) ?hr ?_; (case hd => rfl); (case hg => rfl); G13_; intro gb220 hg w48 hbox hb; have n0_ := Aside0.mk G52_; have n1_ := Aside0.mk (hbox); have n2_ := Aside0.mk (G14_); have n3_ := Aside0.mk (G14_); clear HB; have HB := n0_; have BK220 := n1_; have GW220 := n2_; have GE220 := n3_; clear n0_ n1_ n2_ n3_; clear hb hbox hg; have hcz49_0 : w48.cell? ⟨gb220, 0, none⟩ = some (.int .i64 a0_0) := (G53_).trans rfl; have hcz49_1 : w48.cell? ⟨gb220, 1, none⟩ = some (.int .i64 a0_1) := (G54_).trans rfl; have hcz49_2 : w48.cell? ⟨gb220, 2, none⟩ = some (.int .i64 a0_2) := (G55_).trans rfl; have hcz49_3 : w48.cell? ⟨gb220, 3, none⟩ = some (.int .i64 a0_3) := (G56_).trans rfl; have hcz49_4 : w48.cell? ⟨gb220, 4, none⟩ = some (.bool a0_4) := (G57_).trans rfl; have hcz49_5 : w48.cell? ⟨gb220, 5, none⟩ = some (.string a0_5) := (G58_).trans rfl; have hfz49_0 := blk_frozen BK220.out 0; have hfz49_1 := blk_frozen BK220.out 1; have hfz49_2 := blk_frozen BK220.out 2; have hfz49_3 := blk_frozen BK220.out 3; have hfz49_4 := blk_frozen BK220.out 4; have hfz49_5 := blk_frozen BK220.out 5) | (G23_; refine goesL_ (some 6) rfl rfl Try.func84 (by kernel_rfl) rfl G34_ rfl G1_ ?_; G61_; rintro e w' ⟨rfl, ⟨nd, rfl⟩⟩; refine ⟨_, rfl, ?_⟩) | (G27_; refine goesL_ (some 24) rfl rfl Try.func130 (by kernel_rfl) rfl #[.int .i64 a0_0] rfl G1_ ?_; G84_; rintro e w' ⟨rfl, ⟨nd, rfl⟩⟩; refine ⟨_, rfl, ?_⟩) | G87_ | (go_at_call 85; (with_reducible refine (impl_isWord.calls a0_2 false _ A44.out).mono ?_); rintro e w' ⟨rfl, ⟨nd, rfl⟩⟩))
     J1_
   ·replace c43 := Bool.eq_false_iff.mpr c43
    subst c43
    J3_
    go_enter Try.func57, Try.ntmps57
    go_wp2_with (first | (G29_; G28_; refine box_event ?hg (N := 1) ?hd (cs := G18_) (t := 85) ?hr ?_; (case hd => rfl); (case hg => rfl); G13_; intro gb220 hg w50 hbox hb; have n0_ := Aside0.mk G52_; have n1_ := Aside0.mk (hbox); have n2_ := Aside0.mk (G14_); have n3_ := Aside0.mk (G14_); clear HB; have HB := n0_; have BK220 := n1_; have GW220 := n2_; have GE220 := n3_; clear n0_ n1_ n2_ n3_; clear hb hbox hg; have hcz51_0 : w50.cell? ⟨gb220, 0, none⟩ = some (.int .i64 a0_0) := (G53_).trans rfl; have hcz51_1 : w50.cell? ⟨gb220, 1, none⟩ = some (.int .i64 a0_1) := (G54_).trans rfl; have hcz51_2 : w50.cell? ⟨gb220, 2, none⟩ = some (.int .i64 a0_2) := (G55_).trans rfl; have hcz51_3 : w50.cell? ⟨gb220, 3, none⟩ = some (.int .i64 a0_3) := (G56_).trans rfl; have hcz51_4 : w50.cell? ⟨gb220, 4, none⟩ = some (.bool a0_4) := (G57_).trans rfl; have hcz51_5 : w50.cell? ⟨gb220, 5, none⟩ = some (.string a0_5) := (G58_).trans rfl; have hfz51_0 := blk_frozen BK220.out 0; have hfz51_1 := blk_frozen BK220.out 1; have hfz51_2 := blk_frozen BK220.out 2; have hfz51_3 := blk_frozen BK220.out 3; have hfz51_4 := blk_frozen BK220.out 4; have hfz51_5 := blk_frozen BK220.out 5) | (G23_; refine goesL_ (some 6) rfl rfl Try.func84 (by kernel_rfl) rfl G34_ rfl G1_ ?_; G61_; rintro e w' ⟨rfl, ⟨nd, rfl⟩⟩; refine ⟨_, rfl, ?_⟩) | (G27_; refine goesL_ (some 24) rfl rfl Try.func130 (by kernel_rfl) rfl #[.int .i64 a0_0] rfl G1_ ?_; G84_; rintro e w' ⟨rfl, ⟨nd, rfl⟩⟩; refine ⟨_, rfl, ?_⟩) | (go_at_call 130; (with_reducible refine (impl_isAddr.calls a0_1 false _ A42.out).mono ?_); rintro e w' ⟨rfl, ⟨nd, rfl⟩⟩))
    J1_
  ·replace c41 := Bool.eq_false_iff.mpr c41
   subst c41
   J3_
   go_enter Try.func57, Try.ntmps57
   go_wp2_with (first | (G29_; G28_; refine box_event ?hg (N := 1) ?hd (cs := G18_) (t := 85) ?hr ?_; (case hd => rfl); (case hg => rfl); G13_; intro gb220 hg w52 hbox hb; have n0_ := Aside0.mk G52_; have n1_ := Aside0.mk (hbox); have n2_ := Aside0.mk (G14_); have n3_ := Aside0.mk (G14_); clear HB; have HB := n0_; have BK220 := n1_; have GW220 := n2_; have GE220 := n3_; clear n0_ n1_ n2_ n3_; clear hb hbox hg; have hcz53_0 : w52.cell? ⟨gb220, 0, none⟩ = some (.int .i64 a0_0) := (G53_).trans rfl; have hcz53_1 : w52.cell? ⟨gb220, 1, none⟩ = some (.int .i64 a0_1) := (G54_).trans rfl; have hcz53_2 : w52.cell? ⟨gb220, 2, none⟩ = some (.int .i64 a0_2) := (G55_).trans rfl; have hcz53_3 : w52.cell? ⟨gb220, 3, none⟩ = some (.int .i64 a0_3) := (G56_).trans rfl; have hcz53_4 : w52.cell? ⟨gb220, 4, none⟩ = some (.bool a0_4) := (G57_).trans rfl; have hcz53_5 : w52.cell? ⟨gb220, 5, none⟩ = some (.string a0_5) := (G58_).trans rfl; have hfz53_0 := blk_frozen BK220.out 0; have hfz53_1 := blk_frozen BK220.out 1; have hfz53_2 := blk_frozen BK220.out 2; have hfz53_3 := blk_frozen BK220.out 3; have hfz53_4 := blk_frozen BK220.out 4; have hfz53_5 := blk_frozen BK220.out 5) | (G23_; refine goesL_ (some 6) rfl rfl Try.func84 (by kernel_rfl) rfl G34_ rfl G1_ ?_; G61_; rintro e w' ⟨rfl, ⟨nd, rfl⟩⟩; refine ⟨_, rfl, ?_⟩) | (G27_; refine goesL_ (some 24) rfl rfl Try.func130 (by kernel_rfl) rfl #[.int .i64 a0_0] rfl G1_ ?_; (with_reducible refine (impl_isAddr.calls a0_0 false _ A40.out).mono ?_); rintro e w' ⟨rfl, ⟨nd, rfl⟩⟩; refine ⟨_, rfl, ?_⟩))
   J1_

/-! ### impl_SumOnes: function 58 -/
def impl_SumOnes.l0 : Nat → ByteArray → Int → Int → Option (Int)
 | 0, _, _, _ => none
 | k + 1, x0, x3, x4 => if x4 < (x0.size : Int) then (if 0 ≤ x4 then (if (Int.tmod x4 2) = 0 then (if (wrap64 (x3 + (wrap64 ((wrap64 (bt x0 x4)) * 256)))) > 65535 then (impl_SumOnes.l0 k x0 (wrap64 ((wrap64 (x3 + (wrap64 ((wrap64 (bt x0 x4)) * 256)))) - 65535)) (wrap64 (x4 + 1))) else (impl_SumOnes.l0 k x0 (wrap64 (x3 + (wrap64 ((wrap64 (bt x0 x4)) * 256)))) (wrap64 (x4 + 1)))) else (if (wrap64 (x3 + (wrap64 (bt x0 x4)))) > 65535 then (impl_SumOnes.l0 k x0 (wrap64 ((wrap64 (x3 + (wrap64 (bt x0 x4)))) - 65535)) (wrap64 (x4 + 1))) else (impl_SumOnes.l0 k x0 (wrap64 (x3 + (wrap64 (bt x0 x4)))) (wrap64 (x4 + 1))))) else (none)) else (some (wrap64 (65535 - x3)))
def impl_SumOnes.f (k : Nat) (a0 : ByteArray) : Option (Int) := impl_SumOnes.l0 k a0 0 0
theorem impl_SumOnes.mono_l : ∀ k, (∀ y0 y1 y2, LeO (impl_SumOnes.l0 k y0 y1 y2) (impl_SumOnes.l0 (k + 1) y0 y1 y2))
 | 0 => fun _ _ _ r h => by simp [impl_SumOnes.l0] at h
 | k + 1 => by
  have ih0 := impl_SumOnes.mono_l k
  ·intro y0 y1 y2
   unfold impl_SumOnes.l0
   repeat' first
   | (with_reducible exact ih0 _ _ _)
   | (with_reducible exact LeO.refl _)
   | (with_reducible exact LeO.none _)
   | (with_reducible refine LeO.ite ?_ ?_)
   | (with_reducible refine LeO.bind ?_ (fun _ => ?_))
   | exact ih0 _ _ _
   | exact LeO.none _
   | refine LeO.ite ?_ ?_
   | refine LeO.bind ?_ (fun _ => ?_)
theorem impl_SumOnes.mono : ∀ a0 k, LeO (impl_SumOnes.f k a0) (impl_SumOnes.f (k + 1) a0) := by
 intro a0 k
 have ih0 := impl_SumOnes.mono_l k
 unfold impl_SumOnes.f
 repeat' first
   | (with_reducible exact ih0 _ _ _)
   | (with_reducible exact LeO.refl _)
   | (with_reducible exact LeO.none _)
   | (with_reducible refine LeO.ite ?_ ?_)
   | (with_reducible refine LeO.bind ?_ (fun _ => ?_))
   | exact ih0 _ _ _
   | exact LeO.none _
   | refine LeO.ite ?_ ?_
   | refine LeO.bind ?_ (fun _ => ?_)
set_option maxHeartbeats 8000000 in
set_option maxRecDepth 100000 in
theorem impl_SumOnes.calls (k : Nat) (a0 : ByteArray) (r : Int) (w : World) (h : impl_SumOnes.f k a0 = some r) :
  Calls Try.prog 58 #[.string a0] w fun e w' => e = .returned (.int .i64 r) ∧ Drawn0 w w' := by
 have H : (impl_SumOnes.l0 k a0 0 0) = some r := h
 clear h
 have H' := Aside0.mk H
 clear H
 go_enter Try.func58, Try.ntmps58
 go_wp2
 go_loopg [3, 4] k (fun kq v3 v4 w' => ∃ (x3_1 : Int) (x4_1 : Int), v3 = .int .i64 x3_1 ∧ v4 = .int .i64 x4_1 ∧ Aside0 (impl_SumOnes.l0 kq a0 x3_1 x4_1 = some r) ∧ Aside0 (kq ≤ k) ∧ Drawn0 w w')
 case atStart => exact ⟨(0), (0), (by be_), (by be_), H', ⟨Nat.le_refl _⟩, by repeat G60_⟩
 case round =>
  clear H'
  obtain ⟨x3_1, x4_1, rfl, rfl, HA, HK1, ⟨m1, rfl⟩⟩ := hrel
  cases gk with
  | zero => exact absurd HA.out (by simp [impl_SumOnes.l0])
  | succ k1 =>
   have H := HA.out
   clear HA
   simp only [impl_SumOnes.l0] at H
   by_cases c2 : x4_1 < (a0.size : Int)
   ·rw [if_pos c2] at H
    have c2b0 : decide (x4_1 < (a0.size : Int)) = true := decide_eq_true c2
    clear c2
    by_cases c3 : 0 ≤ x4_1
    ·rw [if_pos c3] at H
     have c3b0 : decide (0 ≤ x4_1) = true := decide_eq_true c3
     clear c3
     by_cases c5 : (Int.tmod x4_1 2) = 0
     ·rw [if_pos c5] at H
      have c5b0 : ((Int.tmod x4_1 2) == 0) = true := beq_iff_eq.mpr c5
      have c5b1 : ((Int.tmod x4_1 2) != 0) = false := bne_eq_false_iff_eq.mpr c5
      clear c5
      by_cases c6 : (wrap64 (x3_1 + (wrap64 ((wrap64 (bt a0 x4_1)) * 256)))) > 65535
      ·rw [if_pos c6] at H
       have c6b0 : decide (65535 < (wrap64 (x3_1 + (wrap64 ((wrap64 (bt a0 x4_1)) * 256))))) = true := decide_eq_true c6
       clear c6
       J2_
       case rel => exact ⟨(wrap64 ((wrap64 (x3_1 + (wrap64 ((wrap64 (bt a0 x4_1)) * 256)))) - 65535)), (wrap64 (x4_1 + 1)), (by be_), (by be_), H', G92_, by repeat G60_⟩
      ·rw [if_neg c6] at H
       have c6b0 : decide (65535 < (wrap64 (x3_1 + (wrap64 ((wrap64 (bt a0 x4_1)) * 256))))) = false := decide_eq_false c6
       clear c6
       J2_
       case rel => exact ⟨(wrap64 (x3_1 + (wrap64 ((wrap64 (bt a0 x4_1)) * 256)))), (wrap64 (x4_1 + 1)), (by be_), (by be_), H', G92_, by repeat G60_⟩
     ·rw [if_neg c5] at H
      have c5b0 : ((Int.tmod x4_1 2) == 0) = false := beq_eq_false_iff_ne.mpr c5
      have c5b1 : ((Int.tmod x4_1 2) != 0) = true := bne_iff_ne.mpr c5
      by_cases c7 : (wrap64 (x3_1 + (wrap64 (bt a0 x4_1)))) > 65535
      ·rw [if_pos c7] at H
       have c7b0 : decide (65535 < (wrap64 (x3_1 + (wrap64 (bt a0 x4_1))))) = true := decide_eq_true c7
       clear c7
       J2_
       case rel => exact ⟨(wrap64 ((wrap64 (x3_1 + (wrap64 (bt a0 x4_1)))) - 65535)), (wrap64 (x4_1 + 1)), (by be_), (by be_), H', G92_, by repeat G60_⟩
      ·rw [if_neg c7] at H
       have c7b0 : decide (65535 < (wrap64 (x3_1 + (wrap64 (bt a0 x4_1))))) = false := decide_eq_false c7
       clear c7
       J2_
       case rel => exact ⟨(wrap64 (x3_1 + (wrap64 (bt a0 x4_1)))), (wrap64 (x4_1 + 1)), (by be_), (by be_), H', G92_, by repeat G60_⟩
    ·rw [if_neg c3] at H
     exact absurd H (by simp)
   ·rw [if_neg c2] at H
    have c2b0 : decide (x4_1 < (a0.size : Int)) = false := decide_eq_false c2
    clear c2
    J8_
    go_wp2
    J5_

/-! ### impl_byteTexts: function 98 -/
def impl_byteTexts.l0 : Nat → List Int → List Int → Int → Int → Option (ByteArray)
 | 0, _, _, _, _ => none
 | k + 1, x3, x7, x8, x9 => if x9 < x8 then (if 0 ≤ x9 then (if x9 < (x7.length : Int) then (if x3.length < 140737488355328 then (impl_byteTexts.l0 k (x3 ++ [(rd x7 x9) % 256]) x7 x8 (wrap64 (x9 + 1))) else (none)) else (none)) else (none)) else (some (strOfNums x3))
def impl_byteTexts.f (k : Nat) (l0 : List Int) : Option (ByteArray) := impl_byteTexts.l0 k (([] : List Int)) l0 (l0.length : Int) 0
theorem impl_byteTexts.mono_l : ∀ k, (∀ y0 y1 y2 y3, LeO (impl_byteTexts.l0 k y0 y1 y2 y3) (impl_byteTexts.l0 (k + 1) y0 y1 y2 y3))
 | 0 => fun _ _ _ _ r h => by simp [impl_byteTexts.l0] at h
 | k + 1 => by
  have ih0 := impl_byteTexts.mono_l k
  ·intro y0 y1 y2 y3
   unfold impl_byteTexts.l0
   repeat' first
   | (with_reducible exact ih0 _ _ _ _)
   | (with_reducible exact LeO.refl _)
   | (with_reducible exact LeO.none _)
   | (with_reducible refine LeO.ite ?_ ?_)
   | (with_reducible refine LeO.bind ?_ (fun _ => ?_))
   | exact ih0 _ _ _ _
   | exact LeO.none _
   | refine LeO.ite ?_ ?_
   | refine LeO.bind ?_ (fun _ => ?_)
theorem impl_byteTexts.mono : ∀ a0 k, LeO (impl_byteTexts.f k a0) (impl_byteTexts.f (k + 1) a0) := by
 intro a0 k
 have ih0 := impl_byteTexts.mono_l k
 unfold impl_byteTexts.f
 repeat' first
   | (with_reducible exact ih0 _ _ _ _)
   | (with_reducible exact LeO.refl _)
   | (with_reducible exact LeO.none _)
   | (with_reducible refine LeO.ite ?_ ?_)
   | (with_reducible refine LeO.bind ?_ (fun _ => ?_))
   | exact ih0 _ _ _ _
   | exact LeO.none _
   | refine LeO.ite ?_ ?_
   | refine LeO.bind ?_ (fun _ => ?_)
set_option maxHeartbeats 8000000 in
set_option maxRecDepth 100000 in
theorem impl_byteTexts.calls (k : Nat) (A0 : Option Addr) (c0 : Nat) (l0 : List Int) (r : ByteArray) (w : World) (hr0 : Kd.C (Kd.int .i64) w A0 l0.length l0) (hc0 : l0.length ≤ c0) (h : impl_byteTexts.f k l0 = some r) :
  Calls Try.prog 98 #[.slice A0 l0.length c0] w fun e w' => e = .returned (.string r) ∧ Below w.heap.size w w' := by
 J13_
 J12_
 have H : (impl_byteTexts.l0 k (([] : List Int)) l0 (l0.length : Int) 0) = some r := h
 clear h
 obtain ⟨y232, hy232⟩ : ∃ y_ : List Int, y_ = (([] : List Int)) := ⟨_, rfl⟩
 replace H : (impl_byteTexts.l0 k y232 l0 (l0.length : Int) 0) = some r := by first | (rw [hy232]; with_reducible exact H) | (have H2_ := (Option.bind_some _ _).symm.trans H; rw [hy232]; with_reducible exact H2_) | G35_ | with_reducible exact H | (rw [hy232]; exact H) | exact H
 have Ny232 := Aside0.mk hy232
 clear hy232
 have H' := Aside0.mk H
 clear H
 go_enter Try.func98, Try.ntmps98
 go_wp2_with (first | ((with_reducible refine gate_dst (N := 6) rfl ?_); refine Kd.R_lit (Kd.int .u8) _ 5 ?hg (N := 6) ?hd (xs := ([] : List Int)) (inner := []) (ok := fun _ => True) (okp := fun _ => True) ?hr ?hp (fun _ hk => hk) trivial (Below.refl _ _) (Nat.le_refl _) (by simp) ?_; (case hd => rfl); (case hg => rfl); G13_; (case hp => exact (Reps.none _ _)); intro v233 w2 ho3 hb hg_ hnew_; clear hg_ hnew_; (first | rw [← Ny232.out] at ho3 | (simp only [Int.reduceToNat] at ho3; rw [← Ny232.out] at ho3)); have n0_ := Aside0.mk (Kd.R_lower ho3 (below_size G2_)); have n1_ := Aside0.mk G52_; clear HB; have HO234 := n0_; have HB := n1_; clear n0_ n1_; clear hb ho3))
 go_loopg [3, 9] k (fun kq v3 v9 w' => ∃ (x3_1 : List Int) (x9_1 : Int), v9 = .int .i64 x9_1 ∧ Aside0 (impl_byteTexts.l0 kq x3_1 l0 (l0.length : Int) x9_1 = some r) ∧ Aside0 (kq ≤ k) ∧ Aside0 (Kd.R (Kd.int .u8) 5 w' w.heap.size (fun _ => True) v3 x3_1) ∧ Aside0 (Below w.heap.size w w'))
 case atStart => exact ⟨(y232), (0), (by be_), H', ⟨Nat.le_refl _⟩, ⟨by G25_; exact HO234.out⟩, ⟨by repeat G49_⟩⟩
 case round =>
  clear H'
  try clear p2
  obtain ⟨x3_1, x9_1, rfl, HA, HK1, HO_3, HB⟩ := hrel
  cases gk with
  | zero => exact absurd HA.out (by simp [impl_byteTexts.l0])
  | succ k1 =>
   have H := HA.out
   clear HA
   simp only [impl_byteTexts.l0] at H
   by_cases c4 : x9_1 < (l0.length : Int)
   ·rw [if_pos c4] at H
    have c4b0 : decide (x9_1 < (l0.length : Int)) = true := decide_eq_true c4
    clear c4
    by_cases c5 : 0 ≤ x9_1
    ·rw [if_pos c5] at H
     have c5b0 : decide (0 ≤ x9_1) = true := decide_eq_true c5
     clear c5
     by_cases c6 : x9_1 < (l0.length : Int)
     ·rw [if_pos c6] at H
      have c6b0 : decide (x9_1 < (l0.length : Int)) = true := decide_eq_true c6
      clear c6
      by_cases c7 : x3_1.length < 140737488355328
      ·rw [if_pos c7] at H
       have LMc7 := Aside0.mk c7
       clear c7
       obtain ⟨y236, hy236⟩ : ∃ y_ : List Int, y_ = (x3_1 ++ [(rd l0 x9_1) % 256]) := ⟨_, rfl⟩
       replace H : (impl_byteTexts.l0 k1 y236 l0 (l0.length : Int) (wrap64 (x9_1 + 1))) = some r := by first | (rw [hy236]; with_reducible exact H) | (have H2_ := (Option.bind_some _ _).symm.trans H; rw [hy236]; with_reducible exact H2_) | G35_ | with_reducible exact H | (rw [hy236]; exact H) | exact H
       have Ny236 := Aside0.mk hy236
       clear hy236
       have H' := Aside0.mk H
       clear H
       have p235 : 0 ≤ (x9_1 : Int) := of_decide_eq_true G78_
       have q235 : x9_1 < (l0.length : Int) := of_decide_eq_true G78_
       obtain ⟨ad235, e235, hx235_0⟩ := Kd.at_int HR0.out x9_1 p235 q235
       cases e235
       replace hx235_0 := (HB.out.cell (World.block_lt_of_cell? w _ hx235_0)).trans hx235_0
       replace p235 := eq_true p235
       replace q235 := eq_true q235
       go_wp2_with (first | ((with_reducible refine gate_builtin (b := .append) (xs := #[.tmp 13, .tmp 16]) rfl ?_); at_builtin; refine Kd.R_append (Kd.int .u8) (w0 := w) w.heap.size rfl (.tmp 13) (.tmp 16) 45 5 (.int .u8 0) 1 rfl Try.underlying45 info5 rfl (by decide) (by omega) u3 x3_1 ((rd l0 x9_1) % 256) [.int .u8 ((rd l0 x9_1) % 256)] (fun _ => True) (fun _ => False) rfl rfl ?aP (fun _ hk => hk.elim) ?aF ?aO ?aB ?aS ?aL ?_; (case aP => exact rfl); (case aB => exact G2_); (case aF => exact (fun _ _ => trivial)); (case aO => exact (by G25_; exact HO_3.out)); (case aS => exact (below_size G2_)); (case aL => have := LMc7.out; omega); intro v237 w8 ho hb hg hat; rw [← Ny236.out] at ho; have n0_ := Aside0.mk (hb); have n1_ := Aside0.mk (ho); clear HB; clear HO_3; have HB := n0_; have HO238 := n1_; clear n0_ n1_; clear ho hb hg hat))
       go_roundg k1
       case measure => have := HK1.out; omega
       case rel => exact ⟨(y236), (wrap64 (x9_1 + 1)), (by be_), H', G92_, ⟨by G25_; exact HO238.out⟩, ⟨by repeat G49_⟩⟩
      ·rw [if_neg c7] at H
       exact absurd H (by simp)
     ·exact absurd H (by exfalso; (try have h0_ := of_decide_eq_true c4b0); (try have g0_ := c4); omega)
    ·rw [if_neg c5] at H
     exact absurd H (by simp)
   ·rw [if_neg c4] at H
    have c4b0 : decide (x9_1 < (l0.length : Int)) = false := decide_eq_false c4
    clear c4
    J8_
    have hcv9 := own_string (P := Try.prog) Try.underlying45 Try.underlying5 Try.underlying9 (Kd.own_of_R HO_3.out)
    go_wp2
    J9_

/-! ### impl_wordText: function 97 -/
def impl_wordText.f (k : Nat) (a0 : Int) : Option (ByteArray) := (impl_byteTexts.f k (([Go.bits .and .i64 (a0 / 256) 255, Go.bits .and .i64 a0 255] : List Int))).bind fun t242 => (some t242)
theorem impl_wordText.mono : ∀ a0 k, LeO (impl_wordText.f k a0) (impl_wordText.f (k + 1) a0) := by
 intro a0 k
 unfold impl_wordText.f
 repeat' first
   | (with_reducible exact impl_byteTexts.mono _ _)
   | (with_reducible exact LeO.refl _)
   | (with_reducible exact LeO.none _)
   | (with_reducible refine LeO.ite ?_ ?_)
   | (with_reducible refine LeO.bind ?_ (fun _ => ?_))
   | exact impl_byteTexts.mono _ _
   | exact LeO.none _
   | refine LeO.ite ?_ ?_
   | refine LeO.bind ?_ (fun _ => ?_)
set_option maxHeartbeats 8000000 in
set_option maxRecDepth 100000 in
theorem impl_wordText.calls (k : Nat) (a0 : Int) (r : ByteArray) (w : World) (h : impl_wordText.f k a0 = some r) :
  Calls Try.prog 97 #[.int .i64 a0] w fun e w' => e = .returned (.string r) ∧ Below w.heap.size w w' := by
 J12_
 have H : ((impl_byteTexts.f k (([Go.bits .and .i64 (a0 / 256) 255, Go.bits .and .i64 a0 255] : List Int))).bind fun t242 => (some t242)) = some r := h
 clear h
 obtain ⟨y239, hy239⟩ : ∃ y_ : List Int, y_ = (([Go.bits .and .i64 (a0 / 256) 255, Go.bits .and .i64 a0 255] : List Int)) := ⟨_, rfl⟩
 replace H : ((impl_byteTexts.f k y239).bind fun t242 => (some t242)) = some r := by first | (rw [hy239]; with_reducible exact H) | (have H2_ := (Option.bind_some _ _).symm.trans H; rw [hy239]; with_reducible exact H2_) | G35_ | with_reducible exact H | (rw [hy239]; exact H) | exact H
 have Ny239 := Aside0.mk hy239
 clear hy239
 J4_
 obtain ⟨t242, A20, H⟩ := H
 J7_
 J11_
 J8_
 go_enter Try.func97, Try.ntmps97
 go_wp2_with (first | ((with_reducible refine gate_dst (N := 8) rfl ?_); refine Kd.R_lit (Kd.int .i64) _ 3 ?hg (N := 8) ?hd (xs := ([Go.bits .and .i64 (a0 / 256) 255, Go.bits .and .i64 a0 255] : List Int)) (inner := [.int .i64 (Go.bits .and .i64 (a0 / 256) 255), .int .i64 (Go.bits .and .i64 a0 255)]) (ok := fun _ => True) (okp := fun _ => True) ?hr ?hp (fun _ hk => hk) trivial (Below.refl _ _) (Nat.le_refl _) (by simp) ?_; (case hd => rfl); (case hg => rfl); G13_; (case hp => exact (Reps.one (show Kd.M (Kd.int .i64) _ _ _ (Go.bits .and .i64 (a0 / 256) 255) [.int .i64 (Go.bits .and .i64 (a0 / 256) 255)] from rfl) (Reps.one (show Kd.M (Kd.int .i64) _ _ _ (Go.bits .and .i64 a0 255) [.int .i64 (Go.bits .and .i64 a0 255)] from rfl) (Reps.none _ _)))); intro v240 w3 ho4 hb hg_ hnew_; clear hg_ hnew_; (first | rw [← Ny239.out] at ho4 | (simp only [Int.reduceToNat] at ho4; rw [← Ny239.out] at ho4)); have n0_ := Aside0.mk (Kd.R_lower ho4 (below_size G2_)); have n1_ := Aside0.mk G52_; clear HB; have HO241 := n0_; have HB := n1_; clear n0_ n1_; clear hb ho4; obtain ⟨Ao5, co5, eo5⟩ := Kd.R_slice HO241.out; subst eo5) | ((with_reducible refine gate_callee (f := 98) rfl ?_); refine goesL_ (some 9) rfl rfl Try.func98 (by kernel_rfl) rfl #[.slice Ao5 y239.length co5] rfl G1_ ?_; (with_reducible refine (impl_byteTexts.calls k _ _ y239 t242 _ ?side1 ?side2 A2.out).mono ?_); (case side1 => repeat (first | exact (Kd.R_reads' HO241.out).2.2 | G80_ | G81_ | G85_)); (case side2 => exact (Kd.R_reads' HO241.out).2.1); rintro e w6 ⟨rfl, hb⟩; refine ⟨_, rfl, ?_⟩; have n0_ := Aside0.mk (Kd.R_below (by G25_; exact HO241.out) hb); have n1_ := Aside0.mk G52_; clear HO241; clear HB; have HO241 := n0_; have HB := n1_; clear n0_ n1_; (try clear hb); (try clear hb2); (try clear hk); (try clear hi)))
 J9_

/-! ### impl_flag: function 129 -/
def impl_flag.f (a0 : Bool) : Option (Int) := if a0 = true then (some 1) else (some 0)
set_option maxHeartbeats 8000000 in
set_option maxRecDepth 100000 in
theorem impl_flag.calls (a0 : Bool) (r : Int) (w : World) (h : impl_flag.f a0 = some r) :
  Calls Try.prog 129 #[.bool a0] w fun e w' => e = .returned (.int .i64 r) ∧ Drawn0 w w' := by
 have H : (if a0 = true then (some 1) else (some 0)) = some r := h
 clear h
 by_cases c2 : a0 = true
 ·subst c2
  J10_
  J8_
  go_enter Try.func129, Try.ntmps129
  go_wp2
  J5_
 ·replace c2 := Bool.eq_false_iff.mpr c2
  subst c2
  J3_
  go_enter Try.func129, Try.ntmps129
  go_wp2
  J5_

end Go.Proofs.Ytjijbffecppeiaa.QFnDgrams
