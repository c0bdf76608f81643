/- Functions that a law reaches, as functions of Lean, and the walks that show that the calls come to their answers: written by a program of this project out of the translation. No condition. -/
import Derived.Test.YtjijbffecppeiaaQFnExactShutx0
import Derived.Test.YtjijbffecppeiaaQFnExactShutx5
import Derived.Test.YtjijbffecppeiaaShort2
import Derived.Test.YtjijbffecppeiaaShort
namespace Go.Proofs.Ytjijbffecppeiaa.QFnExactShut
open Go.RowKit Go.Proofs.YtjijbffecppeiaaW.PrintWords Go.Proofs.YtjijbffecppeiaaW.PrintLast Go.Proofs.YtjijbffecppeiaaW.PrintMore Go.Proofs.Ytjijbffecppeiaa.Short
attribute [local go_sem] max2_int min2_int max_two min_two max_three min_three max_four min_four   -- for this text's walks alone
set_option linter.unusedVariables false
set_option linter.unusedSimpArgs false

/-! ### impl_copyStream: function 134 -/
def impl_copyStream.f (a0_0 : Int) (a0_1 : Int) (a0_2 : Int) (a0_3 : Int) (a0_4 : ByteArray) (a0_5 : Int) (a0_6 : Int) (a0_7 : Bool) (a0_8 : ByteArray) (l0_9 : List (S112)) (a0_10 : Bool) (a0_11 : Int) (a0_12 : Int) : Option (Int × Int × Int × Int × ByteArray × Int × Int × Bool × ByteArray × (List (S112)) × Bool × Int × Int) := (some (([] : List (S112)) : List (S112))).bind fun y210 => (if y210.length + l0_9.length < 5864062014805 then (some (a0_0, a0_1, a0_2, a0_3, a0_4, a0_5, a0_6, a0_7, a0_8, (y210 ++ l0_9), a0_10, a0_11, a0_12)) else (none))
set_option hygiene false
local macro:max "G0_" : tactic => `(tactic| (with_reducible repeat (first | refine blk_drewN ?_ _ | refine blk_drew ?_ | refine blk_alloc ?_ _)))
local macro:max "G1_" : term => `(#[.int .i64 a0_0, .int .i64 a0_1, .int .i64 a0_2, .int .i64 a0_3, .string a0_4, .int .i64 a0_5, .int .i64 a0_6, .bool a0_7, .string a0_8, .slice A0_9 l0_9.length c0_9, .bool a0_10, .int .i64 a0_11, .int .i64 a0_12])
local macro:max "G2_" : term => `(#[.int .i64 0, .int .i64 0, .int .i64 0, .int .i64 0, .string (⟨#[]⟩ : ByteArray), .int .i64 0, .int .i64 0, .bool false, .string (⟨#[]⟩ : ByteArray), .slice none 0 0, .bool false, .int .i64 0, .int .i64 0])
local macro:max "G3_" : tactic => `(tactic| (first | (with_reducible first | exact HB.out | apply below_alloc | apply pw_below_drewN | apply below_drew1) | exact HB.out))
local macro:max "G4_" : term => `((by repeat (first | (with_reducible first | exact HB.out | apply below_alloc | apply pw_below_drewN | apply below_drew1 | refine below_set ?_ GE216.out | refine below_set ?_ GE217.out) | exact HB.out)))
local macro:max "G5_" : tactic => `(tactic| (first | (with_reducible first | exact HB.out | apply below_alloc | apply pw_below_drewN | apply below_drew1 | refine below_set ?_ GE216.out | refine below_set ?_ GE217.out | refine below_set ?_ GE233.out) | exact HB.out))
local macro:max "G6_" : tactic => `(tactic| (with_reducible repeat (first | apply Kd.R_alloc | apply Kd.R_drewN | apply Kd.R_drew)))
local macro:max "G7_" : term => `((Kd.R_far (p := ⟨gb233, 8, none⟩) (Kd.R_far (p := ⟨gb233, 7, none⟩) (Kd.R_far (p := ⟨gb233, 6, none⟩) (Kd.R_far (p := ⟨gb233, 5, none⟩) (Kd.R_far (p := ⟨gb233, 4, none⟩) (Kd.R_far (p := ⟨gb233, 3, none⟩) (Kd.R_far (p := ⟨gb233, 2, none⟩) (Kd.R_far (p := ⟨gb233, 1, none⟩) (Kd.R_far (p := ⟨gb233, 0, none⟩) (Kd.R_types HO229.out BK233.out (by decide)) (fun _ hk => hk.2) (.int .i64 t218)) (fun _ hk => hk.2) (.int .i64 t219)) (fun _ hk => hk.2) (.int .i64 t220)) (fun _ hk => hk.2) (.int .i64 t221)) (fun _ hk => hk.2) (.string t222)) (fun _ hk => hk.2) (.int .i64 t223)) (fun _ hk => hk.2) (.int .i64 t224)) (fun _ hk => hk.2) (.bool t225)) (fun _ hk => hk.2) (.string t226)))
local macro:max "G8_" : term => `((by (try simp only [List.map_toArray, List.map_cons, List.map_nil]); first | done | rfl | (simp only [List.length_drop, List.length_take]; rfl)))
local macro:max "G9_" : term => `((by repeat (first | (with_reducible first | exact HB.out | apply below_alloc | apply pw_below_drewN | apply below_drew1 | refine below_set ?_ GE216.out) | exact HB.out)))
local macro:max "G10_" : term => `((blk_below (g := gb216) (o := .cells G1_ 29 (0, 0)) (by G0_; refine blk_far ?_ NB216_233.out _; G0_; refine blk_far ?_ NB216_233.out _; G0_; refine blk_far ?_ NB216_233.out _; G0_; refine blk_far ?_ NB216_233.out _; G0_; refine blk_far ?_ NB216_233.out _; G0_; refine blk_far ?_ NB216_233.out _; G0_; refine blk_far ?_ NB216_233.out _; G0_; refine blk_far ?_ NB216_233.out _; G0_; refine blk_far ?_ NB216_233.out _; G0_; refine blk_far ?_ NB216_233.out _; G0_; refine blk_far ?_ NB216_233.out _; G0_; refine blk_far ?_ NB216_233.out _; G0_; refine blk_far ?_ NB216_233.out _; G0_; exact BK216.out) hb))
local macro:max "G11_" : term => `((blk_below (g := gb217) (o := .cells G2_ 29 (0, 0)) (by G0_; refine blk_far ?_ NB217_233.out _; G0_; refine blk_far ?_ NB217_233.out _; G0_; refine blk_far ?_ NB217_233.out _; G0_; refine blk_far ?_ NB217_233.out _; G0_; refine blk_far ?_ NB217_233.out _; G0_; refine blk_far ?_ NB217_233.out _; G0_; refine blk_far ?_ NB217_233.out _; G0_; refine blk_far ?_ NB217_233.out _; G0_; refine blk_far ?_ NB217_233.out _; G0_; refine blk_far ?_ NB217_233.out _; G0_; refine blk_far ?_ NB217_233.out _; G0_; refine blk_far ?_ NB217_233.out _; G0_; refine blk_far ?_ NB217_233.out _; G0_; exact BK217.out) hb))
local macro:max "G12_" : term => `(#[.int .i64 t218, .int .i64 t219, .int .i64 t220, .int .i64 t221, .string (⟨#[]⟩ : ByteArray), .int .i64 0, .int .i64 0, .bool false, .string (⟨#[]⟩ : ByteArray), .slice none 0 0, .bool false, .int .i64 0, .int .i64 0])
local macro:max "G13_" : term => `(#[.int .i64 t218, .int .i64 t219, .int .i64 t220, .int .i64 0, .string (⟨#[]⟩ : ByteArray), .int .i64 0, .int .i64 0, .bool false, .string (⟨#[]⟩ : ByteArray), .slice none 0 0, .bool false, .int .i64 0, .int .i64 0])
local macro:max "G14_" : term => `(#[.int .i64 t218, .int .i64 t219, .int .i64 0, .int .i64 0, .string (⟨#[]⟩ : ByteArray), .int .i64 0, .int .i64 0, .bool false, .string (⟨#[]⟩ : ByteArray), .slice none 0 0, .bool false, .int .i64 0, .int .i64 0])
local macro:max "G15_" : term => `(#[.int .i64 t218, .int .i64 0, .int .i64 0, .int .i64 0, .string (⟨#[]⟩ : ByteArray), .int .i64 0, .int .i64 0, .bool false, .string (⟨#[]⟩ : ByteArray), .slice none 0 0, .bool false, .int .i64 0, .int .i64 0])
local macro:max "G16_" : term => `(#[.int .i64 t218, .int .i64 t219, .int .i64 t220, .int .i64 t221, .string t222, .int .i64 t223, .int .i64 0, .bool false, .string (⟨#[]⟩ : ByteArray), .slice none 0 0, .bool false, .int .i64 0, .int .i64 0])
local macro:max "G17_" : term => `(#[.int .i64 t218, .int .i64 t219, .int .i64 t220, .int .i64 t221, .string t222, .int .i64 0, .int .i64 0, .bool false, .string (⟨#[]⟩ : ByteArray), .slice none 0 0, .bool false, .int .i64 0, .int .i64 0])
local macro:max "G18_" : term => `(#[.int .i64 t218, .int .i64 t219, .int .i64 t220, .int .i64 t221, .string t222, .int .i64 t223, .int .i64 t224, .bool false, .string (⟨#[]⟩ : ByteArray), .slice none 0 0, .bool false, .int .i64 0, .int .i64 0])
local macro:max "G19_" : term => `(#[.int .i64 t218, .int .i64 t219, .int .i64 t220, .int .i64 t221, .string t222, .int .i64 t223, .int .i64 t224, .bool t225, .string (⟨#[]⟩ : ByteArray), .slice none 0 0, .bool false, .int .i64 0, .int .i64 0])
local macro:max "G20_" : term => `((fun _ hk => hk.2))
local macro:max "G21_" : term => `((by first | (with_reducible assumption) | assumption))
local macro:max "G22_" : tactic => `(tactic| (case hr => first | (go_simp; done) | (go_simp; rfl)))
local macro:max "G23_" : tactic => `(tactic| (first | exact (Kd.C_below HR0_9.out HB.out) | (with_reducible refine Kd.C_alloc ?_ _) | (with_reducible refine Kd.C_drewN ?_ _) | (with_reducible refine Kd.C_drew ?_)))
local macro:max "G24_" : tactic => `(tactic| (first | (with_reducible first | exact HK.out | apply Kept.alloc | apply Kept.drewN | apply Kept.drew) | exact HK.out))
local macro:max "G25_" : term => `((blk_lt (g := gb216) (o := .cells G1_ 29 (0, 0)) (by G0_; exact BK216.out)))
local macro:max "G26_" : term => `(#[.int .i64 t218, .int .i64 t219, .int .i64 t220, .int .i64 t221, .string t222, .int .i64 t223, .int .i64 t224, .bool t225, .string t226, .slice none 0 0, .bool false, .int .i64 0, .int .i64 0])
local macro:max "G27_" : tactic => `(tactic| (first | (with_reducible first | exact HB.out | apply below_alloc | apply pw_below_drewN | apply below_drew1 | refine below_set ?_ GE208.out | refine below_set ?_ GE209.out) | exact HB.out))
local macro:max "G28_" : term => `((blk_below (g := gb216) (o := .cells G1_ 29 (0, 0)) (by G0_; exact BK216.out) hb))
local macro:max "G29_" : tactic => `(tactic| (with_reducible refine (impl_copyStream.calls a0_0 a0_1 a0_2 a0_3 a0_4 a0_5 a0_6 a0_7 a0_8 _ _ l0_9 a0_10 a0_11 a0_12 t218 t219 t220 t221 t222 t223 t224 t225 t226 t227 t230 t231 t232 _ ?side1 ?side2 A2.out).mono ?_))
local macro:max "G30_" : term => `((blk_below (g := gb217) (o := .cells G2_ 29 (0, 0)) (by G0_; exact BK217.out) hb))
local macro:max "G31_" : term => `((blk_lt (g := gb217) (o := .cells G2_ 29 (0, 0)) (by G0_; exact BK217.out)))
local macro:max "G32_" : term => `((by rw [hg]; exact (below_size (by repeat G3_)) : w.heap.size ≤ gb216))
local macro:max "G33_" : term => `((by repeat (first | (with_reducible first | exact HB.out | apply below_alloc | apply pw_below_drewN | apply below_drew1 | refine below_set ?_ GE208.out) | exact HB.out)))
local macro:max "G34_" : tactic => `(tactic| (first | (with_reducible first | exact HB.out | apply below_alloc | apply pw_below_drewN | apply below_drew1 | refine below_set ?_ GE247.out) | exact HB.out))
local macro:max "G35_" : tactic => `(tactic| (have H2_ := (Option.bind_some _ _).symm.trans H; with_reducible exact H2_))
local macro:max "G36_" : term => `((.slice A0_9 l0_9.length c0_9))
local macro:max "G37_" : term => `((by rw [hg]; exact (below_size G4_) : w.heap.size ≤ gb233))
local macro:max "G38_" : term => `((by rw [hg]; exact (below_size G9_) : w.heap.size ≤ gb217))
local macro:max "G39_" : tactic => `(tactic| (with_reducible refine gate_dst (N := 2) rfl ?_))
local macro:max "G40_" : term => `((Kd.R_far (p := ⟨gb217, 8, none⟩) (Kd.R_far (p := ⟨gb217, 7, none⟩) (Kd.R_far (p := ⟨gb217, 6, none⟩) (Kd.R_far (p := ⟨gb217, 5, none⟩) (Kd.R_far (p := ⟨gb217, 4, none⟩) (Kd.R_far (p := ⟨gb217, 3, none⟩) (Kd.R_far (p := ⟨gb217, 2, none⟩) (Kd.R_far (p := ⟨gb217, 1, none⟩) (Kd.R_far (p := ⟨gb217, 0, none⟩) (Kd.R_types HO229.out BK217.out (by decide)) G20_ (.int .i64 t218)) G20_ (.int .i64 t219)) G20_ (.int .i64 t220)) G20_ (.int .i64 t221)) G20_ (.string t222)) G20_ (.int .i64 t223)) G20_ (.int .i64 t224)) G20_ (.bool t225)) G20_ (.string t226)))
local macro:max "G41_" : term => `((by have h_ : (x5_1 : Int) < ((x0_1.length : Int) : Int) := of_decide_eq_true G21_; first | exact h_ | (have e_ := (Kd.R_reads' HO_0.out).1; omega) | simpa using h_))
local macro:max "G42_" : term => `((below_step (by repeat G3_) hb))
local macro:max "G43_" : term => `(#[.int .i64 t218, .int .i64 t219, .int .i64 t220, .int .i64 t221, .string t222, .int .i64 t223, .int .i64 t224, .bool t225, .string t226, .slice Ao30 t227.length co30, .bool t230, .int .i64 t231, .int .i64 t232])
local macro:max "G44_" : term => `(#[.int .i64 t218, .int .i64 t219, .int .i64 t220, .int .i64 t221, .string t222, .int .i64 t223, .int .i64 t224, .bool t225, .string t226, .slice Ao45 t227.length co45, .bool t230, .int .i64 t231, .int .i64 t232])
local macro:max "G45_" : term => `(#[.int .i64 t218, .int .i64 t219, .int .i64 t220, .int .i64 t221, .string t222, .int .i64 t223, .int .i64 t224, .bool t225, .string t226, .slice Ao30 t227.length co30, .bool t230, .int .i64 t231, .int .i64 0])
local macro:max "G46_" : term => `(#[.int .i64 t218, .int .i64 t219, .int .i64 t220, .int .i64 t221, .string t222, .int .i64 t223, .int .i64 t224, .bool t225, .string t226, .slice Ao45 t227.length co45, .bool t230, .int .i64 t231, .int .i64 0])
local macro:max "G47_" : term => `(#[.int .i64 t218, .int .i64 t219, .int .i64 t220, .int .i64 t221, .string t222, .int .i64 t223, .int .i64 t224, .bool t225, .string t226, .slice Ao30 t227.length co30, .bool false, .int .i64 0, .int .i64 0])
local macro:max "G48_" : term => `(#[.int .i64 t218, .int .i64 t219, .int .i64 t220, .int .i64 t221, .string t222, .int .i64 t223, .int .i64 t224, .bool t225, .string t226, .slice Ao45 t227.length co45, .bool false, .int .i64 0, .int .i64 0])
local macro:max "G49_" : term => `((by rw [hg]; exact (below_size (by repeat G3_)) : w.heap.size ≤ gb247))
local macro:max "G50_" : term => `(#[.int .i64 t218, .int .i64 t219, .int .i64 t220, .int .i64 t221, .string t222, .int .i64 t223, .int .i64 t224, .bool t225, .string t226, .slice Ao30 t227.length co30, .bool t230, .int .i64 0, .int .i64 0])
local macro:max "G51_" : term => `(#[.int .i64 t218, .int .i64 t219, .int .i64 t220, .int .i64 t221, .string t222, .int .i64 t223, .int .i64 t224, .bool t225, .string t226, .slice Ao45 t227.length co45, .bool t230, .int .i64 0, .int .i64 0])
local macro:max "G52_" : term => `((fun k_ => (P0_ k_ ∨ w.heap.size ≤ k_)))
local macro:max "G53_" : tactic => `(tactic| (case side2 => exact HC0_9.out))
local macro:max "G54_" : tactic => `(tactic| (first | (with_reducible first | exact HK.out | apply Kept.alloc | apply Kept.drewN | apply Kept.drew | refine Kept.setCell ?_ (.inr GW241.out) _) | exact HK.out))
local macro:max "G55_" : tactic => `(tactic| (first | (with_reducible first | exact HB.out | apply below_alloc | apply pw_below_drewN | apply below_drew1 | refine below_set ?_ GE241.out) | exact HB.out))
local macro:max "G56_" : tactic => `(tactic| (with_reducible refine (impl_StreamOk.calls k a0_0 a0_1 a0_2 a0_3 a0_4 a0_5 a0_6 a0_7 a0_8 _ _ l0_9 a0_10 a0_11 a0_12 true _ ?side1 ?side2 A3.out).mono ?_))
local macro:max "G57_" : term => `((.slice (some ⟨go5, 0, none⟩) x0_1.length co8))
local macro:max "G58_" : tactic => `(tactic| (with_reducible refine gate_dst (N := 1) rfl ?_))
local macro:max "G59_" : term => `((blk_cell BK216.out 10))
local macro:max "G60_" : term => `((blk_cell BK216.out 11))
local macro:max "G61_" : term => `((blk_cell BK216.out 12))
local macro:max "G62_" : term => `((blk_cell BK216.out 0))
local macro:max "G63_" : term => `((blk_cell BK216.out 1))
local macro:max "G64_" : term => `((blk_cell BK216.out 2))
local macro:max "G65_" : term => `((blk_cell BK216.out 3))
local macro:max "G66_" : term => `((blk_cell BK216.out 4))
local macro:max "G67_" : term => `((blk_cell BK216.out 5))
local macro:max "G68_" : term => `((blk_cell BK216.out 6))
local macro:max "G69_" : term => `((blk_cell BK216.out 7))
local macro:max "G70_" : term => `((blk_cell BK216.out 8))
local macro:max "G71_" : term => `((blk_cell BK216.out 9))
local macro:max "G72_" : tactic => `(tactic| (case side1 => exact Kd.C_below HR0_9.out (by repeat G5_)))
local macro:max "G73_" : term => `((by rw [hg]; exact Nat.ne_of_gt G25_ : gb217 ≠ gb216))
local macro:max "G74_" : term => `((by rw [hg]; exact Nat.ne_of_gt G25_ : gb233 ≠ gb216))
local macro:max "G75_" : term => `((by rw [hg]; exact Nat.ne_of_gt G31_ : gb233 ≠ gb217))
local macro:max "G76_" : term => `((by rw [hg]; exact Nat.ne_of_lt G25_ : gb216 ≠ gb217))
local macro:max "G77_" : term => `((by rw [hg]; exact Nat.ne_of_lt G25_ : gb216 ≠ gb233))
local macro:max "G78_" : term => `((by rw [hg]; exact Nat.ne_of_lt G31_ : gb217 ≠ gb233))
local macro:max "G79_" : tactic => `(tactic| (with_reducible refine gate_callee (f := 134) rfl ?_))
local macro:max "G80_" : tactic => `(tactic| (with_reducible refine gate_callee (f := 18) rfl ?_))
local macro:max "G81_" : tactic => `(tactic| (with_reducible refine (laws_heldLateS.calls k _ _ l0_9 a1 t248 _ ?side1 ?side2 A3.out).mono ?_))
local macro:max "G82_" : term => `((blk_cell BK233.out 10))
local macro:max "G83_" : term => `((blk_cell BK233.out 11))
local macro:max "G84_" : term => `((blk_cell BK233.out 12))
local macro:max "G85_" : tactic => `(tactic| (case side1 => repeat G23_))
local macro:max "G86_" : tactic => `(tactic| (with_reducible refine gate_dst (N := 4) rfl ?_))
local macro:max "G87_" : term => `((blk_cell BK233.out 0))
local macro:max "G88_" : term => `((blk_cell BK233.out 1))
local macro:max "G89_" : term => `((blk_cell BK233.out 2))
local macro:max "G90_" : term => `((blk_cell BK233.out 3))
local macro:max "G91_" : term => `((blk_cell BK233.out 4))
local macro:max "G92_" : term => `((blk_cell BK233.out 5))
local macro:max "G93_" : term => `((blk_cell BK233.out 6))
local macro:max "G94_" : term => `((blk_cell BK233.out 7))
local macro:max "G95_" : term => `((blk_cell BK233.out 8))
local macro:max "G96_" : term => `((blk_cell BK233.out 9))
local macro:max "G97_" : term => `((by G0_; exact BK208.out))
local macro:max "G98_" : term => `((blk_below (g := gb247) (o := .cells G1_ 29 (0, 0)) (by G0_; exact BK247.out) hb))
local macro:max "G99_" : term => `((Kd.R_below (by G6_; exact HO229.out) hb))
local macro:max "G100_" : term => `((below_step G4_ hb))
local macro:max "G101_" : term => `((below_size (by repeat G3_)))
local macro "J0_" : tactic => `(tactic| ((have p244 : 0 ≤ (x5_1 : Int) := of_decide_eq_true G21_); (have q244 : x5_1 < (l0.length : Int) := of_decide_eq_true G21_); (obtain ⟨ad244, e244, hx244_0, hx244_1⟩ := at_T112 HR0.out x5_1 p244 q244); (cases e244); (replace hx244_0 := (HB.out.cell (World.block_lt_of_cell? w _ hx244_0)).trans hx244_0); (replace hx244_1 := (HB.out.cell (World.block_lt_of_cell? w _ hx244_1)).trans hx244_1); (replace p244 := eq_true p244); (replace q244 := eq_true q244); (try go_wp2); (have n0_ := Aside0.mk (below_drew1 HB.out)); (clear HB); (have HB := n0_); (clear n0_); (have p245 : 0 ≤ (x5_1 : Int) := of_decide_eq_true G21_); (have q245 : x5_1 < (l0.length : Int) := of_decide_eq_true G21_); (obtain ⟨ad245, e245, hx245_0, hx245_1⟩ := at_T112 HR0.out x5_1 p245 q245); (have hw245_1 := hx245_1); (have hw245_0 := hx245_0); (obtain rfl : ad244 = ad245 := (by injection e245)); (replace hx245_0 := (HB.out.cell (World.block_lt_of_cell? w _ hx245_0)).trans hx245_0); (replace hx245_1 := (HB.out.cell (World.block_lt_of_cell? w _ hx245_1)).trans hx245_1); (replace p245 := eq_true p245); (replace q245 := eq_true q245); (refine start_ (n := 8) (S := fun w' => w'.cell? (ad244.add ((x5_1).toNat * 2)) = some (.int .i64 ((rd_T112 l0 x5_1).f0)) ∧ w'.cell? ⟨(ad244.add ((x5_1).toNat * 2)).block, (ad244.add ((x5_1).toNat * 2)).off + 1, none⟩ = some (.string ((rd_T112 l0 x5_1).f1))) (ds := []) #[false, false, false, false, false, false, false, false] (by kernel_rfl) rfl rfl ⟨((HB.out.cell (World.block_lt_of_cell? w _ hw245_0)).trans hw245_0), ((HB.out.cell (World.block_lt_of_cell? w _ hw245_1)).trans hw245_1)⟩ (fun hHeld => ?_); refine with_tabW laws_heldLateS.tab7 laws_heldLateS.bits7 (fun HT_ HW_ => ?_))))
local macro "J1_" : tactic => `(tactic| ((go_ret); (exact ⟨by first | rfl | (simp [errW_none, errW_some] <;> rfl) | (simp [*, errW_none, errW_some] <;> rfl), by repeat G3_⟩)))
local macro "J2_" : tactic => `(tactic| ((refine pu_ 0 21 HT_ ?_); (refine pu_ 1 22 HT_ ?_); (refine pu_ 2 23 HT_ ?_); (refine pu_ 3 24 HT_ ?_); (refine pu_ 5 26 HT_ ?_); (refine ta_ 4 25 HT_ HW_ hHeld ?_); (refine one_ (i := 6) (N := some 27) #[true, true, true, true, true, true, true, false] rfl rfl (one_of HT_.out (by kernel_rfl)) (by decide) (fun K hK => ?_)); (refine goes_ Try.func162 (by kernel_rfl) rfl #[.int .i64 (wrap64 (x1_1 + 1))] (by rfl) rfl rfl G8_ ?_)))
local macro "J3_" : tactic => `(tactic| ((refine ⟨_, rfl, ?_⟩); (have n0_ := Aside0.mk G42_); (clear HB); (have HB := n0_); (clear n0_); (try clear hb); (try clear hb2); (try clear hk); (try clear hi); (refine hK.out _ _ ⟨((HB.out.cell (World.block_lt_of_cell? w _ hw245_0)).trans hw245_0), ((HB.out.cell (World.block_lt_of_cell? w _ hw245_1)).trans hw245_1)⟩ (fun hHeld => ?_)); (clear hK K); (refine norm_ (a' := ?_) ?_ ?_); (rotate_left)))
local macro "J4_" : tactic => `(tactic| ((have hu29 := Try.underlying29); (have HR0_9 := Aside0.mk hr0_9); (have HC0_9 := Aside0.mk hc0_9); (clear hr0_9 hc0_9); (have HB := Aside0.mk (Below.refl w.heap.size w))))
local macro "J5_" : tactic => `(tactic| ((go_ret); (exact ⟨by first | rfl | (simp [errW_none, errW_some] <;> rfl) | (simp [*, errW_none, errW_some] <;> rfl), by repeat G34_⟩)))
local macro "J6_" : tactic => `(tactic| ((simp only [Option.some.injEq, Prod.mk.injEq] at H); (obtain ⟨rfl, rfl, rfl, rfl, rfl, rfl, rfl, rfl, rfl, rfl, rfl, rfl, rfl, rfl⟩ := H)))
local macro "J7_" : tactic => `(tactic| ((replace H := Option.bind_eq_some_iff.mp H)))
local macro "J8_" : tactic => `(tactic| ((obtain rfl := Option.some.inj H)))
local macro "J9_" : tactic => `(tactic| ((have H' := Aside0.mk H); (clear H)))
local macro "J10_" : tactic => `(tactic| ((try dsimp only at H); (have A3 := Aside0.mk A30); (clear A30)))
local macro "J11_" : tactic => `(tactic| ((go_roundg k1); (case measure => have := HK1.out; omega)))
local macro "J12_" : tactic => `(tactic| ((simp only [Act.put, List.setIfInBounds_toArray, List.set_cons_zero, List.set_cons_succ, i64_w, i32_w])))
local macro "J13_" : tactic => `(tactic| ((simp only [Option.some.injEq, Prod.mk.injEq] at H)))
local macro "J14_" : tactic => `(tactic| ((exact absurd H (by simp))))
local macro "J15_" : tactic => `(tactic| ((refine pu_ 7 28 HT_ ?_); (refine done_ (done_of HT_.out (by kernel_rfl)) ?_); (try go_wp2)))
local macro "J16_" : tactic => `(tactic| ((have c4b0 : decide (0 ≤ x5_1) = true := decide_eq_true c4); (clear c4)))
local macro "J17_" : tactic => `(tactic| ((have HW0 := Aside0.mk hB.size); (have HB := Aside0.mk hB); (clear hB)))
set_option hygiene true
set_option maxHeartbeats 8000000 in
set_option maxRecDepth 100000 in
theorem impl_copyStream.calls (a0_0 : Int) (a0_1 : Int) (a0_2 : Int) (a0_3 : Int) (a0_4 : ByteArray) (a0_5 : Int) (a0_6 : Int) (a0_7 : Bool) (a0_8 : ByteArray) (A0_9 : Option Addr) (c0_9 : Nat) (l0_9 : List (S112)) (a0_10 : Bool) (a0_11 : Int) (a0_12 : Int) (r1 : Int) (r2 : Int) (r3 : Int) (r4 : Int) (r5 : ByteArray) (r6 : Int) (r7 : Int) (r8 : Bool) (r9 : ByteArray) (r10 : List (S112)) (r11 : Bool) (r12 : Int) (r13 : Int) (w : World) (hr0_9 : Kd.C k112 w A0_9 l0_9.length l0_9) (hc0_9 : l0_9.length ≤ c0_9) (h : impl_copyStream.f a0_0 a0_1 a0_2 a0_3 a0_4 a0_5 a0_6 a0_7 a0_8 l0_9 a0_10 a0_11 a0_12 = some (r1, r2, r3, r4, r5, r6, r7, r8, r9, r10, r11, r12, r13)) :
  Calls Try.prog 134 #[.agg #[.int .i64 a0_0, .int .i64 a0_1, .int .i64 a0_2, .int .i64 a0_3, .string a0_4, .int .i64 a0_5, .int .i64 a0_6, .bool a0_7, .string a0_8, .slice A0_9 l0_9.length c0_9, .bool a0_10, .int .i64 a0_11, .int .i64 a0_12]] w fun e w' => ∃ v9_ : Value, e = .returned (.agg #[.int .i64 r1, .int .i64 r2, .int .i64 r3, .int .i64 r4, .string r5, .int .i64 r6, .int .i64 r7, .bool r8, .string r9, v9_, .bool r11, .int .i64 r12, .int .i64 r13]) ∧ Kd.R k112 112 w' w.heap.size (fun _ => True) v9_ r10 ∧ Below w.heap.size w w' := by
 J4_
 have H : ((some (([] : List (S112)) : List (S112))).bind fun y210 => (if y210.length + l0_9.length < 5864062014805 then (some (a0_0, a0_1, a0_2, a0_3, a0_4, a0_5, a0_6, a0_7, a0_8, (y210 ++ l0_9), a0_10, a0_11, a0_12)) else (none))) = some (r1, r2, r3, r4, r5, r6, r7, r8, r9, r10, r11, r12, r13) := h
 clear h
 obtain ⟨y210, hy210⟩ : ∃ y_ : List (S112), y_ = (([] : List (S112))) := ⟨_, rfl⟩
 replace H : (if y210.length + l0_9.length < 5864062014805 then (some (a0_0, a0_1, a0_2, a0_3, a0_4, a0_5, a0_6, a0_7, a0_8, (y210 ++ l0_9), a0_10, a0_11, a0_12)) else (none)) = some (r1, r2, r3, r4, r5, r6, r7, r8, r9, r10, r11, r12, r13) := by first | (rw [hy210]; with_reducible exact H) | (have H2_ := (Option.bind_some _ _).symm.trans H; rw [hy210]; with_reducible exact H2_) | G35_ | with_reducible exact H | (rw [hy210]; exact H) | exact H
 have Ny210 := Aside0.mk hy210
 clear hy210
 by_cases c2 : y210.length + l0_9.length < 5864062014805
 ·rw [if_pos c2] at H
  have LMc2 := Aside0.mk c2
  clear c2
  obtain ⟨y213, hy213⟩ : ∃ y_ : List (S112), y_ = (y210 ++ l0_9) := ⟨_, rfl⟩
  replace H : (some (a0_0, a0_1, a0_2, a0_3, a0_4, a0_5, a0_6, a0_7, a0_8, y213, a0_10, a0_11, a0_12)) = some (r1, r2, r3, r4, r5, r6, r7, r8, r9, r10, r11, r12, r13) := by first | (rw [hy213]; with_reducible exact H) | (have H2_ := (Option.bind_some _ _).symm.trans H; rw [hy213]; with_reducible exact H2_) | G35_ | with_reducible exact H | (rw [hy213]; exact H) | exact H
  have Ny213 := Aside0.mk hy213
  clear hy213
  J13_
  obtain ⟨rfl, rfl, rfl, rfl, rfl, rfl, rfl, rfl, rfl, rfl, rfl, rfl, rfl⟩ := H
  go_enter Try.func134, Try.ntmps134
  go_wp2_with (first | (G58_; refine box_event ?hg (N := 1) ?hd (cs := G1_) (t := 29) ?hr ?_; (case hd => rfl); (case hg => rfl); G22_; intro gb208 hg w3 hbox hb; have n0_ := Aside0.mk G42_; have n1_ := Aside0.mk (hbox); have n2_ := Aside0.mk ((by rw [hg]; exact G101_ : w.heap.size ≤ gb208)); have n3_ := Aside0.mk ((by rw [hg]; exact G101_ : w.heap.size ≤ gb208)); clear HB; have HB := n0_; have BK208 := n1_; have GW208 := n2_; have GE208 := n3_; clear n0_ n1_ n2_ n3_; clear hb hbox hg) | (G39_; refine box_event ?hg (N := 2) ?hd (cs := G2_) (t := 29) ?hr ?_; (case hd => rfl); (case hg => rfl); G22_; intro gb209 hg w4 hbox hb; have n0_ := Aside0.mk (blk_below (g := gb208) (o := .cells G1_ 29 (0, 0)) G97_ hb); have n1_ := Aside0.mk (below_step G33_ hb); have n2_ := Aside0.mk (hbox); have n3_ := Aside0.mk ((by rw [hg]; exact (below_size G33_) : w.heap.size ≤ gb209)); have n4_ := Aside0.mk ((by rw [hg]; exact (below_size G33_) : w.heap.size ≤ gb209)); have n5_ := Aside0.mk ((by rw [hg]; exact Nat.ne_of_lt (blk_lt (g := gb208) (o := .cells G1_ 29 (0, 0)) G97_) : gb208 ≠ gb209)); have n6_ := Aside0.mk ((by rw [hg]; exact Nat.ne_of_gt (blk_lt (g := gb208) (o := .cells G1_ 29 (0, 0)) G97_) : gb209 ≠ gb208)); clear BK208; clear HB; have BK208 := n0_; have HB := n1_; have BK209 := n2_; have GW209 := n3_; have GE209 := n4_; have NB208_209 := n5_; have NB209_208 := n6_; clear n0_ n1_ n2_ n3_ n4_ n5_ n6_; clear hb hbox hg) | ((with_reducible refine gate_dst (N := 3) rfl ?_); refine Kd.R_lit k112 _ 112 ?hg (N := 3) ?hd (xs := ([] : List (S112))) (inner := []) (ok := fun _ => True) (okp := fun _ => True) ?hr ?hp (fun _ hk => hk) trivial (Below.refl _ _) (Nat.le_refl _) (by simp) ?_; (case hd => rfl); (case hg => rfl); G22_; (case hp => exact (Reps.none _ _)); intro v211 w5 ho6 hb hg_ hnew_; clear hg_ hnew_; (first | rw [← Ny210.out] at ho6 | (simp only [Int.reduceToNat] at ho6; rw [← Ny210.out] at ho6)); have n0_ := Aside0.mk (Kd.R_lower ho6 (below_size (by repeat G27_))); have n1_ := Aside0.mk (blk_below (g := gb208) (o := .cells G1_ 29 (0, 0)) G97_ hb); have n2_ := Aside0.mk (blk_below (g := gb209) (o := .cells G2_ 29 (0, 0)) (by G0_; exact BK209.out) hb); have n3_ := Aside0.mk (below_step (by repeat G27_) hb); clear BK208; clear BK209; clear HB; have HO212 := n0_; have BK208 := n1_; have BK209 := n2_; have HB := n3_; clear n0_ n1_ n2_ n3_; clear hb ho6; have hnb7 := NB208_209.out; have hnc7 := NB209_208.out; have hcz8_0 : w5.cell? ⟨gb208, 0, none⟩ = some (.int .i64 a0_0) := (blk_cell BK208.out 0).trans rfl; have hcz8_1 : w5.cell? ⟨gb208, 1, none⟩ = some (.int .i64 a0_1) := (blk_cell BK208.out 1).trans rfl; have hcz8_2 : w5.cell? ⟨gb208, 2, none⟩ = some (.int .i64 a0_2) := (blk_cell BK208.out 2).trans rfl; have hcz8_3 : w5.cell? ⟨gb208, 3, none⟩ = some (.int .i64 a0_3) := (blk_cell BK208.out 3).trans rfl; have hcz8_4 : w5.cell? ⟨gb208, 4, none⟩ = some (.string a0_4) := (blk_cell BK208.out 4).trans rfl; have hcz8_5 : w5.cell? ⟨gb208, 5, none⟩ = some (.int .i64 a0_5) := (blk_cell BK208.out 5).trans rfl; have hcz8_6 : w5.cell? ⟨gb208, 6, none⟩ = some (.int .i64 a0_6) := (blk_cell BK208.out 6).trans rfl; have hcz8_7 : w5.cell? ⟨gb208, 7, none⟩ = some (.bool a0_7) := (blk_cell BK208.out 7).trans rfl; have hcz8_8 : w5.cell? ⟨gb208, 8, none⟩ = some (.string a0_8) := (blk_cell BK208.out 8).trans rfl; have hcz8_9 : w5.cell? ⟨gb208, 9, none⟩ = some G36_ := (blk_cell BK208.out 9).trans rfl; have hcz8_10 : w5.cell? ⟨gb208, 10, none⟩ = some (.bool a0_10) := (blk_cell BK208.out 10).trans rfl; have hcz8_11 : w5.cell? ⟨gb208, 11, none⟩ = some (.int .i64 a0_11) := (blk_cell BK208.out 11).trans rfl; have hcz8_12 : w5.cell? ⟨gb208, 12, none⟩ = some (.int .i64 a0_12) := (blk_cell BK208.out 12).trans rfl; have hfz8_0 := blk_frozen BK208.out 0; have hfz8_1 := blk_frozen BK208.out 1; have hfz8_2 := blk_frozen BK208.out 2; have hfz8_3 := blk_frozen BK208.out 3; have hfz8_4 := blk_frozen BK208.out 4; have hfz8_5 := blk_frozen BK208.out 5; have hfz8_6 := blk_frozen BK208.out 6; have hfz8_7 := blk_frozen BK208.out 7; have hfz8_8 := blk_frozen BK208.out 8; have hfz8_9 := blk_frozen BK208.out 9; have hfz8_10 := blk_frozen BK208.out 10; have hfz8_11 := blk_frozen BK208.out 11; have hfz8_12 := blk_frozen BK208.out 12) | ((with_reducible refine gate_builtin (b := .append) (xs := #[.tmp 3, .tmp 5]) rfl ?_); at_builtin; refine Kd.R_append_rows k112 (w0 := w) w.heap.size rfl (.tmp 3) (.tmp 5) 27 112 (.agg #[(.int .i64 0), (.string ⟨#[]⟩)]) 24 rfl Try.underlying27 info112 rfl (by decide) (by omega) v211 y210 l0_9 _ _ _ (fun _ => True) (fun _ => False) rfl rfl ?aO ?aR (fun _ _ h => h) (fun _ h => h.elim) ?aF ?aB ?aS ?aL ?_; (case aR => repeat G23_); (case aB => exact (by repeat G27_)); (case aF => exact (fun _ _ => trivial)); (case aO => exact (by G6_; exact HO212.out)); (case aS => exact (below_size (by repeat G27_))); (case aL => have := LMc2.out; omega); intro v214 w9 ho hb hg hat; rw [← Ny213.out] at ho; have n0_ := Aside0.mk (blk_grown (g := gb208) (o := .cells G1_ 29 (0, 0)) G97_ hg (Kd.R_ne HO212.out BK208.out (by decide))); have n1_ := Aside0.mk (blk_grown (g := gb209) (o := .cells G2_ 29 (0, 0)) (by G0_; exact BK209.out) hg (Kd.R_ne HO212.out BK209.out (by decide))); have n2_ := Aside0.mk (hb); have n3_ := Aside0.mk (ho); clear BK208; clear BK209; clear HB; clear HO212; have BK208 := n0_; have BK209 := n1_; have HB := n2_; have HO215 := n3_; clear n0_ n1_ n2_ n3_; clear ho hb hg hat; obtain ⟨Ao10, co10, eo10⟩ := Kd.R_slice HO215.out; subst eo10; have hcz11_0 : w9.cell? ⟨gb208, 0, none⟩ = some (.int .i64 a0_0) := (blk_cell BK208.out 0).trans rfl; have hcz11_1 : w9.cell? ⟨gb208, 1, none⟩ = some (.int .i64 a0_1) := (blk_cell BK208.out 1).trans rfl; have hcz11_2 : w9.cell? ⟨gb208, 2, none⟩ = some (.int .i64 a0_2) := (blk_cell BK208.out 2).trans rfl; have hcz11_3 : w9.cell? ⟨gb208, 3, none⟩ = some (.int .i64 a0_3) := (blk_cell BK208.out 3).trans rfl; have hcz11_4 : w9.cell? ⟨gb208, 4, none⟩ = some (.string a0_4) := (blk_cell BK208.out 4).trans rfl; have hcz11_5 : w9.cell? ⟨gb208, 5, none⟩ = some (.int .i64 a0_5) := (blk_cell BK208.out 5).trans rfl; have hcz11_6 : w9.cell? ⟨gb208, 6, none⟩ = some (.int .i64 a0_6) := (blk_cell BK208.out 6).trans rfl; have hcz11_7 : w9.cell? ⟨gb208, 7, none⟩ = some (.bool a0_7) := (blk_cell BK208.out 7).trans rfl; have hcz11_8 : w9.cell? ⟨gb208, 8, none⟩ = some (.string a0_8) := (blk_cell BK208.out 8).trans rfl; have hcz11_9 : w9.cell? ⟨gb208, 9, none⟩ = some G36_ := (blk_cell BK208.out 9).trans rfl; have hcz11_10 : w9.cell? ⟨gb208, 10, none⟩ = some (.bool a0_10) := (blk_cell BK208.out 10).trans rfl; have hcz11_11 : w9.cell? ⟨gb208, 11, none⟩ = some (.int .i64 a0_11) := (blk_cell BK208.out 11).trans rfl; have hcz11_12 : w9.cell? ⟨gb208, 12, none⟩ = some (.int .i64 a0_12) := (blk_cell BK208.out 12).trans rfl; have hfz11_0 := blk_frozen BK208.out 0; have hfz11_1 := blk_frozen BK208.out 1; have hfz11_2 := blk_frozen BK208.out 2; have hfz11_3 := blk_frozen BK208.out 3; have hfz11_4 := blk_frozen BK208.out 4; have hfz11_5 := blk_frozen BK208.out 5; have hfz11_6 := blk_frozen BK208.out 6; have hfz11_7 := blk_frozen BK208.out 7; have hfz11_8 := blk_frozen BK208.out 8; have hfz11_9 := blk_frozen BK208.out 9; have hfz11_10 := blk_frozen BK208.out 10; have hfz11_11 := blk_frozen BK208.out 11; have hfz11_12 := blk_frozen BK208.out 12; have hcz12_0 : w9.cell? ⟨gb209, 0, none⟩ = some (.int .i64 0) := (blk_cell BK209.out 0).trans rfl; have hcz12_1 : w9.cell? ⟨gb209, 1, none⟩ = some (.int .i64 0) := (blk_cell BK209.out 1).trans rfl; have hcz12_2 : w9.cell? ⟨gb209, 2, none⟩ = some (.int .i64 0) := (blk_cell BK209.out 2).trans rfl; have hcz12_3 : w9.cell? ⟨gb209, 3, none⟩ = some (.int .i64 0) := (blk_cell BK209.out 3).trans rfl; have hcz12_4 : w9.cell? ⟨gb209, 4, none⟩ = some (.string (⟨#[]⟩ : ByteArray)) := (blk_cell BK209.out 4).trans rfl; have hcz12_5 : w9.cell? ⟨gb209, 5, none⟩ = some (.int .i64 0) := (blk_cell BK209.out 5).trans rfl; have hcz12_6 : w9.cell? ⟨gb209, 6, none⟩ = some (.int .i64 0) := (blk_cell BK209.out 6).trans rfl; have hcz12_7 : w9.cell? ⟨gb209, 7, none⟩ = some (.bool false) := (blk_cell BK209.out 7).trans rfl; have hcz12_8 : w9.cell? ⟨gb209, 8, none⟩ = some (.string (⟨#[]⟩ : ByteArray)) := (blk_cell BK209.out 8).trans rfl; have hcz12_9 : w9.cell? ⟨gb209, 9, none⟩ = some (.slice none 0 0) := (blk_cell BK209.out 9).trans rfl; have hcz12_10 : w9.cell? ⟨gb209, 10, none⟩ = some (.bool false) := (blk_cell BK209.out 10).trans rfl; have hcz12_11 : w9.cell? ⟨gb209, 11, none⟩ = some (.int .i64 0) := (blk_cell BK209.out 11).trans rfl; have hcz12_12 : w9.cell? ⟨gb209, 12, none⟩ = some (.int .i64 0) := (blk_cell BK209.out 12).trans rfl; have hfz12_0 := blk_frozen BK209.out 0; have hfz12_1 := blk_frozen BK209.out 1; have hfz12_2 := blk_frozen BK209.out 2; have hfz12_3 := blk_frozen BK209.out 3; have hfz12_4 := blk_frozen BK209.out 4; have hfz12_5 := blk_frozen BK209.out 5; have hfz12_6 := blk_frozen BK209.out 6; have hfz12_7 := blk_frozen BK209.out 7; have hfz12_8 := blk_frozen BK209.out 8; have hfz12_9 := blk_frozen BK209.out 9; have hfz12_10 := blk_frozen BK209.out 10; have hfz12_11 := blk_frozen BK209.out 11; have hfz12_12 := blk_frozen BK209.out 12))
  refine bodyPost_ret (results_cell_row rfl _ _ gb209 29 #[.int .i64 a0_0, .int .i64 a0_1, .int .i64 a0_2, .int .i64 a0_3, .string a0_4, .int .i64 a0_5, .int .i64 a0_6, .bool a0_7, .string a0_8, .slice Ao10 y213.length co10, .bool a0_10, .int .i64 a0_11, .int .i64 a0_12] (0, 0) _ rfl (by G0_; refine blk_put (cs := #[.int .i64 a0_0, .int .i64 a0_1, .int .i64 a0_2, .int .i64 a0_3, .string a0_4, .int .i64 a0_5, .int .i64 a0_6, .bool a0_7, .string a0_8, .slice Ao10 y213.length co10, .bool a0_10, .int .i64 a0_11, .int .i64 0]) ?_ 12 _ rfl; G0_; refine blk_put (cs := #[.int .i64 a0_0, .int .i64 a0_1, .int .i64 a0_2, .int .i64 a0_3, .string a0_4, .int .i64 a0_5, .int .i64 a0_6, .bool a0_7, .string a0_8, .slice Ao10 y213.length co10, .bool a0_10, .int .i64 0, .int .i64 0]) ?_ 11 _ rfl; G0_; refine blk_put (cs := #[.int .i64 a0_0, .int .i64 a0_1, .int .i64 a0_2, .int .i64 a0_3, .string a0_4, .int .i64 a0_5, .int .i64 a0_6, .bool a0_7, .string a0_8, .slice Ao10 y213.length co10, .bool false, .int .i64 0, .int .i64 0]) ?_ 10 _ rfl; G0_; refine blk_put (cs := #[.int .i64 a0_0, .int .i64 a0_1, .int .i64 a0_2, .int .i64 a0_3, .string a0_4, .int .i64 a0_5, .int .i64 a0_6, .bool a0_7, .string a0_8, .slice none 0 0, .bool false, .int .i64 0, .int .i64 0]) ?_ 9 _ rfl; G0_; refine blk_put (cs := #[.int .i64 a0_0, .int .i64 a0_1, .int .i64 a0_2, .int .i64 a0_3, .string a0_4, .int .i64 a0_5, .int .i64 a0_6, .bool a0_7, .string (⟨#[]⟩ : ByteArray), .slice none 0 0, .bool false, .int .i64 0, .int .i64 0]) ?_ 8 _ rfl; G0_; refine blk_put (cs := #[.int .i64 a0_0, .int .i64 a0_1, .int .i64 a0_2, .int .i64 a0_3, .string a0_4, .int .i64 a0_5, .int .i64 a0_6, .bool false, .string (⟨#[]⟩ : ByteArray), .slice none 0 0, .bool false, .int .i64 0, .int .i64 0]) ?_ 7 _ rfl; G0_; refine blk_put (cs := #[.int .i64 a0_0, .int .i64 a0_1, .int .i64 a0_2, .int .i64 a0_3, .string a0_4, .int .i64 a0_5, .int .i64 0, .bool false, .string (⟨#[]⟩ : ByteArray), .slice none 0 0, .bool false, .int .i64 0, .int .i64 0]) ?_ 6 _ rfl; G0_; refine blk_put (cs := #[.int .i64 a0_0, .int .i64 a0_1, .int .i64 a0_2, .int .i64 a0_3, .string a0_4, .int .i64 0, .int .i64 0, .bool false, .string (⟨#[]⟩ : ByteArray), .slice none 0 0, .bool false, .int .i64 0, .int .i64 0]) ?_ 5 _ rfl; G0_; refine blk_put (cs := #[.int .i64 a0_0, .int .i64 a0_1, .int .i64 a0_2, .int .i64 a0_3, .string (⟨#[]⟩ : ByteArray), .int .i64 0, .int .i64 0, .bool false, .string (⟨#[]⟩ : ByteArray), .slice none 0 0, .bool false, .int .i64 0, .int .i64 0]) ?_ 4 _ rfl; G0_; refine blk_put (cs := #[.int .i64 a0_0, .int .i64 a0_1, .int .i64 a0_2, .int .i64 0, .string (⟨#[]⟩ : ByteArray), .int .i64 0, .int .i64 0, .bool false, .string (⟨#[]⟩ : ByteArray), .slice none 0 0, .bool false, .int .i64 0, .int .i64 0]) ?_ 3 _ rfl; G0_; refine blk_put (cs := #[.int .i64 a0_0, .int .i64 a0_1, .int .i64 0, .int .i64 0, .string (⟨#[]⟩ : ByteArray), .int .i64 0, .int .i64 0, .bool false, .string (⟨#[]⟩ : ByteArray), .slice none 0 0, .bool false, .int .i64 0, .int .i64 0]) ?_ 2 _ rfl; G0_; refine blk_put (cs := #[.int .i64 a0_0, .int .i64 0, .int .i64 0, .int .i64 0, .string (⟨#[]⟩ : ByteArray), .int .i64 0, .int .i64 0, .bool false, .string (⟨#[]⟩ : ByteArray), .slice none 0 0, .bool false, .int .i64 0, .int .i64 0]) ?_ 1 _ rfl; G0_; refine blk_put (cs := G2_) ?_ 0 _ rfl; G0_; refine blk_far ?_ NB209_208.out _; G0_; exact BK209.out) Try.underlying29 rfl (by kernel_rfl)) rfl ?_
  exact ⟨_, by first | rfl | (simp [errW_none, errW_some] <;> rfl) | (simp [*, errW_none, errW_some] <;> rfl), by G6_; exact Kd.R_mono (Kd.R_far (p := ⟨gb209, 12, none⟩) (Kd.R_far (p := ⟨gb209, 11, none⟩) (Kd.R_far (p := ⟨gb209, 10, none⟩) (Kd.R_far (p := ⟨gb209, 9, none⟩) (Kd.R_far (p := ⟨gb209, 8, none⟩) (Kd.R_far (p := ⟨gb209, 7, none⟩) (Kd.R_far (p := ⟨gb209, 6, none⟩) (Kd.R_far (p := ⟨gb209, 5, none⟩) (Kd.R_far (p := ⟨gb209, 4, none⟩) (Kd.R_far (p := ⟨gb209, 3, none⟩) (Kd.R_far (p := ⟨gb209, 2, none⟩) (Kd.R_far (p := ⟨gb209, 1, none⟩) (Kd.R_far (p := ⟨gb209, 0, none⟩) (Kd.R_far (p := ⟨gb208, 9, none⟩) (Kd.R_types (Kd.R_types HO215.out BK208.out (by decide)) BK209.out (by decide)) (fun _ hk => hk.1.2) (.slice Ao10 y213.length co10)) G20_ (.int .i64 a0_0)) G20_ (.int .i64 a0_1)) G20_ (.int .i64 a0_2)) G20_ (.int .i64 a0_3)) G20_ (.string a0_4)) G20_ (.int .i64 a0_5)) G20_ (.int .i64 a0_6)) G20_ (.bool a0_7)) G20_ (.string a0_8)) G20_ (.slice Ao10 y213.length co10)) G20_ (.bool a0_10)) G20_ (.int .i64 a0_11)) G20_ (.int .i64 a0_12)) (fun _ hk => trivial), by repeat G27_⟩
 ·rw [if_neg c2] at H
  J14_

/-! ### impl_Shut: function 64 -/
def impl_Shut.f (k : Nat) (a0_0 : Int) (a0_1 : Int) (a0_2 : Int) (a0_3 : Int) (a0_4 : ByteArray) (a0_5 : Int) (a0_6 : Int) (a0_7 : Bool) (a0_8 : ByteArray) (l0_9 : List (S112)) (a0_10 : Bool) (a0_11 : Int) (a0_12 : Int) : Option (Int × Int × Int × Int × ByteArray × Int × Int × Bool × ByteArray × (List (S112)) × Bool × Int × Int × Bool) := (impl_copyStream.f a0_0 a0_1 a0_2 a0_3 a0_4 a0_5 a0_6 a0_7 a0_8 l0_9 a0_10 a0_11 a0_12).bind fun bt218 => ((impl_StreamOk.f k a0_0 a0_1 a0_2 a0_3 a0_4 a0_5 a0_6 a0_7 a0_8 l0_9 a0_10 a0_11 a0_12).bind fun t234 => (if t234 = true then (if a0_6 = 0 then (some (bt218.1, bt218.2.1, bt218.2.2.1, bt218.2.2.2.1, bt218.2.2.2.2.1, bt218.2.2.2.2.2.1, 1, bt218.2.2.2.2.2.2.2.1, bt218.2.2.2.2.2.2.2.2.1, bt218.2.2.2.2.2.2.2.2.2.1, bt218.2.2.2.2.2.2.2.2.2.2.1, bt218.2.2.2.2.2.2.2.2.2.2.2.1, bt218.2.2.2.2.2.2.2.2.2.2.2.2, true)) else (some (bt218.1, bt218.2.1, bt218.2.2.1, bt218.2.2.2.1, bt218.2.2.2.2.1, bt218.2.2.2.2.2.1, bt218.2.2.2.2.2.2.1, bt218.2.2.2.2.2.2.2.1, bt218.2.2.2.2.2.2.2.2.1, bt218.2.2.2.2.2.2.2.2.2.1, bt218.2.2.2.2.2.2.2.2.2.2.1, bt218.2.2.2.2.2.2.2.2.2.2.2.1, bt218.2.2.2.2.2.2.2.2.2.2.2.2, false))) else (some (bt218.1, bt218.2.1, bt218.2.2.1, bt218.2.2.2.1, bt218.2.2.2.2.1, bt218.2.2.2.2.2.1, bt218.2.2.2.2.2.2.1, bt218.2.2.2.2.2.2.2.1, bt218.2.2.2.2.2.2.2.2.1, bt218.2.2.2.2.2.2.2.2.2.1, bt218.2.2.2.2.2.2.2.2.2.2.1, bt218.2.2.2.2.2.2.2.2.2.2.2.1, bt218.2.2.2.2.2.2.2.2.2.2.2.2, false))))
theorem impl_Shut.mono : ∀ a0 a1 a2 a3 a4 a5 a6 a7 a8 a9 a10 a11 a12 k, LeO (impl_Shut.f k a0 a1 a2 a3 a4 a5 a6 a7 a8 a9 a10 a11 a12) (impl_Shut.f (k + 1) a0 a1 a2 a3 a4 a5 a6 a7 a8 a9 a10 a11 a12) := by
 intro a0 a1 a2 a3 a4 a5 a6 a7 a8 a9 a10 a11 a12 k
 unfold impl_Shut.f
 repeat' first
   | (with_reducible exact impl_StreamOk.mono _ _ _ _ _ _ _ _ _ _ _ _ _ _)
   | (with_reducible exact LeO.refl _)
   | (with_reducible exact LeO.none _)
   | (with_reducible refine LeO.ite ?_ ?_)
   | (with_reducible refine LeO.bind ?_ (fun _ => ?_))
   | exact impl_StreamOk.mono _ _ _ _ _ _ _ _ _ _ _ _ _ _
   | exact LeO.none _
   | refine LeO.ite ?_ ?_
   | refine LeO.bind ?_ (fun _ => ?_)
set_option maxHeartbeats 8000000 in
set_option maxRecDepth 100000 in
theorem impl_Shut.calls (k : Nat) (a0_0 : Int) (a0_1 : Int) (a0_2 : Int) (a0_3 : Int) (a0_4 : ByteArray) (a0_5 : Int) (a0_6 : Int) (a0_7 : Bool) (a0_8 : ByteArray) (A0_9 : Option Addr) (c0_9 : Nat) (l0_9 : List (S112)) (a0_10 : Bool) (a0_11 : Int) (a0_12 : Int) (r1 : Int) (r2 : Int) (r3 : Int) (r4 : Int) (r5 : ByteArray) (r6 : Int) (r7 : Int) (r8 : Bool) (r9 : ByteArray) (r10 : List (S112)) (r11 : Bool) (r12 : Int) (r13 : Int) (r14 : Bool) (w : World) (hr0_9 : Kd.C k112 w A0_9 l0_9.length l0_9) (hc0_9 : l0_9.length ≤ c0_9) (h : impl_Shut.f k a0_0 a0_1 a0_2 a0_3 a0_4 a0_5 a0_6 a0_7 a0_8 l0_9 a0_10 a0_11 a0_12 = some (r1, r2, r3, r4, r5, r6, r7, r8, r9, r10, r11, r12, r13, r14)) :
  Calls Try.prog 64 #[.agg #[.int .i64 a0_0, .int .i64 a0_1, .int .i64 a0_2, .int .i64 a0_3, .string a0_4, .int .i64 a0_5, .int .i64 a0_6, .bool a0_7, .string a0_8, .slice A0_9 l0_9.length c0_9, .bool a0_10, .int .i64 a0_11, .int .i64 a0_12]] w fun e w' => ∃ v9_ : Value, e = .returned (.tuple #[.agg #[.int .i64 r1, .int .i64 r2, .int .i64 r3, .int .i64 r4, .string r5, .int .i64 r6, .int .i64 r7, .bool r8, .string r9, v9_, .bool r11, .int .i64 r12, .int .i64 r13], .bool r14]) ∧ Kd.R k112 112 w' w.heap.size (fun _ => True) v9_ r10 ∧ Below w.heap.size w w' := by
 J4_
 have H : ((impl_copyStream.f a0_0 a0_1 a0_2 a0_3 a0_4 a0_5 a0_6 a0_7 a0_8 l0_9 a0_10 a0_11 a0_12).bind fun bt218 => ((impl_StreamOk.f k a0_0 a0_1 a0_2 a0_3 a0_4 a0_5 a0_6 a0_7 a0_8 l0_9 a0_10 a0_11 a0_12).bind fun t234 => (if t234 = true then (if a0_6 = 0 then (some (bt218.1, bt218.2.1, bt218.2.2.1, bt218.2.2.2.1, bt218.2.2.2.2.1, bt218.2.2.2.2.2.1, 1, bt218.2.2.2.2.2.2.2.1, bt218.2.2.2.2.2.2.2.2.1, bt218.2.2.2.2.2.2.2.2.2.1, bt218.2.2.2.2.2.2.2.2.2.2.1, bt218.2.2.2.2.2.2.2.2.2.2.2.1, bt218.2.2.2.2.2.2.2.2.2.2.2.2, true)) else (some (bt218.1, bt218.2.1, bt218.2.2.1, bt218.2.2.2.1, bt218.2.2.2.2.1, bt218.2.2.2.2.2.1, bt218.2.2.2.2.2.2.1, bt218.2.2.2.2.2.2.2.1, bt218.2.2.2.2.2.2.2.2.1, bt218.2.2.2.2.2.2.2.2.2.1, bt218.2.2.2.2.2.2.2.2.2.2.1, bt218.2.2.2.2.2.2.2.2.2.2.2.1, bt218.2.2.2.2.2.2.2.2.2.2.2.2, false))) else (some (bt218.1, bt218.2.1, bt218.2.2.1, bt218.2.2.2.1, bt218.2.2.2.2.1, bt218.2.2.2.2.2.1, bt218.2.2.2.2.2.2.1, bt218.2.2.2.2.2.2.2.1, bt218.2.2.2.2.2.2.2.2.1, bt218.2.2.2.2.2.2.2.2.2.1, bt218.2.2.2.2.2.2.2.2.2.2.1, bt218.2.2.2.2.2.2.2.2.2.2.2.1, bt218.2.2.2.2.2.2.2.2.2.2.2.2, false))))) = some (r1, r2, r3, r4, r5, r6, r7, r8, r9, r10, r11, r12, r13, r14) := h
 clear h
 J7_
 obtain ⟨⟨t218, t219, t220, t221, t222, t223, t224, t225, t226, t227, t230, t231, t232⟩, A20, H⟩ := H
 (try dsimp only at H)
 have A2 := Aside0.mk A20
 clear A20
 J7_
 obtain ⟨t234, A30, H⟩ := H
 J10_
 by_cases c4 : t234 = true
 ·subst c4
  rw [if_pos rfl] at H
  by_cases c5 : a0_6 = 0
  ·rw [if_pos c5] at H
   have c5b0 : (a0_6 == 0) = true := beq_iff_eq.mpr c5
   have c5b1 : (a0_6 != 0) = false := bne_eq_false_iff_eq.mpr c5
   clear c5
   J6_
   go_enter Try.func64, Try.ntmps64
   go_wp2_with (first | (G58_; refine box_event ?hg (N := 1) ?hd (cs := G1_) (t := 29) ?hr ?_; (case hd => rfl); (case hg => rfl); G22_; intro gb216 hg w6 hbox hb; have n0_ := Aside0.mk G42_; have n1_ := Aside0.mk (hbox); have n2_ := Aside0.mk (G32_); have n3_ := Aside0.mk (G32_); clear HB; have HB := n0_; have BK216 := n1_; have GW216 := n2_; have GE216 := n3_; clear n0_ n1_ n2_ n3_; clear hb hbox hg) | (G39_; refine box_event ?hg (N := 2) ?hd (cs := G2_) (t := 29) ?hr ?_; (case hd => rfl); (case hg => rfl); G22_; intro gb217 hg w7 hbox hb; have n0_ := Aside0.mk G28_; have n1_ := Aside0.mk (below_step G9_ hb); have n2_ := Aside0.mk (hbox); have n3_ := Aside0.mk (G38_); have n4_ := Aside0.mk (G38_); have n5_ := Aside0.mk (G76_); have n6_ := Aside0.mk (G73_); clear BK216; clear HB; have BK216 := n0_; have HB := n1_; have BK217 := n2_; have GW217 := n3_; have GE217 := n4_; have NB216_217 := n5_; have NB217_216 := n6_; clear n0_ n1_ n2_ n3_ n4_ n5_ n6_; clear hb hbox hg; have hnb8 := NB216_217.out; have hnc8 := NB217_216.out; have hcz9_0 : w7.cell? ⟨gb216, 0, none⟩ = some (.int .i64 a0_0) := (G62_).trans rfl; have hcz9_1 : w7.cell? ⟨gb216, 1, none⟩ = some (.int .i64 a0_1) := (G63_).trans rfl; have hcz9_2 : w7.cell? ⟨gb216, 2, none⟩ = some (.int .i64 a0_2) := (G64_).trans rfl; have hcz9_3 : w7.cell? ⟨gb216, 3, none⟩ = some (.int .i64 a0_3) := (G65_).trans rfl; have hcz9_4 : w7.cell? ⟨gb216, 4, none⟩ = some (.string a0_4) := (G66_).trans rfl; have hcz9_5 : w7.cell? ⟨gb216, 5, none⟩ = some (.int .i64 a0_5) := (G67_).trans rfl; have hcz9_6 : w7.cell? ⟨gb216, 6, none⟩ = some (.int .i64 a0_6) := (G68_).trans rfl; have hcz9_7 : w7.cell? ⟨gb216, 7, none⟩ = some (.bool a0_7) := (G69_).trans rfl; have hcz9_8 : w7.cell? ⟨gb216, 8, none⟩ = some (.string a0_8) := (G70_).trans rfl; have hcz9_9 : w7.cell? ⟨gb216, 9, none⟩ = some G36_ := (G71_).trans rfl; have hcz9_10 : w7.cell? ⟨gb216, 10, none⟩ = some (.bool a0_10) := (G59_).trans rfl; have hcz9_11 : w7.cell? ⟨gb216, 11, none⟩ = some (.int .i64 a0_11) := (G60_).trans rfl; have hcz9_12 : w7.cell? ⟨gb216, 12, none⟩ = some (.int .i64 a0_12) := (G61_).trans rfl; have hfz9_0 := blk_frozen BK216.out 0; have hfz9_1 := blk_frozen BK216.out 1; have hfz9_2 := blk_frozen BK216.out 2; have hfz9_3 := blk_frozen BK216.out 3; have hfz9_4 := blk_frozen BK216.out 4; have hfz9_5 := blk_frozen BK216.out 5; have hfz9_6 := blk_frozen BK216.out 6; have hfz9_7 := blk_frozen BK216.out 7; have hfz9_8 := blk_frozen BK216.out 8; have hfz9_9 := blk_frozen BK216.out 9; have hfz9_10 := blk_frozen BK216.out 10; have hfz9_11 := blk_frozen BK216.out 11; have hfz9_12 := blk_frozen BK216.out 12) | (G79_; refine goesL_ (some 6) rfl rfl Try.func134 (by kernel_rfl) rfl #[.agg G1_] rfl G8_ ?_; G29_; G85_; G53_; rintro e w10 ⟨v228, rfl, ho0, hb⟩; refine ⟨_, rfl, ?_⟩; have n0_ := Aside0.mk (Kd.R_lower ho0 (below_size G4_)); have n1_ := Aside0.mk G28_; have n2_ := Aside0.mk G30_; have n3_ := Aside0.mk G100_; clear BK216; clear BK217; clear HB; have HO229 := n0_; have BK216 := n1_; have BK217 := n2_; have HB := n3_; clear n0_ n1_ n2_ n3_; (try clear hb); (try clear hb2); (try clear hk); (try clear hi); (try clear ho0)) | (G86_; refine box_event ?hg (N := 4) ?hd (cs := G2_) (t := 29) ?hr ?_; (case hd => rfl); (case hg => rfl); G22_; intro gb233 hg w11 hbox hb; have n0_ := Aside0.mk G99_; have n1_ := Aside0.mk G28_; have n2_ := Aside0.mk G30_; have n3_ := Aside0.mk G100_; have n4_ := Aside0.mk (hbox); have n5_ := Aside0.mk (G37_); have n6_ := Aside0.mk (G37_); have n7_ := Aside0.mk (G77_); have n8_ := Aside0.mk (G74_); have n9_ := Aside0.mk (G78_); have n10_ := Aside0.mk (G75_); clear HO229; clear BK216; clear BK217; clear HB; have HO229 := n0_; have BK216 := n1_; have BK217 := n2_; have HB := n3_; have BK233 := n4_; have GW233 := n5_; have GE233 := n6_; have NB216_233 := n7_; have NB233_216 := n8_; have NB217_233 := n9_; have NB233_217 := n10_; clear n0_ n1_ n2_ n3_ n4_ n5_ n6_ n7_ n8_ n9_ n10_; clear hb hbox hg; have hnb12 := NB233_216.out; have hnc12 := NB216_233.out; have hnb13 := NB233_217.out; have hnc13 := NB217_233.out; have hcz14_0 : w11.cell? ⟨gb233, 0, none⟩ = some (.int .i64 0) := (G87_).trans rfl; have hcz14_1 : w11.cell? ⟨gb233, 1, none⟩ = some (.int .i64 0) := (G88_).trans rfl; have hcz14_2 : w11.cell? ⟨gb233, 2, none⟩ = some (.int .i64 0) := (G89_).trans rfl; have hcz14_3 : w11.cell? ⟨gb233, 3, none⟩ = some (.int .i64 0) := (G90_).trans rfl; have hcz14_4 : w11.cell? ⟨gb233, 4, none⟩ = some (.string (⟨#[]⟩ : ByteArray)) := (G91_).trans rfl; have hcz14_5 : w11.cell? ⟨gb233, 5, none⟩ = some (.int .i64 0) := (G92_).trans rfl; have hcz14_6 : w11.cell? ⟨gb233, 6, none⟩ = some (.int .i64 0) := (G93_).trans rfl; have hcz14_7 : w11.cell? ⟨gb233, 7, none⟩ = some (.bool false) := (G94_).trans rfl; have hcz14_8 : w11.cell? ⟨gb233, 8, none⟩ = some (.string (⟨#[]⟩ : ByteArray)) := (G95_).trans rfl; have hcz14_9 : w11.cell? ⟨gb233, 9, none⟩ = some (.slice none 0 0) := (G96_).trans rfl; have hcz14_10 : w11.cell? ⟨gb233, 10, none⟩ = some (.bool false) := (G82_).trans rfl; have hcz14_11 : w11.cell? ⟨gb233, 11, none⟩ = some (.int .i64 0) := (G83_).trans rfl; have hcz14_12 : w11.cell? ⟨gb233, 12, none⟩ = some (.int .i64 0) := (G84_).trans rfl; have hfz14_0 := blk_frozen BK233.out 0; have hfz14_1 := blk_frozen BK233.out 1; have hfz14_2 := blk_frozen BK233.out 2; have hfz14_3 := blk_frozen BK233.out 3; have hfz14_4 := blk_frozen BK233.out 4; have hfz14_5 := blk_frozen BK233.out 5; have hfz14_6 := blk_frozen BK233.out 6; have hfz14_7 := blk_frozen BK233.out 7; have hfz14_8 := blk_frozen BK233.out 8; have hfz14_9 := blk_frozen BK233.out 9; have hfz14_10 := blk_frozen BK233.out 10; have hfz14_11 := blk_frozen BK233.out 11; have hfz14_12 := blk_frozen BK233.out 12; obtain ⟨Ao15, co15, eo15⟩ := Kd.R_slice HO229.out; subst eo15; have hcz16_0 : w11.cell? ⟨gb216, 0, none⟩ = some (.int .i64 a0_0) := (G62_).trans rfl; have hcz16_1 : w11.cell? ⟨gb216, 1, none⟩ = some (.int .i64 a0_1) := (G63_).trans rfl; have hcz16_2 : w11.cell? ⟨gb216, 2, none⟩ = some (.int .i64 a0_2) := (G64_).trans rfl; have hcz16_3 : w11.cell? ⟨gb216, 3, none⟩ = some (.int .i64 a0_3) := (G65_).trans rfl; have hcz16_4 : w11.cell? ⟨gb216, 4, none⟩ = some (.string a0_4) := (G66_).trans rfl; have hcz16_5 : w11.cell? ⟨gb216, 5, none⟩ = some (.int .i64 a0_5) := (G67_).trans rfl; have hcz16_6 : w11.cell? ⟨gb216, 6, none⟩ = some (.int .i64 a0_6) := (G68_).trans rfl; have hcz16_7 : w11.cell? ⟨gb216, 7, none⟩ = some (.bool a0_7) := (G69_).trans rfl; have hcz16_8 : w11.cell? ⟨gb216, 8, none⟩ = some (.string a0_8) := (G70_).trans rfl; have hcz16_9 : w11.cell? ⟨gb216, 9, none⟩ = some G36_ := (G71_).trans rfl; have hcz16_10 : w11.cell? ⟨gb216, 10, none⟩ = some (.bool a0_10) := (G59_).trans rfl; have hcz16_11 : w11.cell? ⟨gb216, 11, none⟩ = some (.int .i64 a0_11) := (G60_).trans rfl; have hcz16_12 : w11.cell? ⟨gb216, 12, none⟩ = some (.int .i64 a0_12) := (G61_).trans rfl; have hfz16_0 := blk_frozen BK216.out 0; have hfz16_1 := blk_frozen BK216.out 1; have hfz16_2 := blk_frozen BK216.out 2; have hfz16_3 := blk_frozen BK216.out 3; have hfz16_4 := blk_frozen BK216.out 4; have hfz16_5 := blk_frozen BK216.out 5; have hfz16_6 := blk_frozen BK216.out 6; have hfz16_7 := blk_frozen BK216.out 7; have hfz16_8 := blk_frozen BK216.out 8; have hfz16_9 := blk_frozen BK216.out 9; have hfz16_10 := blk_frozen BK216.out 10; have hfz16_11 := blk_frozen BK216.out 11; have hfz16_12 := blk_frozen BK216.out 12) | (G80_; refine goesL_ (some 8) rfl rfl Try.func18 (by kernel_rfl) rfl #[.agg G1_] rfl G8_ ?_; G56_; G72_; G53_; rintro e w17 ⟨rfl, hb⟩; refine ⟨_, rfl, ?_⟩; have n0_ := Aside0.mk (Kd.R_below (by G6_; exact (Kd.R_mono (Kd.R_far (p := ⟨gb233, 12, none⟩) (Kd.R_far (p := ⟨gb233, 11, none⟩) (Kd.R_far (p := ⟨gb233, 10, none⟩) (Kd.R_far (p := ⟨gb233, 9, none⟩) G7_ G20_ (.slice Ao15 t227.length co15)) G20_ (.bool t230)) G20_ (.int .i64 t231)) G20_ (.int .i64 t232)) (fun _ h_ => h_.1))) hb); have n1_ := Aside0.mk G10_; have n2_ := Aside0.mk G11_; have n3_ := Aside0.mk (blk_below (g := gb233) (o := .cells #[.int .i64 t218, .int .i64 t219, .int .i64 t220, .int .i64 t221, .string t222, .int .i64 t223, .int .i64 t224, .bool t225, .string t226, .slice Ao15 t227.length co15, .bool t230, .int .i64 t231, .int .i64 t232] 29 (0, 0)) (by G0_; refine blk_put (cs := #[.int .i64 t218, .int .i64 t219, .int .i64 t220, .int .i64 t221, .string t222, .int .i64 t223, .int .i64 t224, .bool t225, .string t226, .slice Ao15 t227.length co15, .bool t230, .int .i64 t231, .int .i64 0]) ?_ 12 _ rfl; G0_; refine blk_put (cs := #[.int .i64 t218, .int .i64 t219, .int .i64 t220, .int .i64 t221, .string t222, .int .i64 t223, .int .i64 t224, .bool t225, .string t226, .slice Ao15 t227.length co15, .bool t230, .int .i64 0, .int .i64 0]) ?_ 11 _ rfl; G0_; refine blk_put (cs := #[.int .i64 t218, .int .i64 t219, .int .i64 t220, .int .i64 t221, .string t222, .int .i64 t223, .int .i64 t224, .bool t225, .string t226, .slice Ao15 t227.length co15, .bool false, .int .i64 0, .int .i64 0]) ?_ 10 _ rfl; G0_; refine blk_put (cs := G26_) ?_ 9 _ rfl; G0_; refine blk_put (cs := G19_) ?_ 8 _ rfl; G0_; refine blk_put (cs := G18_) ?_ 7 _ rfl; G0_; refine blk_put (cs := G16_) ?_ 6 _ rfl; G0_; refine blk_put (cs := G17_) ?_ 5 _ rfl; G0_; refine blk_put (cs := G12_) ?_ 4 _ rfl; G0_; refine blk_put (cs := G13_) ?_ 3 _ rfl; G0_; refine blk_put (cs := G14_) ?_ 2 _ rfl; G0_; refine blk_put (cs := G15_) ?_ 1 _ rfl; G0_; refine blk_put (cs := G2_) ?_ 0 _ rfl; G0_; exact BK233.out) hb); have n4_ := Aside0.mk (below_step (by repeat G5_) hb); clear HO229; clear BK216; clear BK217; clear BK233; clear HB; have HO229 := n0_; have BK216 := n1_; have BK217 := n2_; have BK233 := n3_; have HB := n4_; clear n0_ n1_ n2_ n3_ n4_; (try clear hb); (try clear hb2); (try clear hk); (try clear hi); have hcz18_0 : w17.cell? ⟨gb216, 0, none⟩ = some (.int .i64 a0_0) := (G62_).trans rfl; have hcz18_1 : w17.cell? ⟨gb216, 1, none⟩ = some (.int .i64 a0_1) := (G63_).trans rfl; have hcz18_2 : w17.cell? ⟨gb216, 2, none⟩ = some (.int .i64 a0_2) := (G64_).trans rfl; have hcz18_3 : w17.cell? ⟨gb216, 3, none⟩ = some (.int .i64 a0_3) := (G65_).trans rfl; have hcz18_4 : w17.cell? ⟨gb216, 4, none⟩ = some (.string a0_4) := (G66_).trans rfl; have hcz18_5 : w17.cell? ⟨gb216, 5, none⟩ = some (.int .i64 a0_5) := (G67_).trans rfl; have hcz18_6 : w17.cell? ⟨gb216, 6, none⟩ = some (.int .i64 a0_6) := (G68_).trans rfl; have hcz18_7 : w17.cell? ⟨gb216, 7, none⟩ = some (.bool a0_7) := (G69_).trans rfl; have hcz18_8 : w17.cell? ⟨gb216, 8, none⟩ = some (.string a0_8) := (G70_).trans rfl; have hcz18_9 : w17.cell? ⟨gb216, 9, none⟩ = some G36_ := (G71_).trans rfl; have hcz18_10 : w17.cell? ⟨gb216, 10, none⟩ = some (.bool a0_10) := (G59_).trans rfl; have hcz18_11 : w17.cell? ⟨gb216, 11, none⟩ = some (.int .i64 a0_11) := (G60_).trans rfl; have hcz18_12 : w17.cell? ⟨gb216, 12, none⟩ = some (.int .i64 a0_12) := (G61_).trans rfl; have hfz18_0 := blk_frozen BK216.out 0; have hfz18_1 := blk_frozen BK216.out 1; have hfz18_2 := blk_frozen BK216.out 2; have hfz18_3 := blk_frozen BK216.out 3; have hfz18_4 := blk_frozen BK216.out 4; have hfz18_5 := blk_frozen BK216.out 5; have hfz18_6 := blk_frozen BK216.out 6; have hfz18_7 := blk_frozen BK216.out 7; have hfz18_8 := blk_frozen BK216.out 8; have hfz18_9 := blk_frozen BK216.out 9; have hfz18_10 := blk_frozen BK216.out 10; have hfz18_11 := blk_frozen BK216.out 11; have hfz18_12 := blk_frozen BK216.out 12; have hcz19_0 : w17.cell? ⟨gb233, 0, none⟩ = some (.int .i64 t218) := (G87_).trans rfl; have hcz19_1 : w17.cell? ⟨gb233, 1, none⟩ = some (.int .i64 t219) := (G88_).trans rfl; have hcz19_2 : w17.cell? ⟨gb233, 2, none⟩ = some (.int .i64 t220) := (G89_).trans rfl; have hcz19_3 : w17.cell? ⟨gb233, 3, none⟩ = some (.int .i64 t221) := (G90_).trans rfl; have hcz19_4 : w17.cell? ⟨gb233, 4, none⟩ = some (.string t222) := (G91_).trans rfl; have hcz19_5 : w17.cell? ⟨gb233, 5, none⟩ = some (.int .i64 t223) := (G92_).trans rfl; have hcz19_6 : w17.cell? ⟨gb233, 6, none⟩ = some (.int .i64 t224) := (G93_).trans rfl; have hcz19_7 : w17.cell? ⟨gb233, 7, none⟩ = some (.bool t225) := (G94_).trans rfl; have hcz19_8 : w17.cell? ⟨gb233, 8, none⟩ = some (.string t226) := (G95_).trans rfl; have hcz19_9 : w17.cell? ⟨gb233, 9, none⟩ = some (.slice Ao15 t227.length co15) := (G96_).trans rfl; have hcz19_10 : w17.cell? ⟨gb233, 10, none⟩ = some (.bool t230) := (G82_).trans rfl; have hcz19_11 : w17.cell? ⟨gb233, 11, none⟩ = some (.int .i64 t231) := (G83_).trans rfl; have hcz19_12 : w17.cell? ⟨gb233, 12, none⟩ = some (.int .i64 t232) := (G84_).trans rfl; have hfz19_0 := blk_frozen BK233.out 0; have hfz19_1 := blk_frozen BK233.out 1; have hfz19_2 := blk_frozen BK233.out 2; have hfz19_3 := blk_frozen BK233.out 3; have hfz19_4 := blk_frozen BK233.out 4; have hfz19_5 := blk_frozen BK233.out 5; have hfz19_6 := blk_frozen BK233.out 6; have hfz19_7 := blk_frozen BK233.out 7; have hfz19_8 := blk_frozen BK233.out 8; have hfz19_9 := blk_frozen BK233.out 9; have hfz19_10 := blk_frozen BK233.out 10; have hfz19_11 := blk_frozen BK233.out 11; have hfz19_12 := blk_frozen BK233.out 12; have hcz20_0 : w17.cell? ⟨gb217, 0, none⟩ = some (.int .i64 0) := (blk_cell BK217.out 0).trans rfl; have hcz20_1 : w17.cell? ⟨gb217, 1, none⟩ = some (.int .i64 0) := (blk_cell BK217.out 1).trans rfl; have hcz20_2 : w17.cell? ⟨gb217, 2, none⟩ = some (.int .i64 0) := (blk_cell BK217.out 2).trans rfl; have hcz20_3 : w17.cell? ⟨gb217, 3, none⟩ = some (.int .i64 0) := (blk_cell BK217.out 3).trans rfl; have hcz20_4 : w17.cell? ⟨gb217, 4, none⟩ = some (.string (⟨#[]⟩ : ByteArray)) := (blk_cell BK217.out 4).trans rfl; have hcz20_5 : w17.cell? ⟨gb217, 5, none⟩ = some (.int .i64 0) := (blk_cell BK217.out 5).trans rfl; have hcz20_6 : w17.cell? ⟨gb217, 6, none⟩ = some (.int .i64 0) := (blk_cell BK217.out 6).trans rfl; have hcz20_7 : w17.cell? ⟨gb217, 7, none⟩ = some (.bool false) := (blk_cell BK217.out 7).trans rfl; have hcz20_8 : w17.cell? ⟨gb217, 8, none⟩ = some (.string (⟨#[]⟩ : ByteArray)) := (blk_cell BK217.out 8).trans rfl; have hcz20_9 : w17.cell? ⟨gb217, 9, none⟩ = some (.slice none 0 0) := (blk_cell BK217.out 9).trans rfl; have hcz20_10 : w17.cell? ⟨gb217, 10, none⟩ = some (.bool false) := (blk_cell BK217.out 10).trans rfl; have hcz20_11 : w17.cell? ⟨gb217, 11, none⟩ = some (.int .i64 0) := (blk_cell BK217.out 11).trans rfl; have hcz20_12 : w17.cell? ⟨gb217, 12, none⟩ = some (.int .i64 0) := (blk_cell BK217.out 12).trans rfl; have hfz20_0 := blk_frozen BK217.out 0; have hfz20_1 := blk_frozen BK217.out 1; have hfz20_2 := blk_frozen BK217.out 2; have hfz20_3 := blk_frozen BK217.out 3; have hfz20_4 := blk_frozen BK217.out 4; have hfz20_5 := blk_frozen BK217.out 5; have hfz20_6 := blk_frozen BK217.out 6; have hfz20_7 := blk_frozen BK217.out 7; have hfz20_8 := blk_frozen BK217.out 8; have hfz20_9 := blk_frozen BK217.out 9; have hfz20_10 := blk_frozen BK217.out 10; have hfz20_11 := blk_frozen BK217.out 11; have hfz20_12 := blk_frozen BK217.out 12))
   refine bodyPost_ret (results_ct rfl _ _ gb217 29 #[.int .i64 t218, .int .i64 t219, .int .i64 t220, .int .i64 t221, .string t222, .int .i64 t223, .int .i64 1, .bool t225, .string t226, .slice Ao15 t227.length co15, .bool t230, .int .i64 t231, .int .i64 t232] (0, 0) _ rfl (by G0_; refine blk_put (cs := #[.int .i64 t218, .int .i64 t219, .int .i64 t220, .int .i64 t221, .string t222, .int .i64 t223, .int .i64 1, .bool t225, .string t226, .slice Ao15 t227.length co15, .bool t230, .int .i64 t231, .int .i64 0]) ?_ 12 _ rfl; G0_; refine blk_put (cs := #[.int .i64 t218, .int .i64 t219, .int .i64 t220, .int .i64 t221, .string t222, .int .i64 t223, .int .i64 1, .bool t225, .string t226, .slice Ao15 t227.length co15, .bool t230, .int .i64 0, .int .i64 0]) ?_ 11 _ rfl; G0_; refine blk_put (cs := #[.int .i64 t218, .int .i64 t219, .int .i64 t220, .int .i64 t221, .string t222, .int .i64 t223, .int .i64 1, .bool t225, .string t226, .slice Ao15 t227.length co15, .bool false, .int .i64 0, .int .i64 0]) ?_ 10 _ rfl; G0_; refine blk_put (cs := #[.int .i64 t218, .int .i64 t219, .int .i64 t220, .int .i64 t221, .string t222, .int .i64 t223, .int .i64 1, .bool t225, .string t226, .slice none 0 0, .bool false, .int .i64 0, .int .i64 0]) ?_ 9 _ rfl; G0_; refine blk_put (cs := #[.int .i64 t218, .int .i64 t219, .int .i64 t220, .int .i64 t221, .string t222, .int .i64 t223, .int .i64 1, .bool t225, .string (⟨#[]⟩ : ByteArray), .slice none 0 0, .bool false, .int .i64 0, .int .i64 0]) ?_ 8 _ rfl; G0_; refine blk_put (cs := #[.int .i64 t218, .int .i64 t219, .int .i64 t220, .int .i64 t221, .string t222, .int .i64 t223, .int .i64 1, .bool false, .string (⟨#[]⟩ : ByteArray), .slice none 0 0, .bool false, .int .i64 0, .int .i64 0]) ?_ 7 _ rfl; G0_; refine blk_put (cs := G16_) ?_ 6 _ rfl; G0_; refine blk_put (cs := G17_) ?_ 5 _ rfl; G0_; refine blk_put (cs := G12_) ?_ 4 _ rfl; G0_; refine blk_put (cs := G13_) ?_ 3 _ rfl; G0_; refine blk_put (cs := G14_) ?_ 2 _ rfl; G0_; refine blk_put (cs := G15_) ?_ 1 _ rfl; G0_; refine blk_put (cs := G2_) ?_ 0 _ rfl; G0_; refine blk_far ?_ NB217_233.out _; G0_; exact BK217.out) Try.underlying29 rfl (by kernel_rfl)) rfl ?_
   exact ⟨_, by first | rfl | (simp [errW_none, errW_some] <;> rfl) | (simp [*, errW_none, errW_some] <;> rfl), by G6_; exact Kd.R_mono (Kd.R_far (p := ⟨gb217, 12, none⟩) (Kd.R_far (p := ⟨gb217, 11, none⟩) (Kd.R_far (p := ⟨gb217, 10, none⟩) (Kd.R_far (p := ⟨gb217, 9, none⟩) (Kd.R_far (p := ⟨gb217, 8, none⟩) (Kd.R_far (p := ⟨gb217, 7, none⟩) (Kd.R_far (p := ⟨gb217, 6, none⟩) (Kd.R_far (p := ⟨gb217, 5, none⟩) (Kd.R_far (p := ⟨gb217, 4, none⟩) (Kd.R_far (p := ⟨gb217, 3, none⟩) (Kd.R_far (p := ⟨gb217, 2, none⟩) (Kd.R_far (p := ⟨gb217, 1, none⟩) (Kd.R_far (p := ⟨gb217, 0, none⟩) (Kd.R_far (p := ⟨gb233, 6, none⟩) (Kd.R_types (Kd.R_types HO229.out BK233.out (by decide)) BK217.out (by decide)) (fun _ hk => hk.1.2) (.int .i64 1)) G20_ (.int .i64 t218)) G20_ (.int .i64 t219)) G20_ (.int .i64 t220)) G20_ (.int .i64 t221)) G20_ (.string t222)) G20_ (.int .i64 t223)) G20_ (.int .i64 1)) G20_ (.bool t225)) G20_ (.string t226)) G20_ (.slice Ao15 t227.length co15)) G20_ (.bool t230)) G20_ (.int .i64 t231)) G20_ (.int .i64 t232)) (fun _ hk => trivial), by repeat G5_⟩
  ·rw [if_neg c5] at H
   have c5b0 : (a0_6 == 0) = false := beq_eq_false_iff_ne.mpr c5
   have c5b1 : (a0_6 != 0) = true := bne_iff_ne.mpr c5
   J6_
   go_enter Try.func64, Try.ntmps64
   go_wp2_with (first | (G58_; refine box_event ?hg (N := 1) ?hd (cs := G1_) (t := 29) ?hr ?_; (case hd => rfl); (case hg => rfl); G22_; intro gb216 hg w21 hbox hb; have n0_ := Aside0.mk G42_; have n1_ := Aside0.mk (hbox); have n2_ := Aside0.mk (G32_); have n3_ := Aside0.mk (G32_); clear HB; have HB := n0_; have BK216 := n1_; have GW216 := n2_; have GE216 := n3_; clear n0_ n1_ n2_ n3_; clear hb hbox hg) | (G39_; refine box_event ?hg (N := 2) ?hd (cs := G2_) (t := 29) ?hr ?_; (case hd => rfl); (case hg => rfl); G22_; intro gb217 hg w22 hbox hb; have n0_ := Aside0.mk G28_; have n1_ := Aside0.mk (below_step G9_ hb); have n2_ := Aside0.mk (hbox); have n3_ := Aside0.mk (G38_); have n4_ := Aside0.mk (G38_); have n5_ := Aside0.mk (G76_); have n6_ := Aside0.mk (G73_); clear BK216; clear HB; have BK216 := n0_; have HB := n1_; have BK217 := n2_; have GW217 := n3_; have GE217 := n4_; have NB216_217 := n5_; have NB217_216 := n6_; clear n0_ n1_ n2_ n3_ n4_ n5_ n6_; clear hb hbox hg; have hnb23 := NB216_217.out; have hnc23 := NB217_216.out; have hcz24_0 : w22.cell? ⟨gb216, 0, none⟩ = some (.int .i64 a0_0) := (G62_).trans rfl; have hcz24_1 : w22.cell? ⟨gb216, 1, none⟩ = some (.int .i64 a0_1) := (G63_).trans rfl; have hcz24_2 : w22.cell? ⟨gb216, 2, none⟩ = some (.int .i64 a0_2) := (G64_).trans rfl; have hcz24_3 : w22.cell? ⟨gb216, 3, none⟩ = some (.int .i64 a0_3) := (G65_).trans rfl; have hcz24_4 : w22.cell? ⟨gb216, 4, none⟩ = some (.string a0_4) := (G66_).trans rfl; have hcz24_5 : w22.cell? ⟨gb216, 5, none⟩ = some (.int .i64 a0_5) := (G67_).trans rfl; have hcz24_6 : w22.cell? ⟨gb216, 6, none⟩ = some (.int .i64 a0_6) := (G68_).trans rfl; have hcz24_7 : w22.cell? ⟨gb216, 7, none⟩ = some (.bool a0_7) := (G69_).trans rfl; have hcz24_8 : w22.cell? ⟨gb216, 8, none⟩ = some (.string a0_8) := (G70_).trans rfl; have hcz24_9 : w22.cell? ⟨gb216, 9, none⟩ = some G36_ := (G71_).trans rfl; have hcz24_10 : w22.cell? ⟨gb216, 10, none⟩ = some (.bool a0_10) := (G59_).trans rfl; have hcz24_11 : w22.cell? ⟨gb216, 11, none⟩ = some (.int .i64 a0_11) := (G60_).trans rfl; have hcz24_12 : w22.cell? ⟨gb216, 12, none⟩ = some (.int .i64 a0_12) := (G61_).trans rfl; have hfz24_0 := blk_frozen BK216.out 0; have hfz24_1 := blk_frozen BK216.out 1; have hfz24_2 := blk_frozen BK216.out 2; have hfz24_3 := blk_frozen BK216.out 3; have hfz24_4 := blk_frozen BK216.out 4; have hfz24_5 := blk_frozen BK216.out 5; have hfz24_6 := blk_frozen BK216.out 6; have hfz24_7 := blk_frozen BK216.out 7; have hfz24_8 := blk_frozen BK216.out 8; have hfz24_9 := blk_frozen BK216.out 9; have hfz24_10 := blk_frozen BK216.out 10; have hfz24_11 := blk_frozen BK216.out 11; have hfz24_12 := blk_frozen BK216.out 12) | (G79_; refine goesL_ (some 6) rfl rfl Try.func134 (by kernel_rfl) rfl #[.agg G1_] rfl G8_ ?_; G29_; G85_; G53_; rintro e w25 ⟨v228, rfl, ho0, hb⟩; refine ⟨_, rfl, ?_⟩; have n0_ := Aside0.mk (Kd.R_lower ho0 (below_size G4_)); have n1_ := Aside0.mk G28_; have n2_ := Aside0.mk G30_; have n3_ := Aside0.mk G100_; clear BK216; clear BK217; clear HB; have HO229 := n0_; have BK216 := n1_; have BK217 := n2_; have HB := n3_; clear n0_ n1_ n2_ n3_; (try clear hb); (try clear hb2); (try clear hk); (try clear hi); (try clear ho0)) | (G86_; refine box_event ?hg (N := 4) ?hd (cs := G2_) (t := 29) ?hr ?_; (case hd => rfl); (case hg => rfl); G22_; intro gb233 hg w26 hbox hb; have n0_ := Aside0.mk G99_; have n1_ := Aside0.mk G28_; have n2_ := Aside0.mk G30_; have n3_ := Aside0.mk G100_; have n4_ := Aside0.mk (hbox); have n5_ := Aside0.mk (G37_); have n6_ := Aside0.mk (G37_); have n7_ := Aside0.mk (G77_); have n8_ := Aside0.mk (G74_); have n9_ := Aside0.mk (G78_); have n10_ := Aside0.mk (G75_); clear HO229; clear BK216; clear BK217; clear HB; have HO229 := n0_; have BK216 := n1_; have BK217 := n2_; have HB := n3_; have BK233 := n4_; have GW233 := n5_; have GE233 := n6_; have NB216_233 := n7_; have NB233_216 := n8_; have NB217_233 := n9_; have NB233_217 := n10_; clear n0_ n1_ n2_ n3_ n4_ n5_ n6_ n7_ n8_ n9_ n10_; clear hb hbox hg; have hnb27 := NB233_216.out; have hnc27 := NB216_233.out; have hnb28 := NB233_217.out; have hnc28 := NB217_233.out; have hcz29_0 : w26.cell? ⟨gb233, 0, none⟩ = some (.int .i64 0) := (G87_).trans rfl; have hcz29_1 : w26.cell? ⟨gb233, 1, none⟩ = some (.int .i64 0) := (G88_).trans rfl; have hcz29_2 : w26.cell? ⟨gb233, 2, none⟩ = some (.int .i64 0) := (G89_).trans rfl; have hcz29_3 : w26.cell? ⟨gb233, 3, none⟩ = some (.int .i64 0) := (G90_).trans rfl; have hcz29_4 : w26.cell? ⟨gb233, 4, none⟩ = some (.string (⟨#[]⟩ : ByteArray)) := (G91_).trans rfl; have hcz29_5 : w26.cell? ⟨gb233, 5, none⟩ = some (.int .i64 0) := (G92_).trans rfl; have hcz29_6 : w26.cell? ⟨gb233, 6, none⟩ = some (.int .i64 0) := (G93_).trans rfl; have hcz29_7 : w26.cell? ⟨gb233, 7, none⟩ = some (.bool false) := (G94_).trans rfl; have hcz29_8 : w26.cell? ⟨gb233, 8, none⟩ = some (.string (⟨#[]⟩ : ByteArray)) := (G95_).trans rfl; have hcz29_9 : w26.cell? ⟨gb233, 9, none⟩ = some (.slice none 0 0) := (G96_).trans rfl; have hcz29_10 : w26.cell? ⟨gb233, 10, none⟩ = some (.bool false) := (G82_).trans rfl; have hcz29_11 : w26.cell? ⟨gb233, 11, none⟩ = some (.int .i64 0) := (G83_).trans rfl; have hcz29_12 : w26.cell? ⟨gb233, 12, none⟩ = some (.int .i64 0) := (G84_).trans rfl; have hfz29_0 := blk_frozen BK233.out 0; have hfz29_1 := blk_frozen BK233.out 1; have hfz29_2 := blk_frozen BK233.out 2; have hfz29_3 := blk_frozen BK233.out 3; have hfz29_4 := blk_frozen BK233.out 4; have hfz29_5 := blk_frozen BK233.out 5; have hfz29_6 := blk_frozen BK233.out 6; have hfz29_7 := blk_frozen BK233.out 7; have hfz29_8 := blk_frozen BK233.out 8; have hfz29_9 := blk_frozen BK233.out 9; have hfz29_10 := blk_frozen BK233.out 10; have hfz29_11 := blk_frozen BK233.out 11; have hfz29_12 := blk_frozen BK233.out 12; obtain ⟨Ao30, co30, eo30⟩ := Kd.R_slice HO229.out; subst eo30; have hcz31_0 : w26.cell? ⟨gb216, 0, none⟩ = some (.int .i64 a0_0) := (G62_).trans rfl; have hcz31_1 : w26.cell? ⟨gb216, 1, none⟩ = some (.int .i64 a0_1) := (G63_).trans rfl; have hcz31_2 : w26.cell? ⟨gb216, 2, none⟩ = some (.int .i64 a0_2) := (G64_).trans rfl; have hcz31_3 : w26.cell? ⟨gb216, 3, none⟩ = some (.int .i64 a0_3) := (G65_).trans rfl; have hcz31_4 : w26.cell? ⟨gb216, 4, none⟩ = some (.string a0_4) := (G66_).trans rfl; have hcz31_5 : w26.cell? ⟨gb216, 5, none⟩ = some (.int .i64 a0_5) := (G67_).trans rfl; have hcz31_6 : w26.cell? ⟨gb216, 6, none⟩ = some (.int .i64 a0_6) := (G68_).trans rfl; have hcz31_7 : w26.cell? ⟨gb216, 7, none⟩ = some (.bool a0_7) := (G69_).trans rfl; have hcz31_8 : w26.cell? ⟨gb216, 8, none⟩ = some (.string a0_8) := (G70_).trans rfl; have hcz31_9 : w26.cell? ⟨gb216, 9, none⟩ = some G36_ := (G71_).trans rfl; have hcz31_10 : w26.cell? ⟨gb216, 10, none⟩ = some (.bool a0_10) := (G59_).trans rfl; have hcz31_11 : w26.cell? ⟨gb216, 11, none⟩ = some (.int .i64 a0_11) := (G60_).trans rfl; have hcz31_12 : w26.cell? ⟨gb216, 12, none⟩ = some (.int .i64 a0_12) := (G61_).trans rfl; have hfz31_0 := blk_frozen BK216.out 0; have hfz31_1 := blk_frozen BK216.out 1; have hfz31_2 := blk_frozen BK216.out 2; have hfz31_3 := blk_frozen BK216.out 3; have hfz31_4 := blk_frozen BK216.out 4; have hfz31_5 := blk_frozen BK216.out 5; have hfz31_6 := blk_frozen BK216.out 6; have hfz31_7 := blk_frozen BK216.out 7; have hfz31_8 := blk_frozen BK216.out 8; have hfz31_9 := blk_frozen BK216.out 9; have hfz31_10 := blk_frozen BK216.out 10; have hfz31_11 := blk_frozen BK216.out 11; have hfz31_12 := blk_frozen BK216.out 12) | (G80_; refine goesL_ (some 8) rfl rfl Try.func18 (by kernel_rfl) rfl #[.agg G1_] rfl G8_ ?_; G56_; G72_; G53_; rintro e w32 ⟨rfl, hb⟩; refine ⟨_, rfl, ?_⟩; have n0_ := Aside0.mk (Kd.R_below (by G6_; exact (Kd.R_mono (Kd.R_far (p := ⟨gb233, 12, none⟩) (Kd.R_far (p := ⟨gb233, 11, none⟩) (Kd.R_far (p := ⟨gb233, 10, none⟩) (Kd.R_far (p := ⟨gb233, 9, none⟩) G7_ G20_ (.slice Ao30 t227.length co30)) G20_ (.bool t230)) G20_ (.int .i64 t231)) G20_ (.int .i64 t232)) (fun _ h_ => h_.1))) hb); have n1_ := Aside0.mk G10_; have n2_ := Aside0.mk G11_; have n3_ := Aside0.mk (blk_below (g := gb233) (o := .cells G43_ 29 (0, 0)) (by G0_; refine blk_put (cs := G45_) ?_ 12 _ rfl; G0_; refine blk_put (cs := G50_) ?_ 11 _ rfl; G0_; refine blk_put (cs := G47_) ?_ 10 _ rfl; G0_; refine blk_put (cs := G26_) ?_ 9 _ rfl; G0_; refine blk_put (cs := G19_) ?_ 8 _ rfl; G0_; refine blk_put (cs := G18_) ?_ 7 _ rfl; G0_; refine blk_put (cs := G16_) ?_ 6 _ rfl; G0_; refine blk_put (cs := G17_) ?_ 5 _ rfl; G0_; refine blk_put (cs := G12_) ?_ 4 _ rfl; G0_; refine blk_put (cs := G13_) ?_ 3 _ rfl; G0_; refine blk_put (cs := G14_) ?_ 2 _ rfl; G0_; refine blk_put (cs := G15_) ?_ 1 _ rfl; G0_; refine blk_put (cs := G2_) ?_ 0 _ rfl; G0_; exact BK233.out) hb); have n4_ := Aside0.mk (below_step (by repeat G5_) hb); clear HO229; clear BK216; clear BK217; clear BK233; clear HB; have HO229 := n0_; have BK216 := n1_; have BK217 := n2_; have BK233 := n3_; have HB := n4_; clear n0_ n1_ n2_ n3_ n4_; (try clear hb); (try clear hb2); (try clear hk); (try clear hi); have hcz33_0 : w32.cell? ⟨gb216, 0, none⟩ = some (.int .i64 a0_0) := (G62_).trans rfl; have hcz33_1 : w32.cell? ⟨gb216, 1, none⟩ = some (.int .i64 a0_1) := (G63_).trans rfl; have hcz33_2 : w32.cell? ⟨gb216, 2, none⟩ = some (.int .i64 a0_2) := (G64_).trans rfl; have hcz33_3 : w32.cell? ⟨gb216, 3, none⟩ = some (.int .i64 a0_3) := (G65_).trans rfl; have hcz33_4 : w32.cell? ⟨gb216, 4, none⟩ = some (.string a0_4) := (G66_).trans rfl; have hcz33_5 : w32.cell? ⟨gb216, 5, none⟩ = some (.int .i64 a0_5) := (G67_).trans rfl; have hcz33_6 : w32.cell? ⟨gb216, 6, none⟩ = some (.int .i64 a0_6) := (G68_).trans rfl; have hcz33_7 : w32.cell? ⟨gb216, 7, none⟩ = some (.bool a0_7) := (G69_).trans rfl; have hcz33_8 : w32.cell? ⟨gb216, 8, none⟩ = some (.string a0_8) := (G70_).trans rfl; have hcz33_9 : w32.cell? ⟨gb216, 9, none⟩ = some G36_ := (G71_).trans rfl; have hcz33_10 : w32.cell? ⟨gb216, 10, none⟩ = some (.bool a0_10) := (G59_).trans rfl; have hcz33_11 : w32.cell? ⟨gb216, 11, none⟩ = some (.int .i64 a0_11) := (G60_).trans rfl; have hcz33_12 : w32.cell? ⟨gb216, 12, none⟩ = some (.int .i64 a0_12) := (G61_).trans rfl; have hfz33_0 := blk_frozen BK216.out 0; have hfz33_1 := blk_frozen BK216.out 1; have hfz33_2 := blk_frozen BK216.out 2; have hfz33_3 := blk_frozen BK216.out 3; have hfz33_4 := blk_frozen BK216.out 4; have hfz33_5 := blk_frozen BK216.out 5; have hfz33_6 := blk_frozen BK216.out 6; have hfz33_7 := blk_frozen BK216.out 7; have hfz33_8 := blk_frozen BK216.out 8; have hfz33_9 := blk_frozen BK216.out 9; have hfz33_10 := blk_frozen BK216.out 10; have hfz33_11 := blk_frozen BK216.out 11; have hfz33_12 := blk_frozen BK216.out 12; have hcz34_0 : w32.cell? ⟨gb233, 0, none⟩ = some (.int .i64 t218) := (G87_).trans rfl; have hcz34_1 : w32.cell? ⟨gb233, 1, none⟩ = some (.int .i64 t219) := (G88_).trans rfl; have hcz34_2 : w32.cell? ⟨gb233, 2, none⟩ = some (.int .i64 t220) := (G89_).trans rfl; have hcz34_3 : w32.cell? ⟨gb233, 3, none⟩ = some (.int .i64 t221) := (G90_).trans rfl; have hcz34_4 : w32.cell? ⟨gb233, 4, none⟩ = some (.string t222) := (G91_).trans rfl; have hcz34_5 : w32.cell? ⟨gb233, 5, none⟩ = some (.int .i64 t223) := (G92_).trans rfl; have hcz34_6 : w32.cell? ⟨gb233, 6, none⟩ = some (.int .i64 t224) := (G93_).trans rfl; have hcz34_7 : w32.cell? ⟨gb233, 7, none⟩ = some (.bool t225) := (G94_).trans rfl; have hcz34_8 : w32.cell? ⟨gb233, 8, none⟩ = some (.string t226) := (G95_).trans rfl; have hcz34_9 : w32.cell? ⟨gb233, 9, none⟩ = some (.slice Ao30 t227.length co30) := (G96_).trans rfl; have hcz34_10 : w32.cell? ⟨gb233, 10, none⟩ = some (.bool t230) := (G82_).trans rfl; have hcz34_11 : w32.cell? ⟨gb233, 11, none⟩ = some (.int .i64 t231) := (G83_).trans rfl; have hcz34_12 : w32.cell? ⟨gb233, 12, none⟩ = some (.int .i64 t232) := (G84_).trans rfl; have hfz34_0 := blk_frozen BK233.out 0; have hfz34_1 := blk_frozen BK233.out 1; have hfz34_2 := blk_frozen BK233.out 2; have hfz34_3 := blk_frozen BK233.out 3; have hfz34_4 := blk_frozen BK233.out 4; have hfz34_5 := blk_frozen BK233.out 5; have hfz34_6 := blk_frozen BK233.out 6; have hfz34_7 := blk_frozen BK233.out 7; have hfz34_8 := blk_frozen BK233.out 8; have hfz34_9 := blk_frozen BK233.out 9; have hfz34_10 := blk_frozen BK233.out 10; have hfz34_11 := blk_frozen BK233.out 11; have hfz34_12 := blk_frozen BK233.out 12; have hcz35_0 : w32.cell? ⟨gb217, 0, none⟩ = some (.int .i64 0) := (blk_cell BK217.out 0).trans rfl; have hcz35_1 : w32.cell? ⟨gb217, 1, none⟩ = some (.int .i64 0) := (blk_cell BK217.out 1).trans rfl; have hcz35_2 : w32.cell? ⟨gb217, 2, none⟩ = some (.int .i64 0) := (blk_cell BK217.out 2).trans rfl; have hcz35_3 : w32.cell? ⟨gb217, 3, none⟩ = some (.int .i64 0) := (blk_cell BK217.out 3).trans rfl; have hcz35_4 : w32.cell? ⟨gb217, 4, none⟩ = some (.string (⟨#[]⟩ : ByteArray)) := (blk_cell BK217.out 4).trans rfl; have hcz35_5 : w32.cell? ⟨gb217, 5, none⟩ = some (.int .i64 0) := (blk_cell BK217.out 5).trans rfl; have hcz35_6 : w32.cell? ⟨gb217, 6, none⟩ = some (.int .i64 0) := (blk_cell BK217.out 6).trans rfl; have hcz35_7 : w32.cell? ⟨gb217, 7, none⟩ = some (.bool false) := (blk_cell BK217.out 7).trans rfl; have hcz35_8 : w32.cell? ⟨gb217, 8, none⟩ = some (.string (⟨#[]⟩ : ByteArray)) := (blk_cell BK217.out 8).trans rfl; have hcz35_9 : w32.cell? ⟨gb217, 9, none⟩ = some (.slice none 0 0) := (blk_cell BK217.out 9).trans rfl; have hcz35_10 : w32.cell? ⟨gb217, 10, none⟩ = some (.bool false) := (blk_cell BK217.out 10).trans rfl; have hcz35_11 : w32.cell? ⟨gb217, 11, none⟩ = some (.int .i64 0) := (blk_cell BK217.out 11).trans rfl; have hcz35_12 : w32.cell? ⟨gb217, 12, none⟩ = some (.int .i64 0) := (blk_cell BK217.out 12).trans rfl; have hfz35_0 := blk_frozen BK217.out 0; have hfz35_1 := blk_frozen BK217.out 1; have hfz35_2 := blk_frozen BK217.out 2; have hfz35_3 := blk_frozen BK217.out 3; have hfz35_4 := blk_frozen BK217.out 4; have hfz35_5 := blk_frozen BK217.out 5; have hfz35_6 := blk_frozen BK217.out 6; have hfz35_7 := blk_frozen BK217.out 7; have hfz35_8 := blk_frozen BK217.out 8; have hfz35_9 := blk_frozen BK217.out 9; have hfz35_10 := blk_frozen BK217.out 10; have hfz35_11 := blk_frozen BK217.out 11; have hfz35_12 := blk_frozen BK217.out 12))
   refine bodyPost_ret (results_ct rfl _ _ gb217 29 G43_ (0, 0) _ rfl (by G0_; refine blk_put (cs := G45_) ?_ 12 _ rfl; G0_; refine blk_put (cs := G50_) ?_ 11 _ rfl; G0_; refine blk_put (cs := G47_) ?_ 10 _ rfl; G0_; refine blk_put (cs := G26_) ?_ 9 _ rfl; G0_; refine blk_put (cs := G19_) ?_ 8 _ rfl; G0_; refine blk_put (cs := G18_) ?_ 7 _ rfl; G0_; refine blk_put (cs := G16_) ?_ 6 _ rfl; G0_; refine blk_put (cs := G17_) ?_ 5 _ rfl; G0_; refine blk_put (cs := G12_) ?_ 4 _ rfl; G0_; refine blk_put (cs := G13_) ?_ 3 _ rfl; G0_; refine blk_put (cs := G14_) ?_ 2 _ rfl; G0_; refine blk_put (cs := G15_) ?_ 1 _ rfl; G0_; refine blk_put (cs := G2_) ?_ 0 _ rfl; G0_; exact BK217.out) Try.underlying29 rfl (by kernel_rfl)) rfl ?_
   exact ⟨_, by first | rfl | (simp [errW_none, errW_some] <;> rfl) | (simp [*, errW_none, errW_some] <;> rfl), by G6_; exact Kd.R_mono (Kd.R_far (p := ⟨gb217, 12, none⟩) (Kd.R_far (p := ⟨gb217, 11, none⟩) (Kd.R_far (p := ⟨gb217, 10, none⟩) (Kd.R_far (p := ⟨gb217, 9, none⟩) G40_ G20_ (.slice Ao30 t227.length co30)) G20_ (.bool t230)) G20_ (.int .i64 t231)) G20_ (.int .i64 t232)) (fun _ hk => trivial), by repeat G5_⟩
 ·replace c4 := Bool.eq_false_iff.mpr c4
  subst c4
  rw [if_neg (show ¬ (false = true) by decide)] at H
  J6_
  go_enter Try.func64, Try.ntmps64
  go_wp2_with (first | (G58_; refine box_event ?hg (N := 1) ?hd (cs := G1_) (t := 29) ?hr ?_; (case hd => rfl); (case hg => rfl); G22_; intro gb216 hg w36 hbox hb; have n0_ := Aside0.mk G42_; have n1_ := Aside0.mk (hbox); have n2_ := Aside0.mk (G32_); have n3_ := Aside0.mk (G32_); clear HB; have HB := n0_; have BK216 := n1_; have GW216 := n2_; have GE216 := n3_; clear n0_ n1_ n2_ n3_; clear hb hbox hg) | (G39_; refine box_event ?hg (N := 2) ?hd (cs := G2_) (t := 29) ?hr ?_; (case hd => rfl); (case hg => rfl); G22_; intro gb217 hg w37 hbox hb; have n0_ := Aside0.mk G28_; have n1_ := Aside0.mk (below_step G9_ hb); have n2_ := Aside0.mk (hbox); have n3_ := Aside0.mk (G38_); have n4_ := Aside0.mk (G38_); have n5_ := Aside0.mk (G76_); have n6_ := Aside0.mk (G73_); clear BK216; clear HB; have BK216 := n0_; have HB := n1_; have BK217 := n2_; have GW217 := n3_; have GE217 := n4_; have NB216_217 := n5_; have NB217_216 := n6_; clear n0_ n1_ n2_ n3_ n4_ n5_ n6_; clear hb hbox hg; have hnb38 := NB216_217.out; have hnc38 := NB217_216.out; have hcz39_0 : w37.cell? ⟨gb216, 0, none⟩ = some (.int .i64 a0_0) := (G62_).trans rfl; have hcz39_1 : w37.cell? ⟨gb216, 1, none⟩ = some (.int .i64 a0_1) := (G63_).trans rfl; have hcz39_2 : w37.cell? ⟨gb216, 2, none⟩ = some (.int .i64 a0_2) := (G64_).trans rfl; have hcz39_3 : w37.cell? ⟨gb216, 3, none⟩ = some (.int .i64 a0_3) := (G65_).trans rfl; have hcz39_4 : w37.cell? ⟨gb216, 4, none⟩ = some (.string a0_4) := (G66_).trans rfl; have hcz39_5 : w37.cell? ⟨gb216, 5, none⟩ = some (.int .i64 a0_5) := (G67_).trans rfl; have hcz39_6 : w37.cell? ⟨gb216, 6, none⟩ = some (.int .i64 a0_6) := (G68_).trans rfl; have hcz39_7 : w37.cell? ⟨gb216, 7, none⟩ = some (.bool a0_7) := (G69_).trans rfl; have hcz39_8 : w37.cell? ⟨gb216, 8, none⟩ = some (.string a0_8) := (G70_).trans rfl; have hcz39_9 : w37.cell? ⟨gb216, 9, none⟩ = some G36_ := (G71_).trans rfl; have hcz39_10 : w37.cell? ⟨gb216, 10, none⟩ = some (.bool a0_10) := (G59_).trans rfl; have hcz39_11 : w37.cell? ⟨gb216, 11, none⟩ = some (.int .i64 a0_11) := (G60_).trans rfl; have hcz39_12 : w37.cell? ⟨gb216, 12, none⟩ = some (.int .i64 a0_12) := (G61_).trans rfl; have hfz39_0 := blk_frozen BK216.out 0; have hfz39_1 := blk_frozen BK216.out 1; have hfz39_2 := blk_frozen BK216.out 2; have hfz39_3 := blk_frozen BK216.out 3; have hfz39_4 := blk_frozen BK216.out 4; have hfz39_5 := blk_frozen BK216.out 5; have hfz39_6 := blk_frozen BK216.out 6; have hfz39_7 := blk_frozen BK216.out 7; have hfz39_8 := blk_frozen BK216.out 8; have hfz39_9 := blk_frozen BK216.out 9; have hfz39_10 := blk_frozen BK216.out 10; have hfz39_11 := blk_frozen BK216.out 11; have hfz39_12 := blk_frozen BK216.out 12) | (G79_; refine goesL_ (some 6) rfl rfl Try.func134 (by kernel_rfl) rfl #[.agg G1_] rfl G8_ ?_; G29_; G85_; G53_; rintro e w40 ⟨v228, rfl, ho0, hb⟩; refine ⟨_, rfl, ?_⟩; have n0_ := Aside0.mk (Kd.R_lower ho0 (below_size G4_)); have n1_ := Aside0.mk G28_; have n2_ := Aside0.mk G30_; have n3_ := Aside0.mk G100_; clear BK216; clear BK217; clear HB; have HO229 := n0_; have BK216 := n1_; have BK217 := n2_; have HB := n3_; clear n0_ n1_ n2_ n3_; (try clear hb); (try clear hb2); (try clear hk); (try clear hi); (try clear ho0)) | (G86_; refine box_event ?hg (N := 4) ?hd (cs := G2_) (t := 29) ?hr ?_; (case hd => rfl); (case hg => rfl); G22_; intro gb233 hg w41 hbox hb; have n0_ := Aside0.mk G99_; have n1_ := Aside0.mk G28_; have n2_ := Aside0.mk G30_; have n3_ := Aside0.mk G100_; have n4_ := Aside0.mk (hbox); have n5_ := Aside0.mk (G37_); have n6_ := Aside0.mk (G37_); have n7_ := Aside0.mk (G77_); have n8_ := Aside0.mk (G74_); have n9_ := Aside0.mk (G78_); have n10_ := Aside0.mk (G75_); clear HO229; clear BK216; clear BK217; clear HB; have HO229 := n0_; have BK216 := n1_; have BK217 := n2_; have HB := n3_; have BK233 := n4_; have GW233 := n5_; have GE233 := n6_; have NB216_233 := n7_; have NB233_216 := n8_; have NB217_233 := n9_; have NB233_217 := n10_; clear n0_ n1_ n2_ n3_ n4_ n5_ n6_ n7_ n8_ n9_ n10_; clear hb hbox hg; have hnb42 := NB233_216.out; have hnc42 := NB216_233.out; have hnb43 := NB233_217.out; have hnc43 := NB217_233.out; have hcz44_0 : w41.cell? ⟨gb233, 0, none⟩ = some (.int .i64 0) := (G87_).trans rfl; have hcz44_1 : w41.cell? ⟨gb233, 1, none⟩ = some (.int .i64 0) := (G88_).trans rfl; have hcz44_2 : w41.cell? ⟨gb233, 2, none⟩ = some (.int .i64 0) := (G89_).trans rfl; have hcz44_3 : w41.cell? ⟨gb233, 3, none⟩ = some (.int .i64 0) := (G90_).trans rfl; have hcz44_4 : w41.cell? ⟨gb233, 4, none⟩ = some (.string (⟨#[]⟩ : ByteArray)) := (G91_).trans rfl; have hcz44_5 : w41.cell? ⟨gb233, 5, none⟩ = some (.int .i64 0) := (G92_).trans rfl; have hcz44_6 : w41.cell? ⟨gb233, 6, none⟩ = some (.int .i64 0) := (G93_).trans rfl; have hcz44_7 : w41.cell? ⟨gb233, 7, none⟩ = some (.bool false) := (G94_).trans rfl; have hcz44_8 : w41.cell? ⟨gb233, 8, none⟩ = some (.string (⟨#[]⟩ : ByteArray)) := (G95_).trans rfl; have hcz44_9 : w41.cell? ⟨gb233, 9, none⟩ = some (.slice none 0 0) := (G96_).trans rfl; have hcz44_10 : w41.cell? ⟨gb233, 10, none⟩ = some (.bool false) := (G82_).trans rfl; have hcz44_11 : w41.cell? ⟨gb233, 11, none⟩ = some (.int .i64 0) := (G83_).trans rfl; have hcz44_12 : w41.cell? ⟨gb233, 12, none⟩ = some (.int .i64 0) := (G84_).trans rfl; have hfz44_0 := blk_frozen BK233.out 0; have hfz44_1 := blk_frozen BK233.out 1; have hfz44_2 := blk_frozen BK233.out 2; have hfz44_3 := blk_frozen BK233.out 3; have hfz44_4 := blk_frozen BK233.out 4; have hfz44_5 := blk_frozen BK233.out 5; have hfz44_6 := blk_frozen BK233.out 6; have hfz44_7 := blk_frozen BK233.out 7; have hfz44_8 := blk_frozen BK233.out 8; have hfz44_9 := blk_frozen BK233.out 9; have hfz44_10 := blk_frozen BK233.out 10; have hfz44_11 := blk_frozen BK233.out 11; have hfz44_12 := blk_frozen BK233.out 12; obtain ⟨Ao45, co45, eo45⟩ := Kd.R_slice HO229.out; subst eo45; have hcz46_0 : w41.cell? ⟨gb216, 0, none⟩ = some (.int .i64 a0_0) := (G62_).trans rfl; have hcz46_1 : w41.cell? ⟨gb216, 1, none⟩ = some (.int .i64 a0_1) := (G63_).trans rfl; have hcz46_2 : w41.cell? ⟨gb216, 2, none⟩ = some (.int .i64 a0_2) := (G64_).trans rfl; have hcz46_3 : w41.cell? ⟨gb216, 3, none⟩ = some (.int .i64 a0_3) := (G65_).trans rfl; have hcz46_4 : w41.cell? ⟨gb216, 4, none⟩ = some (.string a0_4) := (G66_).trans rfl; have hcz46_5 : w41.cell? ⟨gb216, 5, none⟩ = some (.int .i64 a0_5) := (G67_).trans rfl; have hcz46_6 : w41.cell? ⟨gb216, 6, none⟩ = some (.int .i64 a0_6) := (G68_).trans rfl; have hcz46_7 : w41.cell? ⟨gb216, 7, none⟩ = some (.bool a0_7) := (G69_).trans rfl; have hcz46_8 : w41.cell? ⟨gb216, 8, none⟩ = some (.string a0_8) := (G70_).trans rfl; have hcz46_9 : w41.cell? ⟨gb216, 9, none⟩ = some G36_ := (G71_).trans rfl; have hcz46_10 : w41.cell? ⟨gb216, 10, none⟩ = some (.bool a0_10) := (G59_).trans rfl; have hcz46_11 : w41.cell? ⟨gb216, 11, none⟩ = some (.int .i64 a0_11) := (G60_).trans rfl; have hcz46_12 : w41.cell? ⟨gb216, 12, none⟩ = some (.int .i64 a0_12) := (G61_).trans rfl; have hfz46_0 := blk_frozen BK216.out 0; have hfz46_1 := blk_frozen BK216.out 1; have hfz46_2 := blk_frozen BK216.out 2; have hfz46_3 := blk_frozen BK216.out 3; have hfz46_4 := blk_frozen BK216.out 4; have hfz46_5 := blk_frozen BK216.out 5; have hfz46_6 := blk_frozen BK216.out 6; have hfz46_7 := blk_frozen BK216.out 7; have hfz46_8 := blk_frozen BK216.out 8; have hfz46_9 := blk_frozen BK216.out 9; have hfz46_10 := blk_frozen BK216.out 10; have hfz46_11 := blk_frozen BK216.out 11; have hfz46_12 := blk_frozen BK216.out 12) | (G80_; refine goesL_ (some 8) rfl rfl Try.func18 (by kernel_rfl) rfl #[.agg G1_] rfl G8_ ?_; (with_reducible refine (impl_StreamOk.calls k a0_0 a0_1 a0_2 a0_3 a0_4 a0_5 a0_6 a0_7 a0_8 _ _ l0_9 a0_10 a0_11 a0_12 false _ ?side1 ?side2 A3.out).mono ?_); G72_; G53_; rintro e w47 ⟨rfl, hb⟩; refine ⟨_, rfl, ?_⟩; have n0_ := Aside0.mk (Kd.R_below (by G6_; exact (Kd.R_mono (Kd.R_far (p := ⟨gb233, 12, none⟩) (Kd.R_far (p := ⟨gb233, 11, none⟩) (Kd.R_far (p := ⟨gb233, 10, none⟩) (Kd.R_far (p := ⟨gb233, 9, none⟩) G7_ G20_ (.slice Ao45 t227.length co45)) G20_ (.bool t230)) G20_ (.int .i64 t231)) G20_ (.int .i64 t232)) (fun _ h_ => h_.1))) hb); have n1_ := Aside0.mk G10_; have n2_ := Aside0.mk G11_; have n3_ := Aside0.mk (blk_below (g := gb233) (o := .cells G44_ 29 (0, 0)) (by G0_; refine blk_put (cs := G46_) ?_ 12 _ rfl; G0_; refine blk_put (cs := G51_) ?_ 11 _ rfl; G0_; refine blk_put (cs := G48_) ?_ 10 _ rfl; G0_; refine blk_put (cs := G26_) ?_ 9 _ rfl; G0_; refine blk_put (cs := G19_) ?_ 8 _ rfl; G0_; refine blk_put (cs := G18_) ?_ 7 _ rfl; G0_; refine blk_put (cs := G16_) ?_ 6 _ rfl; G0_; refine blk_put (cs := G17_) ?_ 5 _ rfl; G0_; refine blk_put (cs := G12_) ?_ 4 _ rfl; G0_; refine blk_put (cs := G13_) ?_ 3 _ rfl; G0_; refine blk_put (cs := G14_) ?_ 2 _ rfl; G0_; refine blk_put (cs := G15_) ?_ 1 _ rfl; G0_; refine blk_put (cs := G2_) ?_ 0 _ rfl; G0_; exact BK233.out) hb); have n4_ := Aside0.mk (below_step (by repeat G5_) hb); clear HO229; clear BK216; clear BK217; clear BK233; clear HB; have HO229 := n0_; have BK216 := n1_; have BK217 := n2_; have BK233 := n3_; have HB := n4_; clear n0_ n1_ n2_ n3_ n4_; (try clear hb); (try clear hb2); (try clear hk); (try clear hi); have hcz48_0 : w47.cell? ⟨gb233, 0, none⟩ = some (.int .i64 t218) := (G87_).trans rfl; have hcz48_1 : w47.cell? ⟨gb233, 1, none⟩ = some (.int .i64 t219) := (G88_).trans rfl; have hcz48_2 : w47.cell? ⟨gb233, 2, none⟩ = some (.int .i64 t220) := (G89_).trans rfl; have hcz48_3 : w47.cell? ⟨gb233, 3, none⟩ = some (.int .i64 t221) := (G90_).trans rfl; have hcz48_4 : w47.cell? ⟨gb233, 4, none⟩ = some (.string t222) := (G91_).trans rfl; have hcz48_5 : w47.cell? ⟨gb233, 5, none⟩ = some (.int .i64 t223) := (G92_).trans rfl; have hcz48_6 : w47.cell? ⟨gb233, 6, none⟩ = some (.int .i64 t224) := (G93_).trans rfl; have hcz48_7 : w47.cell? ⟨gb233, 7, none⟩ = some (.bool t225) := (G94_).trans rfl; have hcz48_8 : w47.cell? ⟨gb233, 8, none⟩ = some (.string t226) := (G95_).trans rfl; have hcz48_9 : w47.cell? ⟨gb233, 9, none⟩ = some (.slice Ao45 t227.length co45) := (G96_).trans rfl; have hcz48_10 : w47.cell? ⟨gb233, 10, none⟩ = some (.bool t230) := (G82_).trans rfl; have hcz48_11 : w47.cell? ⟨gb233, 11, none⟩ = some (.int .i64 t231) := (G83_).trans rfl; have hcz48_12 : w47.cell? ⟨gb233, 12, none⟩ = some (.int .i64 t232) := (G84_).trans rfl; have hfz48_0 := blk_frozen BK233.out 0; have hfz48_1 := blk_frozen BK233.out 1; have hfz48_2 := blk_frozen BK233.out 2; have hfz48_3 := blk_frozen BK233.out 3; have hfz48_4 := blk_frozen BK233.out 4; have hfz48_5 := blk_frozen BK233.out 5; have hfz48_6 := blk_frozen BK233.out 6; have hfz48_7 := blk_frozen BK233.out 7; have hfz48_8 := blk_frozen BK233.out 8; have hfz48_9 := blk_frozen BK233.out 9; have hfz48_10 := blk_frozen BK233.out 10; have hfz48_11 := blk_frozen BK233.out 11; have hfz48_12 := blk_frozen BK233.out 12; have hcz49_0 : w47.cell? ⟨gb217, 0, none⟩ = some (.int .i64 0) := (blk_cell BK217.out 0).trans rfl; have hcz49_1 : w47.cell? ⟨gb217, 1, none⟩ = some (.int .i64 0) := (blk_cell BK217.out 1).trans rfl; have hcz49_2 : w47.cell? ⟨gb217, 2, none⟩ = some (.int .i64 0) := (blk_cell BK217.out 2).trans rfl; have hcz49_3 : w47.cell? ⟨gb217, 3, none⟩ = some (.int .i64 0) := (blk_cell BK217.out 3).trans rfl; have hcz49_4 : w47.cell? ⟨gb217, 4, none⟩ = some (.string (⟨#[]⟩ : ByteArray)) := (blk_cell BK217.out 4).trans rfl; have hcz49_5 : w47.cell? ⟨gb217, 5, none⟩ = some (.int .i64 0) := (blk_cell BK217.out 5).trans rfl; have hcz49_6 : w47.cell? ⟨gb217, 6, none⟩ = some (.int .i64 0) := (blk_cell BK217.out 6).trans rfl; have hcz49_7 : w47.cell? ⟨gb217, 7, none⟩ = some (.bool false) := (blk_cell BK217.out 7).trans rfl; have hcz49_8 : w47.cell? ⟨gb217, 8, none⟩ = some (.string (⟨#[]⟩ : ByteArray)) := (blk_cell BK217.out 8).trans rfl; have hcz49_9 : w47.cell? ⟨gb217, 9, none⟩ = some (.slice none 0 0) := (blk_cell BK217.out 9).trans rfl; have hcz49_10 : w47.cell? ⟨gb217, 10, none⟩ = some (.bool false) := (blk_cell BK217.out 10).trans rfl; have hcz49_11 : w47.cell? ⟨gb217, 11, none⟩ = some (.int .i64 0) := (blk_cell BK217.out 11).trans rfl; have hcz49_12 : w47.cell? ⟨gb217, 12, none⟩ = some (.int .i64 0) := (blk_cell BK217.out 12).trans rfl; have hfz49_0 := blk_frozen BK217.out 0; have hfz49_1 := blk_frozen BK217.out 1; have hfz49_2 := blk_frozen BK217.out 2; have hfz49_3 := blk_frozen BK217.out 3; have hfz49_4 := blk_frozen BK217.out 4; have hfz49_5 := blk_frozen BK217.out 5; have hfz49_6 := blk_frozen BK217.out 6; have hfz49_7 := blk_frozen BK217.out 7; have hfz49_8 := blk_frozen BK217.out 8; have hfz49_9 := blk_frozen BK217.out 9; have hfz49_10 := blk_frozen BK217.out 10; have hfz49_11 := blk_frozen BK217.out 11; have hfz49_12 := blk_frozen BK217.out 12))
  refine bodyPost_ret (results_ct rfl _ _ gb217 29 G44_ (0, 0) _ rfl (by G0_; refine blk_put (cs := G46_) ?_ 12 _ rfl; G0_; refine blk_put (cs := G51_) ?_ 11 _ rfl; G0_; refine blk_put (cs := G48_) ?_ 10 _ rfl; G0_; refine blk_put (cs := G26_) ?_ 9 _ rfl; G0_; refine blk_put (cs := G19_) ?_ 8 _ rfl; G0_; refine blk_put (cs := G18_) ?_ 7 _ rfl; G0_; refine blk_put (cs := G16_) ?_ 6 _ rfl; G0_; refine blk_put (cs := G17_) ?_ 5 _ rfl; G0_; refine blk_put (cs := G12_) ?_ 4 _ rfl; G0_; refine blk_put (cs := G13_) ?_ 3 _ rfl; G0_; refine blk_put (cs := G14_) ?_ 2 _ rfl; G0_; refine blk_put (cs := G15_) ?_ 1 _ rfl; G0_; refine blk_put (cs := G2_) ?_ 0 _ rfl; G0_; exact BK217.out) Try.underlying29 rfl (by kernel_rfl)) rfl ?_
  exact ⟨_, by first | rfl | (simp [errW_none, errW_some] <;> rfl) | (simp [*, errW_none, errW_some] <;> rfl), by G6_; exact Kd.R_mono (Kd.R_far (p := ⟨gb217, 12, none⟩) (Kd.R_far (p := ⟨gb217, 11, none⟩) (Kd.R_far (p := ⟨gb217, 10, none⟩) (Kd.R_far (p := ⟨gb217, 9, none⟩) G40_ G20_ (.slice Ao45 t227.length co45)) G20_ (.bool t230)) G20_ (.int .i64 t231)) G20_ (.int .i64 t232)) (fun _ hk => trivial), by repeat G5_⟩

/-! ### laws_markText: function 162 -/
def laws_markText.l0 : Nat → Int → ByteArray → Option (ByteArray)
 | 0, _, _ => none
 | k + 1, x0, x3 => if x0 > 0 then ((some (([(wrap64 (48 + (Int.tmod x0 10))) % 256] : List Int) : List Int)).bind fun y235 => (if (strOfNums y235).size + x3.size ≤ 9223372036854775807 then (laws_markText.l0 k (wrap64 (Int.tdiv x0 10)) ((strOfNums y235) ++ x3)) else (none))) else (if 1 + x3.size ≤ 9223372036854775807 then (some ((⟨#[109]⟩ : ByteArray) ++ x3)) else (none))
def laws_markText.f (k : Nat) (a0 : Int) : Option (ByteArray) := if a0 ≤ 0 then (some (⟨#[109, 48]⟩ : ByteArray)) else (laws_markText.l0 k a0 (⟨#[]⟩ : ByteArray))
theorem laws_markText.mono_l : ∀ k, (∀ y0 y1, LeO (laws_markText.l0 k y0 y1) (laws_markText.l0 (k + 1) y0 y1))
 | 0 => fun _ _ r h => by simp [laws_markText.l0] at h
 | k + 1 => by
  have ih0 := laws_markText.mono_l k
  ·intro y0 y1
   unfold laws_markText.l0
   repeat' first
   | (with_reducible exact ih0 _ _)
   | (with_reducible exact LeO.refl _)
   | (with_reducible exact LeO.none _)
   | (with_reducible refine LeO.ite ?_ ?_)
   | (with_reducible refine LeO.bind ?_ (fun _ => ?_))
   | exact ih0 _ _
   | exact LeO.none _
   | refine LeO.ite ?_ ?_
   | refine LeO.bind ?_ (fun _ => ?_)
theorem laws_markText.mono : ∀ a0 k, LeO (laws_markText.f k a0) (laws_markText.f (k + 1) a0) := by
 intro a0 k
 have ih0 := laws_markText.mono_l k
 unfold laws_markText.f
 repeat' first
   | (with_reducible exact ih0 _ _)
   | (with_reducible exact LeO.refl _)
   | (with_reducible exact LeO.none _)
   | (with_reducible refine LeO.ite ?_ ?_)
   | (with_reducible refine LeO.bind ?_ (fun _ => ?_))
   | exact ih0 _ _
   | exact LeO.none _
   | refine LeO.ite ?_ ?_
   | refine LeO.bind ?_ (fun _ => ?_)
set_option maxHeartbeats 8000000 in
set_option maxRecDepth 100000 in
theorem laws_markText.calls (k : Nat) (a0 : Int) (r : ByteArray) (w : World) (h : laws_markText.f k a0 = some r) :
  Calls Try.prog 162 #[.int .i64 a0] w fun e w' => e = .returned (.string r) ∧ Below w.heap.size w w' := by
 have HB := Aside0.mk (Below.refl w.heap.size w)
 have H : (if a0 ≤ 0 then (some (⟨#[109, 48]⟩ : ByteArray)) else (laws_markText.l0 k a0 (⟨#[]⟩ : ByteArray))) = some r := h
 clear h
 by_cases c2 : a0 ≤ 0
 ·rw [if_pos c2] at H
  have c2b0 : decide (a0 ≤ 0) = true := decide_eq_true c2
  clear c2
  J8_
  go_enter Try.func162, Try.ntmps162
  go_wp2
  J1_
 ·rw [if_neg c2] at H
  have c2b0 : decide (a0 ≤ 0) = false := decide_eq_false c2
  clear c2
  J9_
  go_enter Try.func162, Try.ntmps162
  go_wp2
  go_loopg [0, 3] k (fun kq v0 v3 w' => ∃ (x0_1 : Int) (x3_1 : ByteArray), v0 = .int .i64 x0_1 ∧ v3 = .string x3_1 ∧ Aside0 (laws_markText.l0 kq x0_1 x3_1 = some r) ∧ Aside0 (kq ≤ k) ∧ Aside0 (Below w.heap.size w w'))
  case atStart => exact ⟨(a0), ((⟨#[]⟩ : ByteArray)), (by be_), (by be_), H', ⟨Nat.le_refl _⟩, ⟨by repeat G3_⟩⟩
  case round =>
   clear H'
   try clear c1
   try clear c2
   try clear c2b0
   try clear p2
   obtain ⟨x0_1, x3_1, rfl, rfl, HA, HK1, HB⟩ := hrel
   cases gk with
   | zero => exact absurd HA.out (by simp [laws_markText.l0])
   | succ k1 =>
    have H := HA.out
    clear HA
    simp only [laws_markText.l0] at H
    by_cases c3 : x0_1 > 0
    ·rw [if_pos c3] at H
     have c3b0 : decide (0 < x0_1) = true := decide_eq_true c3
     clear c3
     obtain ⟨y235, hy235⟩ : ∃ y_ : List Int, y_ = (([(wrap64 (48 + (Int.tmod x0_1 10))) % 256] : List Int)) := ⟨_, rfl⟩
     replace H : (if (strOfNums y235).size + x3_1.size ≤ 9223372036854775807 then (laws_markText.l0 k1 (wrap64 (Int.tdiv x0_1 10)) ((strOfNums y235) ++ x3_1)) else (none)) = some r := by first | (rw [hy235]; with_reducible exact H) | (have H2_ := (Option.bind_some _ _).symm.trans H; rw [hy235]; with_reducible exact H2_) | G35_ | with_reducible exact H | (rw [hy235]; exact H) | exact H
     have Ny235 := Aside0.mk hy235
     clear hy235
     by_cases c4 : (strOfNums y235).size + x3_1.size ≤ 9223372036854775807
     ·rw [if_pos c4] at H
      have c4b0 := eq_true c4
      have c4b1 : decide ((strOfNums y235).size + x3_1.size ≤ 9223372036854775807) = true := decide_eq_true c4
      try have c4b2 : (9223372036854775807 < (strOfNums y235).size + x3_1.size) = False := eq_false (Nat.not_lt.2 c4)
      try (have c4b9 := c4b2; simp only [ByteArray.size_append] at c4b9)
      J9_
      go_wp2_with (first | ((with_reducible refine gate_dst (N := 12) rfl ?_); refine Kd.R_lit (Kd.int .u8) _ 5 ?hg (N := 12) ?hd (xs := ([(wrap64 (48 + (Int.tmod x0_1 10))) % 256] : List Int)) (inner := [.int .u8 ((wrap64 (48 + (Int.tmod x0_1 10))) % 256)]) (ok := fun _ => True) (okp := fun _ => True) ?hr ?hp (fun _ hk => hk) trivial (Below.refl _ _) (Nat.le_refl _) (by simp) ?_; (case hd => rfl); (case hg => rfl); G22_; (case hp => exact (Reps.one (show Kd.M (Kd.int .u8) _ _ _ ((wrap64 (48 + (Int.tmod x0_1 10))) % 256) [.int .u8 ((wrap64 (48 + (Int.tmod x0_1 10))) % 256)] from rfl) (Reps.none _ _))); intro v236 w5 ho6 hb hg_ hnew_; clear hg_ hnew_; (first | rw [← Ny235.out] at ho6 | (simp only [Int.reduceToNat] at ho6; rw [← Ny235.out] at ho6)); have n0_ := Aside0.mk (Kd.R_lower ho6 G101_); have n1_ := Aside0.mk G42_; clear HB; have HO237 := n0_; have HB := n1_; clear n0_ n1_; clear hb ho6; have hcv7 := own_string (P := Try.prog) Try.underlying45 Try.underlying5 Try.underlying9 (Kd.own_of_R HO237.out)))
      J11_
      case rel => exact ⟨(wrap64 (Int.tdiv x0_1 10)), ((strOfNums y235) ++ x3_1), (by be_), (by be_), H', ⟨by have := HK1.out; omega⟩, ⟨by repeat G3_⟩⟩
     ·rw [if_neg c4] at H
      J14_
    ·rw [if_neg c3] at H
     have c3b0 : decide (0 < x0_1) = false := decide_eq_false c3
     clear c3
     by_cases c8 : 1 + x3_1.size ≤ 9223372036854775807
     ·rw [if_pos c8] at H
      have c8b0 := eq_true c8
      have c8b1 : decide (1 + x3_1.size ≤ 9223372036854775807) = true := decide_eq_true c8
      try have c8b2 : (9223372036854775807 < 1 + x3_1.size) = False := eq_false (Nat.not_lt.2 c8)
      try (have c8b9 := c8b2; simp only [ByteArray.size_append] at c8b9)
      J8_
      go_wp2
      J1_
     ·rw [if_neg c8] at H
      J14_

/-! ### laws_markLateS: function 135 -/
def laws_markLateS.l0 : Nat → List (S112) → Int → Int → Option (Int × (List (S112)))
 | 0, _, _, _ => none
 | k + 1, x0, x1, x5 => if x5 < (x0.length : Int) then (if 0 ≤ x5 then ((some (x0.set (x5 : Int).toNat (⟨x1, (rd_T112 x0 x5).f1⟩ : S112) : List (S112))).bind fun y238 => ((laws_markText.f k (wrap64 (x1 + 1))).bind fun t239 => (laws_markLateS.l0 k (y238.set (x5 : Int).toNat (⟨(rd_T112 y238 x5).f0, t239⟩ : S112)) (wrap64 ((wrap64 (x1 + 1)) + 1)) (wrap64 (x5 + 1))))) else (none)) else (some (x1, x0))
def laws_markLateS.f (k : Nat) (l0 : List (S112)) (a1 : Int) : Option (Int × (List (S112))) := laws_markLateS.l0 k l0 a1 0
theorem laws_markLateS.mono_l : ∀ k, (∀ y0 y1 y2, LeO (laws_markLateS.l0 k y0 y1 y2) (laws_markLateS.l0 (k + 1) y0 y1 y2))
 | 0 => fun _ _ _ r h => by simp [laws_markLateS.l0] at h
 | k + 1 => by
  have ih0 := laws_markLateS.mono_l k
  ·intro y0 y1 y2
   unfold laws_markLateS.l0
   repeat' first
   | (with_reducible exact ih0 _ _ _)
   | (with_reducible exact laws_markText.mono _ _)
   | (with_reducible exact LeO.refl _)
   | (with_reducible exact LeO.none _)
   | (with_reducible refine LeO.ite ?_ ?_)
   | (with_reducible refine LeO.bind ?_ (fun _ => ?_))
   | exact ih0 _ _ _
   | exact laws_markText.mono _ _
   | exact LeO.none _
   | refine LeO.ite ?_ ?_
   | refine LeO.bind ?_ (fun _ => ?_)
theorem laws_markLateS.mono : ∀ a0 a1 k, LeO (laws_markLateS.f k a0 a1) (laws_markLateS.f (k + 1) a0 a1) := by
 intro a0 a1 k
 have ih0 := laws_markLateS.mono_l k
 unfold laws_markLateS.f
 repeat' first
   | (with_reducible exact ih0 _ _ _)
   | (with_reducible exact laws_markText.mono _ _)
   | (with_reducible exact LeO.refl _)
   | (with_reducible exact LeO.none _)
   | (with_reducible refine LeO.ite ?_ ?_)
   | (with_reducible refine LeO.bind ?_ (fun _ => ?_))
   | exact ih0 _ _ _
   | exact laws_markText.mono _ _
   | exact LeO.none _
   | refine LeO.ite ?_ ?_
   | refine LeO.bind ?_ (fun _ => ?_)
set_option maxHeartbeats 8000000 in
set_option maxRecDepth 100000 in
theorem laws_markLateS.calls (k : Nat) (P0_ : Nat → Prop) (u9000_ : Value) (l0 : List (S112)) (a1 : Int) (r1 : Int) (r2 : List (S112)) (w0 w : World) (hB : Below w0.heap.size w0 w) (ho0 : Kd.R k112 112 w w0.heap.size P0_ u9000_ l0) (h : laws_markLateS.f k l0 a1 = some (r1, r2)) :
  Calls Try.prog 135 #[u9000_, .int .i64 a1] w fun e w' => e = .returned (.int .i64 r1) ∧ Kd.R k112 112 w' w0.heap.size (fun k_ => (P0_ k_ ∨ w.heap.size ≤ k_)) u9000_ r2 ∧ Below w0.heap.size w0 w' ∧ Kept w w' (fun k_ => P0_ k_) := by
 have HO0 := Aside0.mk (show Kd.R k112 112 w w0.heap.size G52_ u9000_ l0 from Kd.R_mono ho0 (fun k_ hk => (.inl hk)))
 have HK := Aside0.mk (Kept.refl w (fun k_ => P0_ k_))
 J17_
 have H : (laws_markLateS.l0 k l0 a1 0) = some (r1, r2) := h
 clear h
 J9_
 go_enter Try.func135, Try.ntmps135
 go_wp2
 go_loopg [1, 5] k (fun kq v1 v5 w' => ∃ (x0_1 : List (S112)) (x1_1 : Int) (x5_1 : Int), v1 = .int .i64 x1_1 ∧ v5 = .int .i64 x5_1 ∧ Aside0 (laws_markLateS.l0 kq x0_1 x1_1 x5_1 = some (r1, r2)) ∧ Aside0 (kq ≤ k) ∧ Aside0 (Kd.R k112 112 w' w0.heap.size G52_ u9000_ x0_1) ∧ Aside0 (Kept w w' (fun k_ => P0_ k_)) ∧ Aside0 (Below w0.heap.size w0 w'))
 case atStart => exact ⟨(l0), (a1), (0), (by be_), (by be_), H', ⟨Nat.le_refl _⟩, ⟨by G6_; exact HO0.out⟩, ⟨by repeat G24_⟩, ⟨by repeat G3_⟩⟩
 case round =>
  clear H'
  try clear c1
  try clear p2
  obtain ⟨x0_1, x1_1, x5_1, rfl, rfl, HA, HK1, HO_0, HK, HB⟩ := hrel
  cases gk with
  | zero => exact absurd HA.out (by simp [laws_markLateS.l0])
  | succ k1 =>
   have H := HA.out
   clear HA
   simp only [laws_markLateS.l0] at H
   by_cases c3 : x5_1 < (x0_1.length : Int)
   ·rw [if_pos c3] at H
    have c3b0 : decide (x5_1 < (x0_1.length : Int)) = true := decide_eq_true c3
    clear c3
    by_cases c4 : 0 ≤ x5_1
    ·rw [if_pos c4] at H
     J16_
     obtain ⟨y238, hy238⟩ : ∃ y_ : List (S112), y_ = (x0_1.set (x5_1 : Int).toNat (⟨x1_1, (rd_T112 x0_1 x5_1).f1⟩ : S112)) := ⟨_, rfl⟩
     replace H : ((laws_markText.f k1 (wrap64 (x1_1 + 1))).bind fun t239 => (laws_markLateS.l0 k1 (y238.set (x5_1 : Int).toNat (⟨(rd_T112 y238 x5_1).f0, t239⟩ : S112)) (wrap64 ((wrap64 (x1_1 + 1)) + 1)) (wrap64 (x5_1 + 1)))) = some (r1, r2) := by first | (rw [hy238]; with_reducible exact H) | (have H2_ := (Option.bind_some _ _).symm.trans H; rw [hy238]; with_reducible exact H2_) | G35_ | with_reducible exact H | (rw [hy238]; exact H) | exact H
     have Ny238 := Aside0.mk hy238
     clear hy238
     J7_
     obtain ⟨t239, A60, H⟩ := H
     (try dsimp only at H)
     have A6 := Aside0.mk A60
     clear A60
     obtain ⟨y240, hy240⟩ : ∃ y_ : List (S112), y_ = (y238.set (x5_1 : Int).toNat (⟨(rd_T112 y238 x5_1).f0, t239⟩ : S112)) := ⟨_, rfl⟩
     replace H : (laws_markLateS.l0 k1 y240 (wrap64 ((wrap64 (x1_1 + 1)) + 1)) (wrap64 (x5_1 + 1))) = some (r1, r2) := by first | (rw [hy240]; with_reducible exact H) | (have H2_ := (Option.bind_some _ _).symm.trans H; rw [hy240]; with_reducible exact H2_) | G35_ | with_reducible exact H | (rw [hy240]; exact H) | exact H
     have Ny240 := Aside0.mk hy240
     clear hy240
     J9_
     obtain ⟨Ao8, co8, eo8⟩ := Kd.R_slice HO_0.out
     subst eo8
     have p5 : 0 ≤ (x5_1 : Int) := of_decide_eq_true G21_
     have q5 : (x5_1 : Int) < ((x0_1.length : Int) : Int) := of_decide_eq_true G21_
     obtain ⟨go5, co5, eo5, gb5, gl5, cl5, HG5⟩ := Kd.R_form HO_0.out (by omega)
     (first | cases eo5 | (injection eo5 with ea_ en_ ec_; (first | subst ea_ | (injection ea_ with ea_; subst ea_)); subst ec_; clear en_))
     have GB5 := Aside0.mk gb5
     have GG5 := Aside0.mk HG5
     clear gb5 gl5 HG5
     have HMgo5 := Aside0.mk (show (P0_ go5 ∨ w.heap.size ≤ go5) from (HO_0.out.1 _ rfl))
     obtain ⟨ce5, hcl5, hM5, hcc5, hfr5⟩ := Kd.R_elem HO_0.out z112 (x5_1 : Int) p5 q5
     obtain rfl := k112_openM hM5
     have hx5_0 : wr.cell? ⟨go5, (x5_1 : Int).toNat * 2, none⟩ = some (.int .i64 ((rd_T112 x0_1 x5_1).f0)) := hcc5 0 _ rfl
     have hx5_1 : wr.cell? ⟨go5, (x5_1 : Int).toNat * 2 + 1, none⟩ = some (.string ((rd_T112 x0_1 x5_1).f1)) := hcc5 1 _ rfl
     have hf5_0 : wr.frozen? ⟨go5, (x5_1 : Int).toNat * 2, none⟩ = false := hfr5 0
     have hf5_1 : wr.frozen? ⟨go5, (x5_1 : Int).toNat * 2 + 1, none⟩ = false := hfr5 1
     clear hcl5 hcc5 hfr5 hM5
     replace p5 := eq_true p5
     replace q5 := eq_true q5
     have HX9 := Aside0.mk (show Kd.R k112 112 wr w0.heap.size G52_ G57_ x0_1 from (by G6_; exact HO_0.out))
     obtain ⟨ce9, hcl9, hM9, hcc9, hfr9⟩ := Kd.R_elem HX9.out z112 (x5_1 : Int) (of_decide_eq_true G21_) G41_
     obtain rfl := k112_openM hM9
     have HP9 := Kd.R_seg HX9.out (x5_1 : Int) (of_decide_eq_true G21_) G41_ (seg := [.int .i64 x1_1]) (j := 0) hcl9 hcc9 (show 1 ≤ 2 from by decide) (x' := (⟨x1_1, (rd_T112 x0_1 x5_1).f1⟩ : S112)) (k112_mkM _ _ _ (⟨x1_1, (rd_T112 x0_1 x5_1).f1⟩ : S112) ) (fun _ hk => hk)
     have hx9_0 := hcc9 0 _ rfl
     (try simp only [show (k112).sz = 2 from rfl, Nat.mul_one, Nat.add_zero] at hx9_0)
     have hf9_0 := hfr9 0
     (try simp only [show (k112).sz = 2 from rfl, Nat.mul_one, Nat.add_zero] at hf9_0)
     clear hcl9 hcc9 hfr9 hM9
     go_wp2_with (first | ((with_reducible refine gate_store (t := 3) (p := 16) rfl ?_); refine store_event (t := 3) (p := 16) (v := ?vo_w10) (w1 := (wr.setCell ⟨go5, (x5_1 : Int).toNat * 2, none⟩ (.int .i64 x1_1))) ?hg ?ho ?hn ?hr ?_; (case ho => rfl); (case hg => rfl); (case hn => rfl); G22_; intro w10 hw; have hg : wr.grownBy w10 (some go5) := (by rw [hw]; exact HP9.2); have hp_ : Kd.R k112 112 w10 w0.heap.size G52_ G57_ y238 := (by rw [hw, Ny238.out]; exact HP9.1); clear HP9; have n0_ := Aside0.mk (hp_); have n1_ := Aside0.mk ((by rw [hw]; exact below_set (HB.out) GB5.out : Below w0.heap.size w0 w10)); have n2_ := Aside0.mk (Kept.of_grown (S := (fun k_ => P0_ k_)) hg (by repeat G24_) (fun k_ e_ => (HO_0.out.1 k_ e_))); clear HO_0; clear HB; clear HK; have HO_0 := n0_; have HB := n1_; have HK := n2_; clear n0_ n1_ n2_; clear hg hw hp_) | ((with_reducible refine gate_callee (f := 162) rfl ?_); refine goesL_ (some 22) rfl rfl Try.func162 (by kernel_rfl) rfl #[.int .i64 (wrap64 (x1_1 + 1))] rfl G8_ ?_; (with_reducible refine (laws_markText.calls k1 (wrap64 (x1_1 + 1)) t239 _ A6.out).mono ?_); rintro e w11 ⟨rfl, hb⟩; refine ⟨_, rfl, ?_⟩; have n0_ := Aside0.mk (Kd.R_below (by G6_; exact HO_0.out) hb); have n1_ := Aside0.mk (Kept.below (S := (fun k_ => P0_ k_)) (by repeat G24_) hb); have n2_ := Aside0.mk G42_; clear HO_0; clear HK; clear HB; have HO_0 := n0_; have HK := n1_; have HB := n2_; clear n0_ n1_ n2_; (try clear hb); (try clear hb2); (try clear hk); (try clear hi); have p7 : 0 ≤ (x5_1 : Int) := of_decide_eq_true G21_; have q7 : (x5_1 : Int) < ((x0_1.length : Int) : Int) := of_decide_eq_true G21_; obtain ⟨ce7, hcl7, hM7, hcc7, hfr7⟩ := Kd.R_elem HO_0.out z112 (x5_1 : Int) p7 q7; obtain rfl := k112_openM hM7; have hx7_0 : w11.cell? ⟨go5, (x5_1 : Int).toNat * 2, none⟩ = some (.int .i64 ((rd_T112 y238 x5_1).f0)) := hcc7 0 _ rfl; have hx7_1 : w11.cell? ⟨go5, (x5_1 : Int).toNat * 2 + 1, none⟩ = some (.string ((rd_T112 y238 x5_1).f1)) := hcc7 1 _ rfl; have hf7_0 : w11.frozen? ⟨go5, (x5_1 : Int).toNat * 2, none⟩ = false := hfr7 0; have hf7_1 : w11.frozen? ⟨go5, (x5_1 : Int).toNat * 2 + 1, none⟩ = false := hfr7 1; clear hcl7 hcc7 hfr7 hM7; replace p7 := eq_true p7; replace q7 := eq_true q7; have HX12 := Aside0.mk (show Kd.R k112 112 w11 w0.heap.size G52_ G57_ y238 from (by G6_; exact HO_0.out)); obtain ⟨ce12, hcl12, hM12, hcc12, hfr12⟩ := Kd.R_elem HX12.out z112 (x5_1 : Int) (of_decide_eq_true G21_) G41_; obtain rfl := k112_openM hM12; have HP12 := Kd.R_seg HX12.out (x5_1 : Int) (of_decide_eq_true G21_) G41_ (seg := [.string t239]) (j := 1) hcl12 hcc12 (show 2 ≤ 2 from by decide) (x' := (⟨(rd_T112 y238 x5_1).f0, t239⟩ : S112)) (k112_mkM _ _ _ (⟨(rd_T112 y238 x5_1).f0, t239⟩ : S112) ) (fun _ hk => hk); have hx12_1 := hcc12 1 _ rfl; (try simp only [show (k112).sz = 2 from rfl, Nat.mul_one, Nat.add_zero] at hx12_1); have hf12_1 := hfr12 1; (try simp only [show (k112).sz = 2 from rfl, Nat.mul_one, Nat.add_zero] at hf12_1); clear hcl12 hcc12 hfr12 hM12) | ((with_reducible refine gate_store (t := 9) (p := 24) rfl ?_); refine store_event (t := 9) (p := 24) (v := ?vo_w13) (w1 := (w11.setCell ⟨go5, (x5_1 : Int).toNat * 2 + 1, none⟩ (.string t239))) ?hg ?ho ?hn ?hr ?_; (case ho => rfl); (case hg => rfl); (case hn => rfl); G22_; intro w13 hw; have hg : w11.grownBy w13 (some go5) := (by rw [hw]; exact HP12.2); have hp_ : Kd.R k112 112 w13 w0.heap.size G52_ G57_ y240 := (by rw [hw, Ny240.out]; exact HP12.1); clear HP12; have n0_ := Aside0.mk (hp_); have n1_ := Aside0.mk ((by rw [hw]; exact below_set (HB.out) GB5.out : Below w0.heap.size w0 w13)); have n2_ := Aside0.mk (Kept.of_grown (S := (fun k_ => P0_ k_)) hg (by repeat G24_) (fun k_ e_ => (HO_0.out.1 k_ e_))); clear HO_0; clear HB; clear HK; have HO_0 := n0_; have HB := n1_; have HK := n2_; clear n0_ n1_ n2_; clear hg hw hp_))
     J11_
     case rel => exact ⟨(y240), (wrap64 ((wrap64 (x1_1 + 1)) + 1)), (wrap64 (x5_1 + 1)), (by be_), (by be_), H', ⟨by have := HK1.out; omega⟩, ⟨by G6_; exact HO_0.out⟩, ⟨by repeat G24_⟩, ⟨by repeat G3_⟩⟩
    ·rw [if_neg c4] at H
     J14_
   ·rw [if_neg c3] at H
    have c3b0 : decide (x5_1 < (x0_1.length : Int)) = false := decide_eq_false c3
    clear c3
    J13_
    obtain ⟨rfl, rfl⟩ := H
    obtain ⟨Ao14, co14, eo14⟩ := Kd.R_slice HO_0.out
    subst eo14
    go_wp2
    go_ret
    exact ⟨by first | rfl | (simp [errW_none, errW_some] <;> rfl) | (simp [*, errW_none, errW_some] <;> rfl), by G6_; exact HO_0.out, by repeat G3_, by repeat G24_⟩

/-! ### laws_markStream: function 65 -/
def laws_markStream.f (k : Nat) (a0_0 : Int) (a0_1 : Int) (a0_2 : Int) (a0_3 : Int) (a0_4 : ByteArray) (a0_5 : Int) (a0_6 : Int) (a0_7 : Bool) (a0_8 : ByteArray) (l0_9 : List (S112)) (a0_10 : Bool) (a0_11 : Int) (a0_12 : Int) (a1 : Int) : Option (Int × (List (S112))) := (laws_markLateS.f k l0_9 a1).bind fun bt242 => (some (bt242.1, bt242.2))
theorem laws_markStream.mono : ∀ a0 a1 a2 a3 a4 a5 a6 a7 a8 a9 a10 a11 a12 a13 k, LeO (laws_markStream.f k a0 a1 a2 a3 a4 a5 a6 a7 a8 a9 a10 a11 a12 a13) (laws_markStream.f (k + 1) a0 a1 a2 a3 a4 a5 a6 a7 a8 a9 a10 a11 a12 a13) := by
 intro a0 a1 a2 a3 a4 a5 a6 a7 a8 a9 a10 a11 a12 a13 k
 unfold laws_markStream.f
 repeat' first
   | (with_reducible exact laws_markLateS.mono _ _ _)
   | (with_reducible exact LeO.refl _)
   | (with_reducible exact LeO.none _)
   | (with_reducible refine LeO.ite ?_ ?_)
   | (with_reducible refine LeO.bind ?_ (fun _ => ?_))
   | exact laws_markLateS.mono _ _ _
   | exact LeO.none _
   | refine LeO.ite ?_ ?_
   | refine LeO.bind ?_ (fun _ => ?_)
set_option maxHeartbeats 8000000 in
set_option maxRecDepth 100000 in
theorem laws_markStream.calls (k : Nat) (a0_0 : Int) (a0_1 : Int) (a0_2 : Int) (a0_3 : Int) (a0_4 : ByteArray) (a0_5 : Int) (a0_6 : Int) (a0_7 : Bool) (a0_8 : ByteArray) (P0_9_ : Nat → Prop) (u9000_ : Value) (l0_9 : List (S112)) (a0_10 : Bool) (a0_11 : Int) (a0_12 : Int) (a1 : Int) (r1 : Int) (r2 : List (S112)) (w0 w : World) (hB : Below w0.heap.size w0 w) (ho0_9 : Kd.R k112 112 w w0.heap.size P0_9_ u9000_ l0_9) (h : laws_markStream.f k a0_0 a0_1 a0_2 a0_3 a0_4 a0_5 a0_6 a0_7 a0_8 l0_9 a0_10 a0_11 a0_12 a1 = some (r1, r2)) :
  Calls Try.prog 65 #[.agg #[.int .i64 a0_0, .int .i64 a0_1, .int .i64 a0_2, .int .i64 a0_3, .string a0_4, .int .i64 a0_5, .int .i64 a0_6, .bool a0_7, .string a0_8, u9000_, .bool a0_10, .int .i64 a0_11, .int .i64 a0_12], .int .i64 a1] w fun e w' => e = .returned (.int .i64 r1) ∧ Kd.R k112 112 w' w0.heap.size (fun k_ => (P0_9_ k_ ∨ w.heap.size ≤ k_)) u9000_ r2 ∧ Below w0.heap.size w0 w' ∧ Kept w w' (fun k_ => P0_9_ k_) := by
 have hu29 := Try.underlying29
 have HO0_9 := Aside0.mk (show Kd.R k112 112 w w0.heap.size (fun k_ => (P0_9_ k_ ∨ w.heap.size ≤ k_)) u9000_ l0_9 from Kd.R_mono ho0_9 (fun k_ hk => (.inl hk)))
 have HK := Aside0.mk (Kept.refl w (fun k_ => P0_9_ k_))
 J17_
 have H : ((laws_markLateS.f k l0_9 a1).bind fun bt242 => (some (bt242.1, bt242.2))) = some (r1, r2) := h
 clear h
 J7_
 obtain ⟨⟨t242, t243⟩, A30, H⟩ := H
 J10_
 J13_
 obtain ⟨rfl, rfl⟩ := H
 obtain ⟨Ao4, co4, eo4⟩ := Kd.R_slice HO0_9.out
 subst eo4
 go_enter Try.func65, Try.ntmps65
 go_wp2_with (first | (G39_; refine box_event ?hg (N := 2) ?hd (cs := #[.int .i64 a0_0, .int .i64 a0_1, .int .i64 a0_2, .int .i64 a0_3, .string a0_4, .int .i64 a0_5, .int .i64 a0_6, .bool a0_7, .string a0_8, .slice Ao4 l0_9.length co4, .bool a0_10, .int .i64 a0_11, .int .i64 a0_12]) (t := 29) ?hr ?_; (case hd => rfl); (case hg => rfl); G22_; intro gb241 hg w5 hbox hb; have n0_ := Aside0.mk (Kd.R_below (by G6_; exact HO0_9.out) hb); have n1_ := Aside0.mk (Kept.below (S := (fun k_ => P0_9_ k_)) (by repeat G24_) hb); have n2_ := Aside0.mk G42_; have n3_ := Aside0.mk (hbox); have n4_ := Aside0.mk ((by rw [hg]; exact (by first | exact HK.out.1 | exact (show Kept w _ (fun k_ => P0_9_ k_) from by repeat G24_).1) : w.heap.size ≤ gb241)); have n5_ := Aside0.mk ((by rw [hg]; exact G101_ : w0.heap.size ≤ gb241)); clear HO0_9; clear HK; clear HB; have HO0_9 := n0_; have HK := n1_; have HB := n2_; have BK241 := n3_; have GW241 := n4_; have GE241 := n5_; clear n0_ n1_ n2_ n3_ n4_ n5_; clear hb hbox hg; have hcz6_0 : w5.cell? ⟨gb241, 0, none⟩ = some (.int .i64 a0_0) := (blk_cell BK241.out 0).trans rfl; have hcz6_1 : w5.cell? ⟨gb241, 1, none⟩ = some (.int .i64 a0_1) := (blk_cell BK241.out 1).trans rfl; have hcz6_2 : w5.cell? ⟨gb241, 2, none⟩ = some (.int .i64 a0_2) := (blk_cell BK241.out 2).trans rfl; have hcz6_3 : w5.cell? ⟨gb241, 3, none⟩ = some (.int .i64 a0_3) := (blk_cell BK241.out 3).trans rfl; have hcz6_4 : w5.cell? ⟨gb241, 4, none⟩ = some (.string a0_4) := (blk_cell BK241.out 4).trans rfl; have hcz6_5 : w5.cell? ⟨gb241, 5, none⟩ = some (.int .i64 a0_5) := (blk_cell BK241.out 5).trans rfl; have hcz6_6 : w5.cell? ⟨gb241, 6, none⟩ = some (.int .i64 a0_6) := (blk_cell BK241.out 6).trans rfl; have hcz6_7 : w5.cell? ⟨gb241, 7, none⟩ = some (.bool a0_7) := (blk_cell BK241.out 7).trans rfl; have hcz6_8 : w5.cell? ⟨gb241, 8, none⟩ = some (.string a0_8) := (blk_cell BK241.out 8).trans rfl; have hcz6_9 : w5.cell? ⟨gb241, 9, none⟩ = some (.slice Ao4 l0_9.length co4) := (blk_cell BK241.out 9).trans rfl; have hcz6_10 : w5.cell? ⟨gb241, 10, none⟩ = some (.bool a0_10) := (blk_cell BK241.out 10).trans rfl; have hcz6_11 : w5.cell? ⟨gb241, 11, none⟩ = some (.int .i64 a0_11) := (blk_cell BK241.out 11).trans rfl; have hcz6_12 : w5.cell? ⟨gb241, 12, none⟩ = some (.int .i64 a0_12) := (blk_cell BK241.out 12).trans rfl; have hfz6_0 := blk_frozen BK241.out 0; have hfz6_1 := blk_frozen BK241.out 1; have hfz6_2 := blk_frozen BK241.out 2; have hfz6_3 := blk_frozen BK241.out 3; have hfz6_4 := blk_frozen BK241.out 4; have hfz6_5 := blk_frozen BK241.out 5; have hfz6_6 := blk_frozen BK241.out 6; have hfz6_7 := blk_frozen BK241.out 7; have hfz6_8 := blk_frozen BK241.out 8; have hfz6_9 := blk_frozen BK241.out 9; have hfz6_10 := blk_frozen BK241.out 10; have hfz6_11 := blk_frozen BK241.out 11; have hfz6_12 := blk_frozen BK241.out 12) | ((with_reducible refine gate_callee (f := 135) rfl ?_); refine goesL_ (some 8) rfl rfl Try.func135 (by kernel_rfl) rfl #[.slice Ao4 l0_9.length co4, .int .i64 a1] rfl G8_ ?_; (with_reducible refine (laws_markLateS.calls k (fun k_ => some k_ = (.slice Ao4 l0_9.length co4 : Value).ownBlock) (.slice Ao4 l0_9.length co4) l0_9 a1 t242 t243 w0 _ ?side1 ?side2 A3.out).mono ?_); (case side1 => repeat G55_); (case side2 => exact Kd.R_tight rfl HO0_9.out); rintro e w7 ⟨rfl, hy0, hb, hkp⟩; refine ⟨_, rfl, ?_⟩; have n0_ := Aside0.mk (Kd.R_reok rfl hy0 (fun k_ e_ => HO0_9.out.1 k_ e_)); have n1_ := Aside0.mk (blk_kept (by G0_; exact BK241.out) hkp (fun hs_ => (fun e_ => (Kd.R_ne HO0_9.out BK241.out (by decide)) e_) hs_)); have n2_ := Aside0.mk (Kept.then_ (S := (fun k_ => P0_9_ k_)) (by repeat G54_) hkp (fun k_ hs_ => (fun e_ => (HO0_9.out.1 k_ e_.symm)) hs_)); have n3_ := Aside0.mk (hb); clear HO0_9; clear BK241; clear HK; clear HB; have HO0_9 := n0_; have BK241 := n1_; have HK := n2_; have HB := n3_; clear n0_ n1_ n2_ n3_; (try clear hb); (try clear hkp); (try clear hy0)))
 go_ret
 exact ⟨by first | rfl | (simp [errW_none, errW_some] <;> rfl) | (simp [*, errW_none, errW_some] <;> rfl), by G6_; exact HO0_9.out, by repeat G55_, by repeat G54_⟩

/-! ### laws_heldLateS: function 136 -/
def laws_heldLateS.l0 : Nat → List (S112) → Int → Int → Option (Int)
 | 0, _, _, _ => none
 | k + 1, x0, x1, x5 => if x5 < (x0.length : Int) then (if 0 ≤ x5 then (if ((rd_T112 x0 x5).f0) = x1 then ((laws_markText.f k (wrap64 (x1 + 1))).bind fun t246 => (if ((rd_T112 x0 x5).f1).toList = t246.toList then (laws_heldLateS.l0 k x0 (wrap64 ((wrap64 (x1 + 1)) + 1)) (wrap64 (x5 + 1))) else (some (-1)))) else (some (-1))) else (none)) else (some x1)
def laws_heldLateS.f (k : Nat) (l0 : List (S112)) (a1 : Int) : Option (Int) := laws_heldLateS.l0 k l0 a1 0
theorem laws_heldLateS.mono_l : ∀ k, (∀ y0 y1 y2, LeO (laws_heldLateS.l0 k y0 y1 y2) (laws_heldLateS.l0 (k + 1) y0 y1 y2))
 | 0 => fun _ _ _ r h => by simp [laws_heldLateS.l0] at h
 | k + 1 => by
  have ih0 := laws_heldLateS.mono_l k
  ·intro y0 y1 y2
   unfold laws_heldLateS.l0
   repeat' first
   | (with_reducible exact ih0 _ _ _)
   | (with_reducible exact laws_markText.mono _ _)
   | (with_reducible exact LeO.refl _)
   | (with_reducible exact LeO.none _)
   | (with_reducible refine LeO.ite ?_ ?_)
   | (with_reducible refine LeO.bind ?_ (fun _ => ?_))
   | exact ih0 _ _ _
   | exact laws_markText.mono _ _
   | exact LeO.none _
   | refine LeO.ite ?_ ?_
   | refine LeO.bind ?_ (fun _ => ?_)
theorem laws_heldLateS.mono : ∀ a0 a1 k, LeO (laws_heldLateS.f k a0 a1) (laws_heldLateS.f (k + 1) a0 a1) := by
 intro a0 a1 k
 have ih0 := laws_heldLateS.mono_l k
 unfold laws_heldLateS.f
 repeat' first
   | (with_reducible exact ih0 _ _ _)
   | (with_reducible exact laws_markText.mono _ _)
   | (with_reducible exact LeO.refl _)
   | (with_reducible exact LeO.none _)
   | (with_reducible refine LeO.ite ?_ ?_)
   | (with_reducible refine LeO.bind ?_ (fun _ => ?_))
   | exact ih0 _ _ _
   | exact laws_markText.mono _ _
   | exact LeO.none _
   | refine LeO.ite ?_ ?_
   | refine LeO.bind ?_ (fun _ => ?_)
def laws_heldLateS.T7 : Bool × List (List Nat × List Nat) := (true, [([], []), ([], []), ([0, 1], [0, 1]), ([2], [2]), ([3], [3]), ([], []), ([5], [5]), ([4, 6], [4, 6])])
def laws_heldLateS.B7 : List Nat := [0, 0, 3, 7, 15, 0, 32, 127]
theorem laws_heldLateS.tab7 : rtab .any (opsOf Try.f136 7) = laws_heldLateS.T7 := by kernel_rfl
theorem laws_heldLateS.bits7 : waitsOk laws_heldLateS.T7.2 laws_heldLateS.B7 = true := by kernel_rfl
set_option maxHeartbeats 8000000 in
set_option maxRecDepth 100000 in
theorem laws_heldLateS.calls (k : Nat) (A0 : Option Addr) (c0 : Nat) (l0 : List (S112)) (a1 : Int) (r : Int) (w : World) (hr0 : Kd.C k112 w A0 l0.length l0) (hc0 : l0.length ≤ c0) (h : laws_heldLateS.f k l0 a1 = some r) :
  Calls Try.prog 136 #[.slice A0 l0.length c0, .int .i64 a1] w fun e w' => e = .returned (.int .i64 r) ∧ Below w.heap.size w w' := by
 have HR0 := Aside0.mk hr0
 have HC0 := Aside0.mk hc0
 clear hr0 hc0
 have HB := Aside0.mk (Below.refl w.heap.size w)
 have H : (laws_heldLateS.l0 k l0 a1 0) = some r := h
 clear h
 J9_
 go_enter Try.func136, Try.ntmps136
 go_wp2
 go_loopg [1, 5] k (fun kq v1 v5 w' => ∃ (x1_1 : Int) (x5_1 : Int), v1 = .int .i64 x1_1 ∧ v5 = .int .i64 x5_1 ∧ Aside0 (laws_heldLateS.l0 kq l0 x1_1 x5_1 = some r) ∧ Aside0 (kq ≤ k) ∧ Aside0 (Below w.heap.size w w'))
 case atStart => exact ⟨(a1), (0), (by be_), (by be_), H', ⟨Nat.le_refl _⟩, ⟨by repeat G3_⟩⟩
 case round =>
  clear H'
  try clear c1
  try clear p2
  obtain ⟨x1_1, x5_1, rfl, rfl, HA, HK1, HB⟩ := hrel
  cases gk with
  | zero => exact absurd HA.out (by simp [laws_heldLateS.l0])
  | succ k1 =>
   have H := HA.out
   clear HA
   simp only [laws_heldLateS.l0] at H
   by_cases c3 : x5_1 < (l0.length : Int)
   ·rw [if_pos c3] at H
    have c3b0 : decide (x5_1 < (l0.length : Int)) = true := decide_eq_true c3
    clear c3
    by_cases c4 : 0 ≤ x5_1
    ·rw [if_pos c4] at H
     J16_
     by_cases c5 : ((rd_T112 l0 x5_1).f0) = x1_1
     ·rw [if_pos c5] at H
      have c5b0 : (((rd_T112 l0 x5_1).f0) == x1_1) = true := beq_iff_eq.mpr c5
      have c5b1 : (((rd_T112 l0 x5_1).f0) != x1_1) = false := bne_eq_false_iff_eq.mpr c5
      clear c5
      J7_
      obtain ⟨t246, A60, H⟩ := H
      (try dsimp only at H)
      have A6 := Aside0.mk A60
      clear A60
      by_cases c7 : ((rd_T112 l0 x5_1).f1).toList = t246.toList
      ·rw [if_pos c7] at H
       have c7b0 : (((rd_T112 l0 x5_1).f1).toList == t246.toList) = true := beq_iff_eq.mpr c7
       have c7b1 : (((rd_T112 l0 x5_1).f1).toList != t246.toList) = false := bne_eq_false_iff_eq.mpr c7
       clear c7
       J9_
       J0_
       generalize wr.drew = w8 at HB hx245_0 hx245_1 hHeld ⊢
       J2_
       with_reducible refine (laws_markText.calls k1 (wrap64 (x1_1 + 1)) t246 _ A6.out).mono ?_
       rintro e w9 ⟨rfl, hb⟩
       J3_
       ·show Act.put _ (some 27) _ = _
        J12_
        rfl
       J15_
       J11_
       case rel => exact ⟨(wrap64 ((wrap64 (x1_1 + 1)) + 1)), (wrap64 (x5_1 + 1)), (by be_), (by be_), H', ⟨by have := HK1.out; omega⟩, ⟨by repeat G3_⟩⟩
      ·rw [if_neg c7] at H
       have c7b0 : (((rd_T112 l0 x5_1).f1).toList == t246.toList) = false := beq_eq_false_iff_ne.mpr c7
       have c7b1 : (((rd_T112 l0 x5_1).f1).toList != t246.toList) = true := bne_iff_ne.mpr c7
       J8_
       J0_
       generalize wr.drew = w10 at HB hx245_0 hx245_1 hHeld ⊢
       J2_
       with_reducible refine (laws_markText.calls k1 (wrap64 (x1_1 + 1)) t246 _ A6.out).mono ?_
       rintro e w11 ⟨rfl, hb⟩
       J3_
       ·show Act.put _ (some 27) _ = _
        J12_
        rfl
       J15_
       J1_
     ·rw [if_neg c5] at H
      have c5b0 : (((rd_T112 l0 x5_1).f0) == x1_1) = false := beq_eq_false_iff_ne.mpr c5
      have c5b1 : (((rd_T112 l0 x5_1).f0) != x1_1) = true := bne_iff_ne.mpr c5
      J8_
      have p244 : 0 ≤ (x5_1 : Int) := of_decide_eq_true G21_
      have q244 : x5_1 < (l0.length : Int) := of_decide_eq_true G21_
      obtain ⟨ad244, e244, hx244_0, hx244_1⟩ := at_T112 HR0.out x5_1 p244 q244
      cases e244
      replace hx244_0 := (HB.out.cell (World.block_lt_of_cell? w _ hx244_0)).trans hx244_0
      replace hx244_1 := (HB.out.cell (World.block_lt_of_cell? w _ hx244_1)).trans hx244_1
      replace p244 := eq_true p244
      replace q244 := eq_true q244
      go_wp2
      J1_
    ·rw [if_neg c4] at H
     J14_
   ·rw [if_neg c3] at H
    have c3b0 : decide (x5_1 < (l0.length : Int)) = false := decide_eq_false c3
    clear c3
    J8_
    go_wp2
    J1_

/-! ### laws_heldStream: function 66 -/
def laws_heldStream.f (k : Nat) (a0_0 : Int) (a0_1 : Int) (a0_2 : Int) (a0_3 : Int) (a0_4 : ByteArray) (a0_5 : Int) (a0_6 : Int) (a0_7 : Bool) (a0_8 : ByteArray) (l0_9 : List (S112)) (a0_10 : Bool) (a0_11 : Int) (a0_12 : Int) (a1 : Int) : Option (Int) := (laws_heldLateS.f k l0_9 a1).bind fun t248 => (if t248 < 0 then (some (-1)) else (some t248))
theorem laws_heldStream.mono : ∀ a0 a1 a2 a3 a4 a5 a6 a7 a8 a9 a10 a11 a12 a13 k, LeO (laws_heldStream.f k a0 a1 a2 a3 a4 a5 a6 a7 a8 a9 a10 a11 a12 a13) (laws_heldStream.f (k + 1) a0 a1 a2 a3 a4 a5 a6 a7 a8 a9 a10 a11 a12 a13) := by
 intro a0 a1 a2 a3 a4 a5 a6 a7 a8 a9 a10 a11 a12 a13 k
 unfold laws_heldStream.f
 repeat' first
   | (with_reducible exact laws_heldLateS.mono _ _ _)
   | (with_reducible exact LeO.refl _)
   | (with_reducible exact LeO.none _)
   | (with_reducible refine LeO.ite ?_ ?_)
   | (with_reducible refine LeO.bind ?_ (fun _ => ?_))
   | exact laws_heldLateS.mono _ _ _
   | exact LeO.none _
   | refine LeO.ite ?_ ?_
   | refine LeO.bind ?_ (fun _ => ?_)
set_option maxHeartbeats 8000000 in
set_option maxRecDepth 100000 in
theorem laws_heldStream.calls (k : Nat) (a0_0 : Int) (a0_1 : Int) (a0_2 : Int) (a0_3 : Int) (a0_4 : ByteArray) (a0_5 : Int) (a0_6 : Int) (a0_7 : Bool) (a0_8 : ByteArray) (A0_9 : Option Addr) (c0_9 : Nat) (l0_9 : List (S112)) (a0_10 : Bool) (a0_11 : Int) (a0_12 : Int) (a1 : Int) (r : Int) (w : World) (hr0_9 : Kd.C k112 w A0_9 l0_9.length l0_9) (hc0_9 : l0_9.length ≤ c0_9) (h : laws_heldStream.f k a0_0 a0_1 a0_2 a0_3 a0_4 a0_5 a0_6 a0_7 a0_8 l0_9 a0_10 a0_11 a0_12 a1 = some r) :
  Calls Try.prog 66 #[.agg #[.int .i64 a0_0, .int .i64 a0_1, .int .i64 a0_2, .int .i64 a0_3, .string a0_4, .int .i64 a0_5, .int .i64 a0_6, .bool a0_7, .string a0_8, .slice A0_9 l0_9.length c0_9, .bool a0_10, .int .i64 a0_11, .int .i64 a0_12], .int .i64 a1] w fun e w' => e = .returned (.int .i64 r) ∧ Below w.heap.size w w' := by
 J4_
 have H : ((laws_heldLateS.f k l0_9 a1).bind fun t248 => (if t248 < 0 then (some (-1)) else (some t248))) = some r := h
 clear h
 J7_
 obtain ⟨t248, A30, H⟩ := H
 J10_
 by_cases c4 : t248 < 0
 ·rw [if_pos c4] at H
  have c4b0 : decide (t248 < 0) = true := decide_eq_true c4
  clear c4
  J8_
  go_enter Try.func66, Try.ntmps66
  go_wp2_with (first | (G39_; refine box_event ?hg (N := 2) ?hd (cs := G1_) (t := 29) ?hr ?_; (case hd => rfl); (case hg => rfl); G22_; intro gb247 hg w5 hbox hb; have n0_ := Aside0.mk G42_; have n1_ := Aside0.mk (hbox); have n2_ := Aside0.mk (G49_); have n3_ := Aside0.mk (G49_); clear HB; have HB := n0_; have BK247 := n1_; have GW247 := n2_; have GE247 := n3_; clear n0_ n1_ n2_ n3_; clear hb hbox hg; have hcz6_0 : w5.cell? ⟨gb247, 0, none⟩ = some (.int .i64 a0_0) := (blk_cell BK247.out 0).trans rfl; have hcz6_1 : w5.cell? ⟨gb247, 1, none⟩ = some (.int .i64 a0_1) := (blk_cell BK247.out 1).trans rfl; have hcz6_2 : w5.cell? ⟨gb247, 2, none⟩ = some (.int .i64 a0_2) := (blk_cell BK247.out 2).trans rfl; have hcz6_3 : w5.cell? ⟨gb247, 3, none⟩ = some (.int .i64 a0_3) := (blk_cell BK247.out 3).trans rfl; have hcz6_4 : w5.cell? ⟨gb247, 4, none⟩ = some (.string a0_4) := (blk_cell BK247.out 4).trans rfl; have hcz6_5 : w5.cell? ⟨gb247, 5, none⟩ = some (.int .i64 a0_5) := (blk_cell BK247.out 5).trans rfl; have hcz6_6 : w5.cell? ⟨gb247, 6, none⟩ = some (.int .i64 a0_6) := (blk_cell BK247.out 6).trans rfl; have hcz6_7 : w5.cell? ⟨gb247, 7, none⟩ = some (.bool a0_7) := (blk_cell BK247.out 7).trans rfl; have hcz6_8 : w5.cell? ⟨gb247, 8, none⟩ = some (.string a0_8) := (blk_cell BK247.out 8).trans rfl; have hcz6_9 : w5.cell? ⟨gb247, 9, none⟩ = some G36_ := (blk_cell BK247.out 9).trans rfl; have hcz6_10 : w5.cell? ⟨gb247, 10, none⟩ = some (.bool a0_10) := (blk_cell BK247.out 10).trans rfl; have hcz6_11 : w5.cell? ⟨gb247, 11, none⟩ = some (.int .i64 a0_11) := (blk_cell BK247.out 11).trans rfl; have hcz6_12 : w5.cell? ⟨gb247, 12, none⟩ = some (.int .i64 a0_12) := (blk_cell BK247.out 12).trans rfl; have hfz6_0 := blk_frozen BK247.out 0; have hfz6_1 := blk_frozen BK247.out 1; have hfz6_2 := blk_frozen BK247.out 2; have hfz6_3 := blk_frozen BK247.out 3; have hfz6_4 := blk_frozen BK247.out 4; have hfz6_5 := blk_frozen BK247.out 5; have hfz6_6 := blk_frozen BK247.out 6; have hfz6_7 := blk_frozen BK247.out 7; have hfz6_8 := blk_frozen BK247.out 8; have hfz6_9 := blk_frozen BK247.out 9; have hfz6_10 := blk_frozen BK247.out 10; have hfz6_11 := blk_frozen BK247.out 11; have hfz6_12 := blk_frozen BK247.out 12) | ((with_reducible refine gate_callee (f := 136) rfl ?_); refine goesL_ (some 8) rfl rfl Try.func136 (by kernel_rfl) rfl #[.slice A0_9 l0_9.length c0_9, .int .i64 a1] rfl G8_ ?_; G81_; G85_; G53_; rintro e w7 ⟨rfl, hb⟩; refine ⟨_, rfl, ?_⟩; have n0_ := Aside0.mk G98_; have n1_ := Aside0.mk (below_step (by repeat G34_) hb); clear BK247; clear HB; have BK247 := n0_; have HB := n1_; clear n0_ n1_; (try clear hb); (try clear hb2); (try clear hk); (try clear hi)))
  J5_
 ·rw [if_neg c4] at H
  have c4b0 : decide (t248 < 0) = false := decide_eq_false c4
  clear c4
  J8_
  go_enter Try.func66, Try.ntmps66
  go_wp2_with (first | (G39_; refine box_event ?hg (N := 2) ?hd (cs := G1_) (t := 29) ?hr ?_; (case hd => rfl); (case hg => rfl); G22_; intro gb247 hg w8 hbox hb; have n0_ := Aside0.mk G42_; have n1_ := Aside0.mk (hbox); have n2_ := Aside0.mk (G49_); have n3_ := Aside0.mk (G49_); clear HB; have HB := n0_; have BK247 := n1_; have GW247 := n2_; have GE247 := n3_; clear n0_ n1_ n2_ n3_; clear hb hbox hg; have hcz9_0 : w8.cell? ⟨gb247, 0, none⟩ = some (.int .i64 a0_0) := (blk_cell BK247.out 0).trans rfl; have hcz9_1 : w8.cell? ⟨gb247, 1, none⟩ = some (.int .i64 a0_1) := (blk_cell BK247.out 1).trans rfl; have hcz9_2 : w8.cell? ⟨gb247, 2, none⟩ = some (.int .i64 a0_2) := (blk_cell BK247.out 2).trans rfl; have hcz9_3 : w8.cell? ⟨gb247, 3, none⟩ = some (.int .i64 a0_3) := (blk_cell BK247.out 3).trans rfl; have hcz9_4 : w8.cell? ⟨gb247, 4, none⟩ = some (.string a0_4) := (blk_cell BK247.out 4).trans rfl; have hcz9_5 : w8.cell? ⟨gb247, 5, none⟩ = some (.int .i64 a0_5) := (blk_cell BK247.out 5).trans rfl; have hcz9_6 : w8.cell? ⟨gb247, 6, none⟩ = some (.int .i64 a0_6) := (blk_cell BK247.out 6).trans rfl; have hcz9_7 : w8.cell? ⟨gb247, 7, none⟩ = some (.bool a0_7) := (blk_cell BK247.out 7).trans rfl; have hcz9_8 : w8.cell? ⟨gb247, 8, none⟩ = some (.string a0_8) := (blk_cell BK247.out 8).trans rfl; have hcz9_9 : w8.cell? ⟨gb247, 9, none⟩ = some G36_ := (blk_cell BK247.out 9).trans rfl; have hcz9_10 : w8.cell? ⟨gb247, 10, none⟩ = some (.bool a0_10) := (blk_cell BK247.out 10).trans rfl; have hcz9_11 : w8.cell? ⟨gb247, 11, none⟩ = some (.int .i64 a0_11) := (blk_cell BK247.out 11).trans rfl; have hcz9_12 : w8.cell? ⟨gb247, 12, none⟩ = some (.int .i64 a0_12) := (blk_cell BK247.out 12).trans rfl; have hfz9_0 := blk_frozen BK247.out 0; have hfz9_1 := blk_frozen BK247.out 1; have hfz9_2 := blk_frozen BK247.out 2; have hfz9_3 := blk_frozen BK247.out 3; have hfz9_4 := blk_frozen BK247.out 4; have hfz9_5 := blk_frozen BK247.out 5; have hfz9_6 := blk_frozen BK247.out 6; have hfz9_7 := blk_frozen BK247.out 7; have hfz9_8 := blk_frozen BK247.out 8; have hfz9_9 := blk_frozen BK247.out 9; have hfz9_10 := blk_frozen BK247.out 10; have hfz9_11 := blk_frozen BK247.out 11; have hfz9_12 := blk_frozen BK247.out 12) | ((with_reducible refine gate_callee (f := 136) rfl ?_); refine goesL_ (some 8) rfl rfl Try.func136 (by kernel_rfl) rfl #[.slice A0_9 l0_9.length c0_9, .int .i64 a1] rfl G8_ ?_; G81_; G85_; G53_; rintro e w10 ⟨rfl, hb⟩; refine ⟨_, rfl, ?_⟩; have n0_ := Aside0.mk G98_; have n1_ := Aside0.mk (below_step (by repeat G34_) hb); clear BK247; clear HB; have BK247 := n0_; have HB := n1_; clear n0_ n1_; (try clear hb); (try clear hb2); (try clear hk); (try clear hi)))
  J5_

end Go.Proofs.Ytjijbffecppeiaa.QFnExactShut
