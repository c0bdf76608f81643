/- Functions that a law reaches, as functions of Lean, and the walks that show that the calls come to their answers: written by a program of this project out of the translation. No condition. -/
import Derived.Test.YtmknnoeggkgkgaaQFnExactPushx0
import Derived.Test.YtmknnoeggkgkgaaQFnExactPushx1
import Derived.Test.YtmknnoeggkgkgaaQFnExactPushx2
import Derived.Test.YtmknnoeggkgkgaaQFnExactPushx3
import Derived.Test.YtmknnoeggkgkgaaQFnExactPushx4
import Derived.Test.YtmknnoeggkgkgaaVFnExactPushShort4
import Derived.Test.YtmknnoeggkgkgaaVFnExactPushhort3
import Derived.Test.YtmknnoeggkgkgaaVFnExactPushShort2
import Derived.Test.YtmknnoeggkgkgaaVFnExactPushShort
namespace Go.Proofs.Ytmknnoeggkgkgaa.QFnExactPush
open Go.RowKit Go.Proofs.YtmknnoeggkgkgaaW.PrintWords Go.Proofs.YtmknnoeggkgkgaaW.PrintLast Go.Proofs.YtmknnoeggkgkgaaW.PrintMore Go.Proofs.Ytmknnoeggkgkgaa.Short
attribute [local go_sem] max2_int min2_int max_two min_two max_three min_three max_four min_four   -- for this text's walks alone
set_option linter.unusedVariables false
set_option linter.unusedSimpArgs false

theorem B5x0_ {p : Prop} (h : p := by repeat (first | (with_reducible first | exact HB.out | apply below_alloc | apply pw_below_drewN | apply below_drew1 | refine below_set ?_ GE169.out | refine below_set ?_ GE170.out | refine below_set ?_ GE186.out) | exact HB.out)) : p := h
theorem B5x1_ {p : Prop} (h : p := by repeat (first | (with_reducible first | exact HB.out | apply below_alloc | apply pw_below_drewN | apply below_drew1 | refine below_set ?_ GE169.out | refine below_set ?_ GE170.out | refine below_set ?_ GE186.out | refine below_set ?_ GE210.out) | exact HB.out)) : p := h
theorem B5x2_ {p : Prop} (h : p := by (with_reducible repeat (first | apply Kd.R_alloc | apply Kd.R_drewN | apply Kd.R_drew)); exact HO_187009.out) : p := h
theorem B5x3_ {p : Prop} (h : p := by (with_reducible repeat (first | refine blk_drewN ?_ _ | refine blk_drew ?_ | refine blk_alloc ?_ _)); exact BK186.out) : p := h
theorem B5x4_ {p : Prop} (h : p := by (with_reducible repeat (first | refine blk_drewN ?_ _ | refine blk_drew ?_ | refine blk_alloc ?_ _)); exact BK170.out) : p := h
theorem B5x5_ {p : Prop} (h : p := by rw [hw]; exact (by (with_reducible repeat (first | apply Kd.R_alloc | apply Kd.R_drewN | apply Kd.R_drew)); exact Kd.R_mono (Kd.R_far (p := ⟨gb170, 12, none⟩) (Kd.R_far (p := ⟨gb170, 11, none⟩) (Kd.R_far (p := ⟨gb170, 10, none⟩) (Kd.R_far (p := ⟨gb170, 9, none⟩) (Kd.R_far (p := ⟨gb170, 8, none⟩) (Kd.R_far (p := ⟨gb170, 7, none⟩) (Kd.R_far (p := ⟨gb170, 6, none⟩) (Kd.R_far (p := ⟨gb170, 5, none⟩) (Kd.R_far (p := ⟨gb170, 4, none⟩) (Kd.R_far (p := ⟨gb170, 3, none⟩) (Kd.R_far (p := ⟨gb170, 2, none⟩) (Kd.R_far (p := ⟨gb170, 1, none⟩) (Kd.R_far (p := ⟨gb170, 0, none⟩) (Kd.R_types HO_187009.out BK170.out (by decide)) (fun _ hk => hk.2) (.int .i64 t171)) (fun _ hk => hk.2) (.int .i64 t172)) (fun _ hk => hk.2) (.int .i64 t173)) (fun _ hk => hk.2) (.int .i64 t174)) (fun _ hk => hk.2) (.string t175)) (fun _ hk => hk.2) (.int .i64 t176)) (fun _ hk => hk.2) (.int .i64 t177)) (fun _ hk => hk.2) (.bool t178)) (fun _ hk => hk.2) (.string t179)) (fun _ hk => hk.2) (.slice Ao14 t180.length co14)) (fun _ hk => hk.2) (.bool t183)) (fun _ hk => hk.2) (.int .i64 t184)) (fun _ hk => hk.2) (.int .i64 t185)) (fun _ hk => trivial))) : p := h
theorem B5x6_ {p : Prop} (h : p := by (repeat (with_reducible (first | exact BK169.out | apply blk_drewN | apply blk_drew | apply blk_alloc | apply blk_put | apply bf NB169_170.out))); repeat (first | exact BK169.out | (simp only [List.setIfInBounds_toArray, List.set_cons_zero, List.set_cons_succ]; with_reducible rfl) | rfl)) : p := h
theorem B5x7_ {p : Prop} (h : p := by (repeat (with_reducible (first | exact BK186.out | apply blk_drewN | apply blk_drew | apply blk_alloc | apply blk_put | apply bf NB186_170.out))); repeat (first | exact BK186.out | (simp only [List.setIfInBounds_toArray, List.set_cons_zero, List.set_cons_succ]; with_reducible rfl) | rfl)) : p := h
theorem B5x8_ {p : Prop} (h : p := by (repeat (with_reducible (first | exact BK170.out | apply blk_drewN | apply blk_drew | apply blk_alloc | apply blk_put))); repeat (first | exact BK170.out | (simp only [List.setIfInBounds_toArray, List.set_cons_zero, List.set_cons_succ]; with_reducible rfl) | rfl)) : p := h
theorem B5x9_ {p : Prop} (h : p := by (with_reducible repeat (first | refine blk_drewN ?_ _ | refine blk_drew ?_ | refine blk_alloc ?_ _)); exact BK169.out) : p := h
theorem B5x10_ {p : Prop} (h : p := by (try simp only [List.map_toArray, List.map_cons, List.map_nil]); first | done | rfl | (simp only [List.length_drop, List.length_take]; rfl)) : p := h
theorem B5x11_ {p : Prop} (h : p := by (repeat (with_reducible (first | exact BK169.out | apply blk_drewN | apply blk_drew | apply blk_alloc | apply blk_put | apply bf NB169_186.out))); repeat (first | exact BK169.out | (simp only [List.setIfInBounds_toArray, List.set_cons_zero, List.set_cons_succ]; with_reducible rfl) | rfl)) : p := h
theorem B5x12_ {p : Prop} (h : p := by (repeat (with_reducible (first | exact BK170.out | apply blk_drewN | apply blk_drew | apply blk_alloc | apply blk_put | apply bf NB170_186.out))); repeat (first | exact BK170.out | (simp only [List.setIfInBounds_toArray, List.set_cons_zero, List.set_cons_succ]; with_reducible rfl) | rfl)) : p := h
theorem B5x13_ {p : Prop} (h : p := by (repeat (with_reducible (first | exact BK186.out | apply blk_drewN | apply blk_drew | apply blk_alloc | apply blk_put | apply bf NB186_210.out))); repeat (first | exact BK186.out | (simp only [List.setIfInBounds_toArray, List.set_cons_zero, List.set_cons_succ]; with_reducible rfl) | rfl)) : p := h
theorem B5x14_ {p : Prop} (h : p := by kernel_rfl) : p := h
theorem B5x15_ {p : Prop} (h : p := by first | (go_simp; done) | (go_simp; rfl)) : p := h
theorem B5x16_ {p : Prop} (h : p := by (repeat (with_reducible (first | exact BK186.out | apply blk_drewN | apply blk_drew | apply blk_alloc | apply blk_put))); repeat (first | exact BK186.out | (simp only [List.setIfInBounds_toArray, List.set_cons_zero, List.set_cons_succ]; with_reducible rfl) | rfl)) : p := h
theorem B5x17_ {p : Prop} (h : p := by (with_reducible repeat (first | apply Kd.R_alloc | apply Kd.R_drewN | apply Kd.R_drew)); exact HO182.out) : p := h
theorem B5x18_ {p : Prop} (h : p := by first | exact (blk_below (g := gb170) (o := .cells #[.int .i64 0, .int .i64 0, .int .i64 0, .int .i64 0, .string (⟨#[]⟩ : ByteArray), .int .i64 0, .int .i64 0, .bool false, .string (⟨#[]⟩ : ByteArray), .slice none 0 0, .bool false, .int .i64 0, .int .i64 0] 39 (0, 0)) (by (with_reducible repeat (first | refine blk_drewN ?_ _ | refine blk_drew ?_ | refine blk_alloc ?_ _)); exact (Q_BK170 h0_)) hb)) : p := h
theorem B5x19_ {p : Prop} (h : p := by repeat (first | (with_reducible first | exact HB.out | apply below_alloc | apply pw_below_drewN | apply below_drew1 | refine below_set ?_ GE169.out | refine below_set ?_ GE170.out) | exact HB.out)) : p := h
theorem B5x20_ {p : Prop} (h : p := by (with_reducible repeat (first | refine blk_drewN ?_ _ | refine blk_drew ?_ | refine blk_alloc ?_ _)); exact BK210.out) : p := h
theorem B5x21_ {p : Prop} (h : p := by repeat (first | exact (Kd.C_below HR0_9.out HB.out) | (with_reducible refine Kd.C_alloc ?_ _) | (with_reducible refine Kd.C_drewN ?_ _) | (with_reducible refine Kd.C_drew ?_))) : p := h
theorem B5x22_ {p : Prop} (h : p := by (repeat (with_reducible (first | exact BK169.out | apply blk_drewN | apply blk_drew | apply blk_alloc | apply blk_put | apply bf NB169_210.out))); repeat (first | exact BK169.out | (simp only [List.setIfInBounds_toArray, List.set_cons_zero, List.set_cons_succ]; with_reducible rfl) | rfl)) : p := h
theorem B5x23_ {p : Prop} (h : p := by (repeat (with_reducible (first | exact BK170.out | apply blk_drewN | apply blk_drew | apply blk_alloc | apply blk_put | apply bf NB170_210.out))); repeat (first | exact BK170.out | (simp only [List.setIfInBounds_toArray, List.set_cons_zero, List.set_cons_succ]; with_reducible rfl) | rfl)) : p := h
theorem B5x24_ {p : Prop} (h : p := by (repeat (with_reducible (first | exact BK210.out | apply blk_drewN | apply blk_drew | apply blk_alloc | apply blk_put | apply bf NB210_170.out))); repeat (first | exact BK210.out | (simp only [List.setIfInBounds_toArray, List.set_cons_zero, List.set_cons_succ]; with_reducible rfl) | rfl)) : p := h
theorem B5x25_ {p : Prop} (h : p := by (repeat (with_reducible (first | exact BK210.out | apply blk_drewN | apply blk_drew | apply blk_alloc | apply blk_put | apply bf NB210_186.out))); repeat (first | exact BK210.out | (simp only [List.setIfInBounds_toArray, List.set_cons_zero, List.set_cons_succ]; with_reducible rfl) | rfl)) : p := h
theorem B5x26_ {p : Prop} (h : p := by (repeat (with_reducible (first | exact BK210.out | apply blk_drewN | apply blk_drew | apply blk_alloc | apply blk_put))); repeat (first | exact BK210.out | (simp only [List.setIfInBounds_toArray, List.set_cons_zero, List.set_cons_succ]; with_reducible rfl) | rfl)) : p := h
theorem B5x27_ {p : Prop} (h : p := by (with_reducible repeat (first | apply Kd.R_alloc | apply Kd.R_drewN | apply Kd.R_drew)); exact Kd.R_mono (Kd.R_far (p := ⟨gb186, 10, none⟩) (Kd.R_types HO_187009.out BK186.out (by decide)) (fun _ hk => hk.2) (.bool a0_10)) (fun _ hk => trivial)) : p := h
theorem B5x28_ {p : Prop} (h : p := by have := HJ3.out; first | omega | exact Nat.le_refl _) : p := h
theorem B5x29_ {p : Prop} (h : p := by (with_reducible repeat (first | refine blk_drewN ?_ _ | refine blk_drew ?_ | refine blk_alloc ?_ _)); exact (Q_BK170_e3 h0_)) : p := h
theorem B5x30_ {p : Prop} (h : p := by rw [hw]; exact B5x0_) : p := h
theorem B5x31_ {p : Prop} (h : p := by rw [ha.out]; exact putSel_none (v := undef) rfl) : p := h
theorem B5x32_ {p : Prop} (h : p := by rw [ha.out]; exact putSel_upk 0 hb_ rfl rfl rfl) : p := h
theorem B5x33_ {p : Prop} (h : p := by rw [ha.out]; exact putSel_upk 1 hb_ rfl rfl rfl) : p := h
theorem B5x34_ {p : Prop} (h : p := by rw [ha.out]; exact putSel_upk 2 hb_ rfl rfl rfl) : p := h
theorem B5x35_ {p : Prop} (h : p := by rw [ha.out]; exact putSel_upk 3 hb_ rfl rfl rfl) : p := h
/-! ### spec_Push: function 19 -/
mutual
def spec_Push.j0 : Nat → Int → Bool → Int → Int → Int → Int → ByteArray → Int → Int → Bool → ByteArray → List (S143) → Bool → Int → Int → Int → Int → Int → Int → ByteArray → Int → Int → Bool → ByteArray → List (S143) → Bool → Int → Int → Option (Int × Int × Int × Int × ByteArray × Int × Int × Bool × ByteArray × (List (S143)) × Bool × Int × Int × (List (S28)))
 | 0, _, _, _, _, _, _, _, _, _, _, _, _, _, _, _, _, _, _, _, _, _, _, _, _, _, _, _, _ => none
 | k + 1, x1, x19, x170000, x170001, x170002, x170003, x170004, x170005, x170006, x170007, x170008, x170009, x170010, x170011, x170012, x187000, x187001, x187002, x187003, x187004, x187005, x187006, x187007, x187008, x187009, x187010, x187011, x187012 => if x19 = true then (some (x187000, x187001, x187002, x187003, x187004, x187005, x187006, x187007, x187008, x187009, x187010, x187011, x187012, (([] : List (S28))))) else (if x170000 = 4 then ((spec_l13Open.f k x187000 x187001 x187002 x187003 x187004 x187005 x187006 x187007 x187008 x187009 x187010 x187011 x187012 x1).bind fun bt192 => (some (bt192.2.1, bt192.2.2.1, bt192.2.2.2.1, bt192.2.2.2.2.1, bt192.2.2.2.2.2.1, bt192.2.2.2.2.2.2.1, bt192.2.2.2.2.2.2.2.1, bt192.2.2.2.2.2.2.2.2.1, bt192.2.2.2.2.2.2.2.2.2.1, x187009, bt192.2.2.2.2.2.2.2.2.2.2.1, bt192.2.2.2.2.2.2.2.2.2.2.2.1, bt192.2.2.2.2.2.2.2.2.2.2.2.2, bt192.1))) else (if x170000 = 2 then (if x170011 > x1 then (spec_Push.j1 k x1 true x170000 x170001 x170002 x170003 x170004 x170005 x170006 x170007 x170008 x170009 x170010 x170011 x170012 x187000 x187001 x187002 x187003 x187004 x187005 x187006 x187007 x187008 x187009 x187010 x187011 x187012) else (spec_Push.j1 k x1 (decide (x170012 ≥ 12)) x170000 x170001 x170002 x170003 x170004 x170005 x170006 x170007 x170008 x170009 x170010 x170011 x170012 x187000 x187001 x187002 x187003 x187004 x187005 x187006 x187007 x187008 x187009 x187010 x187011 x187012)) else (if x170000 = 3 then (if x170011 > x1 then (spec_Push.j1 k x1 true x170000 x170001 x170002 x170003 x170004 x170005 x170006 x170007 x170008 x170009 x170010 x170011 x170012 x187000 x187001 x187002 x187003 x187004 x187005 x187006 x187007 x187008 x187009 x187010 x187011 x187012) else (spec_Push.j1 k x1 (decide (x170012 ≥ 12)) x170000 x170001 x170002 x170003 x170004 x170005 x170006 x170007 x170008 x170009 x170010 x170011 x170012 x187000 x187001 x187002 x187003 x187004 x187005 x187006 x187007 x187008 x187009 x187010 x187011 x187012)) else (spec_Push.j1 k x1 true x170000 x170001 x170002 x170003 x170004 x170005 x170006 x170007 x170008 x170009 x170010 x170011 x170012 x187000 x187001 x187002 x187003 x187004 x187005 x187006 x187007 x187008 x187009 x187010 x187011 x187012))))
def spec_Push.j1 : Nat → Int → Bool → Int → Int → Int → Int → ByteArray → Int → Int → Bool → ByteArray → List (S143) → Bool → Int → Int → Int → Int → Int → Int → ByteArray → Int → Int → Bool → ByteArray → List (S143) → Bool → Int → Int → Option (Int × Int × Int × Int × ByteArray × Int × Int × Bool × ByteArray × (List (S143)) × Bool × Int × Int × (List (S28)))
 | 0, _, _, _, _, _, _, _, _, _, _, _, _, _, _, _, _, _, _, _, _, _, _, _, _, _, _, _, _ => none
 | k + 1, x1, x47, x170000, x170001, x170002, x170003, x170004, x170005, x170006, x170007, x170008, x170009, x170010, x170011, x170012, x187000, x187001, x187002, x187003, x187004, x187005, x187006, x187007, x187008, x187009, x187010, x187011, x187012 => if x47 = true then (some (x187000, x187001, x187002, x187003, x187004, x187005, x187006, x187007, x187008, x187009, x187010, x187011, x187012, (([] : List (S28))))) else (if x170000 = 3 then ((spec_l13Again.f k x187000 x187001 x187002 x187003 x187004 x187005 x187006 x187007 x187008 x187009 x187010 x187011 x187012 x1).bind fun bt211 => (some (bt211.1, bt211.2.1, bt211.2.2.1, bt211.2.2.2.1, bt211.2.2.2.2.1, bt211.2.2.2.2.2.1, bt211.2.2.2.2.2.2.1, bt211.2.2.2.2.2.2.2.1, bt211.2.2.2.2.2.2.2.2.1, x187009, x170010, bt211.2.2.2.2.2.2.2.2.2.2.1, bt211.2.2.2.2.2.2.2.2.2.2.2, (([(⟨x170001, x170003, 3, (⟨#[]⟩ : ByteArray)⟩ : S28)] : List (S28)))))) else ((spec_l13Again.f k x187000 x187001 x187002 x187003 x187004 x187005 x187006 x187007 x187008 x187009 x187010 x187011 x187012 x1).bind fun bt226 => (some (bt226.1, bt226.2.1, bt226.2.2.1, bt226.2.2.2.1, bt226.2.2.2.2.1, bt226.2.2.2.2.2.1, bt226.2.2.2.2.2.2.1, bt226.2.2.2.2.2.2.2.1, bt226.2.2.2.2.2.2.2.2.1, x187009, x170010, bt226.2.2.2.2.2.2.2.2.2.2.1, bt226.2.2.2.2.2.2.2.2.2.2.2, (([(⟨x170001, 0, 1, (⟨#[]⟩ : ByteArray)⟩ : S28)] : List (S28)))))))
end
def spec_Push.f (k : Nat) (a0_0 : Int) (a0_1 : Int) (a0_2 : Int) (a0_3 : Int) (a0_4 : ByteArray) (a0_5 : Int) (a0_6 : Int) (a0_7 : Bool) (a0_8 : ByteArray) (l0_9 : List (S143)) (a0_10 : Bool) (a0_11 : Int) (a0_12 : Int) (a1 : Int) : Option (Int × Int × Int × Int × ByteArray × Int × Int × Bool × ByteArray × (List (S143)) × Bool × Int × Int × (List (S28))) := (spec_l13Copy.f a0_0 a0_1 a0_2 a0_3 a0_4 a0_5 a0_6 a0_7 a0_8 l0_9 a0_10 a0_11 a0_12).bind fun bt171 => ((spec_StreamOk.f k a0_0 a0_1 a0_2 a0_3 a0_4 a0_5 a0_6 a0_7 a0_8 l0_9 a0_10 a0_11 a0_12).bind fun t187 => (if t187 = true then ((spec_l01In.f a1 0 999999900).bind fun t188 => (spec_Push.j0 k a1 (!t188) a0_0 a0_1 a0_2 a0_3 a0_4 a0_5 a0_6 a0_7 a0_8 l0_9 a0_10 a0_11 a0_12 bt171.1 bt171.2.1 bt171.2.2.1 bt171.2.2.2.1 bt171.2.2.2.2.1 bt171.2.2.2.2.2.1 bt171.2.2.2.2.2.2.1 bt171.2.2.2.2.2.2.2.1 bt171.2.2.2.2.2.2.2.2.1 bt171.2.2.2.2.2.2.2.2.2.1 bt171.2.2.2.2.2.2.2.2.2.2.1 bt171.2.2.2.2.2.2.2.2.2.2.2.1 bt171.2.2.2.2.2.2.2.2.2.2.2.2)) else (spec_Push.j0 k a1 true a0_0 a0_1 a0_2 a0_3 a0_4 a0_5 a0_6 a0_7 a0_8 l0_9 a0_10 a0_11 a0_12 bt171.1 bt171.2.1 bt171.2.2.1 bt171.2.2.2.1 bt171.2.2.2.2.1 bt171.2.2.2.2.2.1 bt171.2.2.2.2.2.2.1 bt171.2.2.2.2.2.2.2.1 bt171.2.2.2.2.2.2.2.2.1 bt171.2.2.2.2.2.2.2.2.2.1 bt171.2.2.2.2.2.2.2.2.2.2.1 bt171.2.2.2.2.2.2.2.2.2.2.2.1 bt171.2.2.2.2.2.2.2.2.2.2.2.2)))
theorem spec_Push.mono_l : ∀ k, (∀ y0 y1 y2 y3 y4 y5 y6 y7 y8 y9 y10 y11 y12 y13 y14 y15 y16 y17 y18 y19 y20 y21 y22 y23 y24 y25 y26 y27, LeO (spec_Push.j0 k y0 y1 y2 y3 y4 y5 y6 y7 y8 y9 y10 y11 y12 y13 y14 y15 y16 y17 y18 y19 y20 y21 y22 y23 y24 y25 y26 y27) (spec_Push.j0 (k + 1) y0 y1 y2 y3 y4 y5 y6 y7 y8 y9 y10 y11 y12 y13 y14 y15 y16 y17 y18 y19 y20 y21 y22 y23 y24 y25 y26 y27)) ∧ (∀ y0 y1 y2 y3 y4 y5 y6 y7 y8 y9 y10 y11 y12 y13 y14 y15 y16 y17 y18 y19 y20 y21 y22 y23 y24 y25 y26 y27, LeO (spec_Push.j1 k y0 y1 y2 y3 y4 y5 y6 y7 y8 y9 y10 y11 y12 y13 y14 y15 y16 y17 y18 y19 y20 y21 y22 y23 y24 y25 y26 y27) (spec_Push.j1 (k + 1) y0 y1 y2 y3 y4 y5 y6 y7 y8 y9 y10 y11 y12 y13 y14 y15 y16 y17 y18 y19 y20 y21 y22 y23 y24 y25 y26 y27))
 | 0 => ⟨fun _ _ _ _ _ _ _ _ _ _ _ _ _ _ _ _ _ _ _ _ _ _ _ _ _ _ _ _ r h => by simp [spec_Push.j0] at h, fun _ _ _ _ _ _ _ _ _ _ _ _ _ _ _ _ _ _ _ _ _ _ _ _ _ _ _ _ r h => by simp [spec_Push.j1] at h⟩
 | k + 1 => by
  obtain ⟨ih0, ih1⟩ := spec_Push.mono_l k
  refine ⟨?_, ?_⟩
  ·intro y0 y1 y2 y3 y4 y5 y6 y7 y8 y9 y10 y11 y12 y13 y14 y15 y16 y17 y18 y19 y20 y21 y22 y23 y24 y25 y26 y27
   unfold spec_Push.j0
   repeat' first
   | (with_reducible exact ih0 _ _ _ _ _ _ _ _ _ _ _ _ _ _ _ _ _ _ _ _ _ _ _ _ _ _ _ _)
   | (with_reducible exact ih1 _ _ _ _ _ _ _ _ _ _ _ _ _ _ _ _ _ _ _ _ _ _ _ _ _ _ _ _)
   | (with_reducible exact spec_StreamOk.mono _ _ _ _ _ _ _ _ _ _ _ _ _ _)
   | (with_reducible exact spec_l13Again.mono _ _ _ _ _ _ _ _ _ _ _ _ _ _ _)
   | (with_reducible exact spec_l13Open.mono _ _ _ _ _ _ _ _ _ _ _ _ _ _ _)
   | (with_reducible first | exact LeO.refl _ | exact LeO.none _ | refine LeO.ite ?_ ?_ | refine LeO.bind ?_ (fun _ => ?_))
   | exact ih0 _ _ _ _ _ _ _ _ _ _ _ _ _ _ _ _ _ _ _ _ _ _ _ _ _ _ _ _
   | exact ih1 _ _ _ _ _ _ _ _ _ _ _ _ _ _ _ _ _ _ _ _ _ _ _ _ _ _ _ _
   | exact spec_StreamOk.mono _ _ _ _ _ _ _ _ _ _ _ _ _ _
   | exact spec_l13Again.mono _ _ _ _ _ _ _ _ _ _ _ _ _ _ _
   | exact spec_l13Open.mono _ _ _ _ _ _ _ _ _ _ _ _ _ _ _
  ·intro y0 y1 y2 y3 y4 y5 y6 y7 y8 y9 y10 y11 y12 y13 y14 y15 y16 y17 y18 y19 y20 y21 y22 y23 y24 y25 y26 y27
   unfold spec_Push.j1
   repeat' first
   | (with_reducible exact ih0 _ _ _ _ _ _ _ _ _ _ _ _ _ _ _ _ _ _ _ _ _ _ _ _ _ _ _ _)
   | (with_reducible exact ih1 _ _ _ _ _ _ _ _ _ _ _ _ _ _ _ _ _ _ _ _ _ _ _ _ _ _ _ _)
   | (with_reducible exact spec_StreamOk.mono _ _ _ _ _ _ _ _ _ _ _ _ _ _)
   | (with_reducible exact spec_l13Again.mono _ _ _ _ _ _ _ _ _ _ _ _ _ _ _)
   | (with_reducible exact spec_l13Open.mono _ _ _ _ _ _ _ _ _ _ _ _ _ _ _)
   | (with_reducible first | exact LeO.refl _ | exact LeO.none _ | refine LeO.ite ?_ ?_ | refine LeO.bind ?_ (fun _ => ?_))
   | exact ih0 _ _ _ _ _ _ _ _ _ _ _ _ _ _ _ _ _ _ _ _ _ _ _ _ _ _ _ _
   | exact ih1 _ _ _ _ _ _ _ _ _ _ _ _ _ _ _ _ _ _ _ _ _ _ _ _ _ _ _ _
   | exact spec_StreamOk.mono _ _ _ _ _ _ _ _ _ _ _ _ _ _
   | exact spec_l13Again.mono _ _ _ _ _ _ _ _ _ _ _ _ _ _ _
   | exact spec_l13Open.mono _ _ _ _ _ _ _ _ _ _ _ _ _ _ _
theorem spec_Push.mono : ∀ a0 a1 a2 a3 a4 a5 a6 a7 a8 a9 a10 a11 a12 a13 k, LeO (spec_Push.f k a0 a1 a2 a3 a4 a5 a6 a7 a8 a9 a10 a11 a12 a13) (spec_Push.f (k + 1) a0 a1 a2 a3 a4 a5 a6 a7 a8 a9 a10 a11 a12 a13) := by
 intro a0 a1 a2 a3 a4 a5 a6 a7 a8 a9 a10 a11 a12 a13 k
 obtain ⟨ih0, ih1⟩ := spec_Push.mono_l k
 unfold spec_Push.f
 repeat' first
   | (with_reducible exact ih0 _ _ _ _ _ _ _ _ _ _ _ _ _ _ _ _ _ _ _ _ _ _ _ _ _ _ _ _)
   | (with_reducible exact ih1 _ _ _ _ _ _ _ _ _ _ _ _ _ _ _ _ _ _ _ _ _ _ _ _ _ _ _ _)
   | (with_reducible exact spec_StreamOk.mono _ _ _ _ _ _ _ _ _ _ _ _ _ _)
   | (with_reducible exact spec_l13Again.mono _ _ _ _ _ _ _ _ _ _ _ _ _ _ _)
   | (with_reducible exact spec_l13Open.mono _ _ _ _ _ _ _ _ _ _ _ _ _ _ _)
   | (with_reducible first | exact LeO.refl _ | exact LeO.none _ | refine LeO.ite ?_ ?_ | refine LeO.bind ?_ (fun _ => ?_))
   | exact ih0 _ _ _ _ _ _ _ _ _ _ _ _ _ _ _ _ _ _ _ _ _ _ _ _ _ _ _ _
   | exact ih1 _ _ _ _ _ _ _ _ _ _ _ _ _ _ _ _ _ _ _ _ _ _ _ _ _ _ _ _
   | exact spec_StreamOk.mono _ _ _ _ _ _ _ _ _ _ _ _ _ _
   | exact spec_l13Again.mono _ _ _ _ _ _ _ _ _ _ _ _ _ _ _
   | exact spec_l13Open.mono _ _ _ _ _ _ _ _ _ _ _ _ _ _ _
def spec_Push.T16 : Bool × List (List Nat × List Nat) := (true, [([], []), ([], []), ([1], [1]), ([0, 0], [0]), ([2, 3, 0, 1, 2, 3], [2])])
def spec_Push.B16 : List Nat := [0, 0, 2, 1, 15]
theorem spec_Push.tab16 : rtab .any (opsOf Try.f19 16) = spec_Push.T16 := by kernel_rfl
theorem spec_Push.bits16 : waitsOk spec_Push.T16.2 spec_Push.B16 = true := by kernel_rfl
set_option maxHeartbeats 8000000 in
set_option maxRecDepth 100000 in
theorem spec_Push.calls (k : Nat) (a0_0 : Int) (a0_1 : Int) (a0_2 : Int) (a0_3 : Int) (a0_4 : ByteArray) (a0_5 : Int) (a0_6 : Int) (a0_7 : Bool) (a0_8 : ByteArray) (A0_9 : Option Addr) (c0_9 : Nat) (l0_9 : List (S143)) (a0_10 : Bool) (a0_11 : Int) (a0_12 : Int) (a1 : Int) (r1 : Int) (r2 : Int) (r3 : Int) (r4 : Int) (r5 : ByteArray) (r6 : Int) (r7 : Int) (r8 : Bool) (r9 : ByteArray) (r10 : List (S143)) (r11 : Bool) (r12 : Int) (r13 : Int) (r14 : List (S28)) (w : World) (hr0_9 : Kd.C k143 w A0_9 l0_9.length l0_9) (hc0_9 : l0_9.length ≤ c0_9) (h : spec_Push.f k a0_0 a0_1 a0_2 a0_3 a0_4 a0_5 a0_6 a0_7 a0_8 l0_9 a0_10 a0_11 a0_12 a1 = some (r1, r2, r3, r4, r5, r6, r7, r8, r9, r10, r11, r12, r13, r14)) :
  Calls Try.prog 19 #[.agg #[.int .i64 a0_0, .int .i64 a0_1, .int .i64 a0_2, .int .i64 a0_3, .string a0_4, .int .i64 a0_5, .int .i64 a0_6, .bool a0_7, .string a0_8, .slice A0_9 l0_9.length c0_9, .bool a0_10, .int .i64 a0_11, .int .i64 a0_12], .int .i64 a1] w fun e w' => ∃ v9_ v13_ : Value, e = .returned (.tuple #[.agg #[.int .i64 r1, .int .i64 r2, .int .i64 r3, .int .i64 r4, .string r5, .int .i64 r6, .int .i64 r7, .bool r8, .string r9, v9_, .bool r11, .int .i64 r12, .int .i64 r13], v13_]) ∧ Kd.R k143 143 w' w.heap.size (fun _ => True) v9_ r10 ∧ Kd.R k28 28 w' w.heap.size (fun _ => True) v13_ r14 ∧ Below w.heap.size w w' := by
 have hu39 := Try.underlying39
 have hu28 := Try.underlying28
 have HR0_9 := Aside0.mk hr0_9
 have HC0_9 := Aside0.mk hc0_9
 clear hr0_9 hc0_9
 have HB := Aside0.mk (Below.refl w.heap.size w)
 have H : ((spec_l13Copy.f a0_0 a0_1 a0_2 a0_3 a0_4 a0_5 a0_6 a0_7 a0_8 l0_9 a0_10 a0_11 a0_12).bind fun bt171 => ((spec_StreamOk.f k a0_0 a0_1 a0_2 a0_3 a0_4 a0_5 a0_6 a0_7 a0_8 l0_9 a0_10 a0_11 a0_12).bind fun t187 => (if t187 = true then ((spec_l01In.f a1 0 999999900).bind fun t188 => (spec_Push.j0 k a1 (!t188) a0_0 a0_1 a0_2 a0_3 a0_4 a0_5 a0_6 a0_7 a0_8 l0_9 a0_10 a0_11 a0_12 bt171.1 bt171.2.1 bt171.2.2.1 bt171.2.2.2.1 bt171.2.2.2.2.1 bt171.2.2.2.2.2.1 bt171.2.2.2.2.2.2.1 bt171.2.2.2.2.2.2.2.1 bt171.2.2.2.2.2.2.2.2.1 bt171.2.2.2.2.2.2.2.2.2.1 bt171.2.2.2.2.2.2.2.2.2.2.1 bt171.2.2.2.2.2.2.2.2.2.2.2.1 bt171.2.2.2.2.2.2.2.2.2.2.2.2)) else (spec_Push.j0 k a1 true a0_0 a0_1 a0_2 a0_3 a0_4 a0_5 a0_6 a0_7 a0_8 l0_9 a0_10 a0_11 a0_12 bt171.1 bt171.2.1 bt171.2.2.1 bt171.2.2.2.1 bt171.2.2.2.2.1 bt171.2.2.2.2.2.1 bt171.2.2.2.2.2.2.1 bt171.2.2.2.2.2.2.2.1 bt171.2.2.2.2.2.2.2.2.1 bt171.2.2.2.2.2.2.2.2.2.1 bt171.2.2.2.2.2.2.2.2.2.2.1 bt171.2.2.2.2.2.2.2.2.2.2.2.1 bt171.2.2.2.2.2.2.2.2.2.2.2.2)))) = some (r1, r2, r3, r4, r5, r6, r7, r8, r9, r10, r11, r12, r13, r14) := h
 clear h
 replace H := bsi H
 obtain ⟨⟨t171, t172, t173, t174, t175, t176, t177, t178, t179, t180, t183, t184, t185⟩, A3, H⟩ := H
 (try dsimp only at H)
 have HC4 := Aside0.mk H
 clear H
 go_enter Try.func19, Try.ntmps19
 go_upto_region 2 with (first | ((with_reducible refine gate_dst (N := 2) rfl ?_); refine box_event ?hg (N := 2) ?hd (cs := #[.int .i64 a0_0, .int .i64 a0_1, .int .i64 a0_2, .int .i64 a0_3, .string a0_4, .int .i64 a0_5, .int .i64 a0_6, .bool a0_7, .string a0_8, .slice A0_9 l0_9.length c0_9, .bool a0_10, .int .i64 a0_11, .int .i64 a0_12]) (t := 39) ?hr ?_; (case hd => rfl); (case hg => rfl); (case hr => exact B5x15_); intro gb169 hg w5 hbox hb; have BK169 := Aside0.mk (hbox); have GW169 := Aside0.mk ((bs hg (below_size HB.out))); have GE169 := Aside0.mk ((bs hg (below_size HB.out))); replace HB := Aside0.mk (below_step (by repeat (first | (with_reducible first | exact HB.out | apply below_alloc | apply pw_below_drewN | apply below_drew1) | exact HB.out)) hb); clear hb hbox hg) | ((with_reducible refine gate_dst (N := 4) rfl ?_); refine box_event ?hg (N := 4) ?hd (cs := #[.int .i64 0, .int .i64 0, .int .i64 0, .int .i64 0, .string (⟨#[]⟩ : ByteArray), .int .i64 0, .int .i64 0, .bool false, .string (⟨#[]⟩ : ByteArray), .slice none 0 0, .bool false, .int .i64 0, .int .i64 0]) (t := 39) ?hr ?_; (case hd => rfl); (case hg => rfl); (case hr => exact B5x15_); intro gb170 hg w6 hbox hb; have BK170 := Aside0.mk (hbox); have GW170 := Aside0.mk ((bs hg (below_size HB.out))); have GE170 := Aside0.mk ((bs hg (below_size HB.out))); replace HB := Aside0.mk (below_step (by repeat (first | (with_reducible first | exact HB.out | apply below_alloc | apply pw_below_drewN | apply below_drew1 | refine below_set ?_ GE169.out) | exact HB.out)) hb); have NB169_170 := Aside0.mk ((nl hg (blk_lt BK169.out))); have NB170_169 := Aside0.mk ((ng hg (blk_lt BK169.out))); replace BK169 := Aside0.mk (bb BK169.out hb); clear hb hbox hg; have hnb7 := NB169_170.out; have hnc7 := NB170_169.out; obtain ⟨hcz8_0, hcz8_1, hcz8_2, hcz8_3, hcz8_4, hcz8_5, hcz8_6, hcz8_7, hcz8_8, hcz8_9, hcz8_10, hcz8_11, hcz8_12⟩ := cl13 BK169.out; obtain ⟨hfz8_0, hfz8_1, hfz8_2, hfz8_3, hfz8_4, hfz8_5, hfz8_6, hfz8_7, hfz8_8, hfz8_9, hfz8_10, hfz8_11, hfz8_12⟩ := fr13 BK169.out) | ((with_reducible refine gate_callee (f := 67) rfl ?_); refine goesL_ (some 11) rfl rfl Try.func67 B5x14_ rfl #[.agg #[.int .i64 a0_0, .int .i64 a0_1, .int .i64 a0_2, .int .i64 a0_3, .string a0_4, .int .i64 a0_5, .int .i64 a0_6, .bool a0_7, .string a0_8, .slice A0_9 l0_9.length c0_9, .bool a0_10, .int .i64 a0_11, .int .i64 a0_12]] rfl B5x10_ ?_; (with_reducible refine (spec_l13Copy.calls a0_0 a0_1 a0_2 a0_3 a0_4 a0_5 a0_6 a0_7 a0_8 _ _ l0_9 a0_10 a0_11 a0_12 t171 t172 t173 t174 t175 t176 t177 t178 t179 t180 t183 t184 t185 _ ?side1 ?side2 A3.out).mono ?_); (case side1 => exact B5x21_); (case side2 => exact HC0_9.out); rintro e w9 ⟨v181, rfl, ho0, hb⟩; refine ⟨_, rfl, ?_⟩; have HO182 := Aside0.mk (Kd.R_lower ho0 (below_size B5x19_)); replace BK169 := Aside0.mk (bb BK169.out hb); replace BK170 := Aside0.mk (bb BK170.out hb); replace HB := Aside0.mk (below_step B5x19_ hb); (try clear hb); (try clear ho0)) | ((with_reducible refine gate_dst (N := 6) rfl ?_); refine box_event ?hg (N := 6) ?hd (cs := #[.int .i64 0, .int .i64 0, .int .i64 0, .int .i64 0, .string (⟨#[]⟩ : ByteArray), .int .i64 0, .int .i64 0, .bool false, .string (⟨#[]⟩ : ByteArray), .slice none 0 0, .bool false, .int .i64 0, .int .i64 0]) (t := 39) ?hr ?_; (case hd => rfl); (case hg => rfl); (case hr => exact B5x15_); intro gb186 hg w10 hbox hb; replace HO182 := Aside0.mk (Kd.R_below B5x17_ hb); have BK186 := Aside0.mk (hbox); have GW186 := Aside0.mk ((bs hg (below_size HB.out))); have GE186 := Aside0.mk ((bs hg (below_size HB.out))); replace HB := Aside0.mk (below_step B5x19_ hb); have NB169_186 := Aside0.mk ((nl hg (blk_lt BK169.out))); have NB186_169 := Aside0.mk ((ng hg (blk_lt BK169.out))); replace BK169 := Aside0.mk (bb BK169.out hb); have NB170_186 := Aside0.mk ((nl hg (blk_lt BK170.out))); have NB186_170 := Aside0.mk ((ng hg (blk_lt BK170.out))); replace BK170 := Aside0.mk (bb BK170.out hb); clear hb hbox hg; have hnb11 := NB186_169.out; have hnc11 := NB169_186.out; have hnb12 := NB186_170.out; have hnc12 := NB170_186.out; obtain ⟨hcz13_0, hcz13_1, hcz13_2, hcz13_3, hcz13_4, hcz13_5, hcz13_6, hcz13_7, hcz13_8, hcz13_9, hcz13_10, hcz13_11, hcz13_12⟩ := cl13 BK186.out; obtain ⟨hfz13_0, hfz13_1, hfz13_2, hfz13_3, hfz13_4, hfz13_5, hfz13_6, hfz13_7, hfz13_8, hfz13_9, hfz13_10, hfz13_11, hfz13_12⟩ := fr13 BK186.out; obtain ⟨Ao14, co14, eo14⟩ := Kd.R_slice HO182.out; subst eo14) | ((with_reducible refine gate_store (t := 39) (p := 6) rfl ?_); refine store_event (t := 39) (p := 6) (v := ?vo_w15) (w1 := (((((((((((((w10.setCell ⟨gb186, 0, none⟩ (.int .i64 t171)).setCell ⟨gb186, 1, none⟩ (.int .i64 t172)).setCell ⟨gb186, 2, none⟩ (.int .i64 t173)).setCell ⟨gb186, 3, none⟩ (.int .i64 t174)).setCell ⟨gb186, 4, none⟩ (.string t175)).setCell ⟨gb186, 5, none⟩ (.int .i64 t176)).setCell ⟨gb186, 6, none⟩ (.int .i64 t177)).setCell ⟨gb186, 7, none⟩ (.bool t178)).setCell ⟨gb186, 8, none⟩ (.string t179)).setCell ⟨gb186, 9, none⟩ (.slice Ao14 t180.length co14)).setCell ⟨gb186, 10, none⟩ (.bool t183)).setCell ⟨gb186, 11, none⟩ (.int .i64 t184)).setCell ⟨gb186, 12, none⟩ (.int .i64 t185))) ?hg ?ho ?hn ?hr ?_; (case ho => rfl); (case hg => rfl); (case hn => rfl); (case hr => exact B5x15_); intro w15 hw; replace HO182 : Aside0 (Kd.R k143 143 w15 w.heap.size (fun _ => True) (.slice Ao14 t180.length co14) t180) := ⟨(by rw [hw]; exact (by (with_reducible repeat (first | apply Kd.R_alloc | apply Kd.R_drewN | apply Kd.R_drew)); exact Kd.R_mono (Kd.R_far (p := ⟨gb186, 12, none⟩) (Kd.R_far (p := ⟨gb186, 11, none⟩) (Kd.R_far (p := ⟨gb186, 10, none⟩) (Kd.R_far (p := ⟨gb186, 9, none⟩) (Kd.R_far (p := ⟨gb186, 8, none⟩) (Kd.R_far (p := ⟨gb186, 7, none⟩) (Kd.R_far (p := ⟨gb186, 6, none⟩) (Kd.R_far (p := ⟨gb186, 5, none⟩) (Kd.R_far (p := ⟨gb186, 4, none⟩) (Kd.R_far (p := ⟨gb186, 3, none⟩) (Kd.R_far (p := ⟨gb186, 2, none⟩) (Kd.R_far (p := ⟨gb186, 1, none⟩) (Kd.R_far (p := ⟨gb186, 0, none⟩) (Kd.R_types HO182.out BK186.out (by decide)) (fun _ hk => hk.2) (.int .i64 t171)) (fun _ hk => hk.2) (.int .i64 t172)) (fun _ hk => hk.2) (.int .i64 t173)) (fun _ hk => hk.2) (.int .i64 t174)) (fun _ hk => hk.2) (.string t175)) (fun _ hk => hk.2) (.int .i64 t176)) (fun _ hk => hk.2) (.int .i64 t177)) (fun _ hk => hk.2) (.bool t178)) (fun _ hk => hk.2) (.string t179)) (fun _ hk => hk.2) (.slice Ao14 t180.length co14)) (fun _ hk => hk.2) (.bool t183)) (fun _ hk => hk.2) (.int .i64 t184)) (fun _ hk => hk.2) (.int .i64 t185)) (fun _ hk => trivial)))⟩; replace BK169 : Aside0 (w15.heap[gb169]? = some (.cells #[.int .i64 a0_0, .int .i64 a0_1, .int .i64 a0_2, .int .i64 a0_3, .string a0_4, .int .i64 a0_5, .int .i64 a0_6, .bool a0_7, .string a0_8, .slice A0_9 l0_9.length c0_9, .bool a0_10, .int .i64 a0_11, .int .i64 a0_12] 39 (0, 0))) := ⟨(by rw [hw]; exact B5x11_)⟩; replace BK170 : Aside0 (w15.heap[gb170]? = some (.cells #[.int .i64 0, .int .i64 0, .int .i64 0, .int .i64 0, .string (⟨#[]⟩ : ByteArray), .int .i64 0, .int .i64 0, .bool false, .string (⟨#[]⟩ : ByteArray), .slice none 0 0, .bool false, .int .i64 0, .int .i64 0] 39 (0, 0))) := ⟨(by rw [hw]; exact B5x12_)⟩; replace BK186 : Aside0 (w15.heap[gb186]? = some (.cells #[.int .i64 t171, .int .i64 t172, .int .i64 t173, .int .i64 t174, .string t175, .int .i64 t176, .int .i64 t177, .bool t178, .string t179, .slice Ao14 t180.length co14, .bool t183, .int .i64 t184, .int .i64 t185] 39 (0, 0))) := ⟨(by rw [hw]; exact B5x16_)⟩; replace HB : Aside0 (Below w.heap.size w w15) := ⟨B5x30_⟩; clear hw))
 (try simp only [Act.put, List.setIfInBounds_toArray, List.set_cons_zero, List.set_cons_succ])
 go_cut [19] (fun v19 wc => ∃ (kq : Nat) (x19_3 : Bool), v19 = .bool x19_3 ∧ Aside0 (spec_Push.j0 kq a1 x19_3 a0_0 a0_1 a0_2 a0_3 a0_4 a0_5 a0_6 a0_7 a0_8 l0_9 a0_10 a0_11 a0_12 t171 t172 t173 t174 t175 t176 t177 t178 t179 t180 t183 t184 t185 = some (r1, r2, r3, r4, r5, r6, r7, r8, r9, r10, r11, r12, r13, r14)) ∧ Aside0 (kq ≤ k) ∧ Aside0 (Kd.R k143 143 wc w.heap.size (fun _ => True) (.slice Ao14 t180.length co14) t180) ∧ Aside0 (wc.heap[gb169]? = some (.cells #[.int .i64 a0_0, .int .i64 a0_1, .int .i64 a0_2, .int .i64 a0_3, .string a0_4, .int .i64 a0_5, .int .i64 a0_6, .bool a0_7, .string a0_8, (.slice A0_9 l0_9.length c0_9), .bool a0_10, .int .i64 a0_11, .int .i64 a0_12] 39 (0, 0))) ∧ Aside0 (wc.heap[gb170]? = some (.cells #[.int .i64 0, .int .i64 0, .int .i64 0, .int .i64 0, .string (⟨#[]⟩ : ByteArray), .int .i64 0, .int .i64 0, .bool false, .string (⟨#[]⟩ : ByteArray), (.slice none 0 0), .bool false, .int .i64 0, .int .i64 0] 39 (0, 0))) ∧ Aside0 (wc.heap[gb186]? = some (.cells #[.int .i64 t171, .int .i64 t172, .int .i64 t173, .int .i64 t174, .string t175, .int .i64 t176, .int .i64 t177, .bool t178, .string t179, (.slice Ao14 t180.length co14), .bool t183, .int .i64 t184, .int .i64 t185] 39 (0, 0))) ∧ Aside0 (Below w.heap.size w wc))
 case first =>
  have H := HC4.out
  clear HC4
  replace H := bsi H
  obtain ⟨t187, A16, H⟩ := H
  (try dsimp only at H)
  by_cases c17 : t187 = true
  ·subst c17
   rw [if_pos rfl] at H
   replace H := bsi H
   obtain ⟨t188, A18, H⟩ := H
   (try dsimp only at H)
   have H' := Aside0.mk H
   clear H
   have hnb19 := NB169_170.out
   have hnc19 := NB170_169.out
   have hnb20 := NB169_186.out
   have hnc20 := NB186_169.out
   obtain ⟨hcz21_0, hcz21_1, hcz21_2, hcz21_3, hcz21_4, hcz21_5, hcz21_6, hcz21_7, hcz21_8, hcz21_9, hcz21_10, hcz21_11, hcz21_12⟩ := cl13 BK169.out
   obtain ⟨hfz21_0, hfz21_1, hfz21_2, hfz21_3, hfz21_4, hfz21_5, hfz21_6, hfz21_7, hfz21_8, hfz21_9, hfz21_10, hfz21_11, hfz21_12⟩ := fr13 BK169.out
   go_wp2_with (first | ((with_reducible refine gate_callee (f := 68) rfl ?_); refine goesL_ (some 13) rfl rfl Try.func68 B5x14_ rfl #[.agg #[.int .i64 a0_0, .int .i64 a0_1, .int .i64 a0_2, .int .i64 a0_3, .string a0_4, .int .i64 a0_5, .int .i64 a0_6, .bool a0_7, .string a0_8, .slice A0_9 l0_9.length c0_9, .bool a0_10, .int .i64 a0_11, .int .i64 a0_12]] rfl B5x10_ ?_; (with_reducible refine (spec_StreamOk.calls k a0_0 a0_1 a0_2 a0_3 a0_4 a0_5 a0_6 a0_7 a0_8 _ _ l0_9 a0_10 a0_11 a0_12 true _ ?side1 ?side2 A16.out).mono ?_); (case side1 => exact B5x21_); (case side2 => exact HC0_9.out); rintro e w22 ⟨rfl, hb⟩; refine ⟨_, rfl, ?_⟩; replace HO182 := Aside0.mk (Kd.R_below B5x17_ hb); replace BK169 := Aside0.mk (bb BK169.out hb); replace BK170 := Aside0.mk (bb BK170.out hb); replace BK186 := Aside0.mk (bb BK186.out hb); replace HB := Aside0.mk (below_step B5x0_ hb); (try clear hb)) | (go_at_call 69; (with_reducible refine (spec_l01In.calls a1 0 999999900 t188 _ A18.out).mono ?_); rintro e w' ⟨rfl, ⟨nd, rfl⟩⟩))
   go_meet
   case rel => exact ⟨_, (!t188), (be_), H', ⟨(by first | omega | exact Nat.le_refl _)⟩, ⟨B5x17_⟩, ⟨B5x9_⟩, ⟨B5x4_⟩, ⟨B5x3_⟩, ⟨B5x0_⟩⟩
  ·replace c17 := Bool.eq_false_iff.mpr c17
   subst c17
   rw [if_neg (show ¬ (false = true) by decide)] at H
   have H' := Aside0.mk H
   clear H
   have hnb23 := NB169_170.out
   have hnc23 := NB170_169.out
   have hnb24 := NB169_186.out
   have hnc24 := NB186_169.out
   obtain ⟨hcz25_0, hcz25_1, hcz25_2, hcz25_3, hcz25_4, hcz25_5, hcz25_6, hcz25_7, hcz25_8, hcz25_9, hcz25_10, hcz25_11, hcz25_12⟩ := cl13 BK169.out
   obtain ⟨hfz25_0, hfz25_1, hfz25_2, hfz25_3, hfz25_4, hfz25_5, hfz25_6, hfz25_7, hfz25_8, hfz25_9, hfz25_10, hfz25_11, hfz25_12⟩ := fr13 BK169.out
   go_wp2_with (first | ((with_reducible refine gate_callee (f := 68) rfl ?_); refine goesL_ (some 13) rfl rfl Try.func68 B5x14_ rfl #[.agg #[.int .i64 a0_0, .int .i64 a0_1, .int .i64 a0_2, .int .i64 a0_3, .string a0_4, .int .i64 a0_5, .int .i64 a0_6, .bool a0_7, .string a0_8, .slice A0_9 l0_9.length c0_9, .bool a0_10, .int .i64 a0_11, .int .i64 a0_12]] rfl B5x10_ ?_; (with_reducible refine (spec_StreamOk.calls k a0_0 a0_1 a0_2 a0_3 a0_4 a0_5 a0_6 a0_7 a0_8 _ _ l0_9 a0_10 a0_11 a0_12 false _ ?side1 ?side2 A16.out).mono ?_); (case side1 => exact B5x21_); (case side2 => exact HC0_9.out); rintro e w26 ⟨rfl, hb⟩; refine ⟨_, rfl, ?_⟩; replace HO182 := Aside0.mk (Kd.R_below B5x17_ hb); replace BK169 := Aside0.mk (bb BK169.out hb); replace BK170 := Aside0.mk (bb BK170.out hb); replace BK186 := Aside0.mk (bb BK186.out hb); replace HB := Aside0.mk (below_step B5x0_ hb); (try clear hb)))
   go_meet
   case rel => exact ⟨_, (true), (be_), H', ⟨(by first | omega | exact Nat.le_refl _)⟩, ⟨B5x17_⟩, ⟨B5x9_⟩, ⟨B5x4_⟩, ⟨B5x3_⟩, ⟨B5x0_⟩⟩
 case rest =>
  clear HC4
  try clear hcz13_0
  try clear hcz13_1
  try clear hcz13_10
  try clear hcz13_11
  try clear hcz13_12
  try clear hcz13_2
  try clear hcz13_3
  try clear hcz13_4
  try clear hcz13_5
  try clear hcz13_6
  try clear hcz13_7
  try clear hcz13_8
  try clear hcz13_9
  try clear hcz8_0
  try clear hcz8_1
  try clear hcz8_10
  try clear hcz8_11
  try clear hcz8_12
  try clear hcz8_2
  try clear hcz8_3
  try clear hcz8_4
  try clear hcz8_5
  try clear hcz8_6
  try clear hcz8_7
  try clear hcz8_8
  try clear hcz8_9
  try clear hfz13_0
  try clear hfz13_1
  try clear hfz13_10
  try clear hfz13_11
  try clear hfz13_12
  try clear hfz13_2
  try clear hfz13_3
  try clear hfz13_4
  try clear hfz13_5
  try clear hfz13_6
  try clear hfz13_7
  try clear hfz13_8
  try clear hfz13_9
  try clear hfz8_0
  try clear hfz8_1
  try clear hfz8_10
  try clear hfz8_11
  try clear hfz8_12
  try clear hfz8_2
  try clear hfz8_3
  try clear hfz8_4
  try clear hfz8_5
  try clear hfz8_6
  try clear hfz8_7
  try clear hfz8_8
  try clear hfz8_9
  obtain ⟨kq, x19_3, rfl, HA, HJ3, HO_187009, BK169, BK170, BK186, HB⟩ := hcut
  cases kq with
  | zero => exact absurd HA.out (by simp [spec_Push.j0])
  | succ kj3 =>
   have H := HA.out
   clear HA
   simp only [spec_Push.j0] at H
   by_cases c27 : x19_3 = true
   ·subst c27
    rw [if_pos rfl] at H
    obtain ⟨y189, hy189⟩ : ∃ y_ : List (S28), y_ = (([] : List (S28))) := ⟨_, rfl⟩
    replace H : (some (t171, t172, t173, t174, t175, t176, t177, t178, t179, t180, t183, t184, t185, y189)) = some (r1, r2, r3, r4, r5, r6, r7, r8, r9, r10, r11, r12, r13, r14) := by first | (rw [hy189]; with_reducible exact H) | (have H2_ := (Option.bind_some _ _).symm.trans H; rw [hy189]; with_reducible exact H2_) | (have H2_ := (Option.bind_some _ _).symm.trans H; with_reducible exact H2_) | with_reducible exact H | (rw [hy189]; exact H) | exact H
    have Ny189 := Aside0.mk hy189
    clear hy189
    simp only [Option.some.injEq, Prod.mk.injEq] at H
    obtain ⟨rfl, rfl, rfl, rfl, rfl, rfl, rfl, rfl, rfl, rfl, rfl, rfl, rfl, rfl⟩ := H
    have hnb28 := NB186_169.out
    have hnc28 := NB169_186.out
    have hnb29 := NB186_170.out
    have hnc29 := NB170_186.out
    obtain ⟨hcz30_0, hcz30_1, hcz30_2, hcz30_3, hcz30_4, hcz30_5, hcz30_6, hcz30_7, hcz30_8, hcz30_9, hcz30_10, hcz30_11, hcz30_12⟩ := cl13 BK186.out
    obtain ⟨hfz30_0, hfz30_1, hfz30_2, hfz30_3, hfz30_4, hfz30_5, hfz30_6, hfz30_7, hfz30_8, hfz30_9, hfz30_10, hfz30_11, hfz30_12⟩ := fr13 BK186.out
    go_wp2_with (first | ((with_reducible refine gate_dst (N := 21) rfl ?_); refine Kd.R_lit k28 _ 28 ?hg (N := 21) ?hd (xs := ([] : List (S28))) (inner := []) (ok := fun _ => True) (okp := fun _ => True) ?hr ?hp (fun _ hk => hk) trivial (Below.refl _ _) (Nat.le_refl _) (by simp) ?_; (case hd => rfl); (case hg => rfl); (case hr => exact B5x15_); (case hp => exact (Reps.none _ _)); intro v190 w31 ho32 hb hg_ hnew_; clear hg_ hnew_; (first | rw [← Ny189.out] at ho32 | (simp only [Int.reduceToNat] at ho32; rw [← Ny189.out] at ho32)); replace HO_187009 := Aside0.mk (Kd.R_below B5x2_ hb); have HO191 := Aside0.mk (Kd.R_lower ho32 (below_size B5x0_)); replace BK169 := Aside0.mk (bb BK169.out hb); replace BK170 := Aside0.mk (bb BK170.out hb); replace BK186 := Aside0.mk (bb BK186.out hb); replace HB := Aside0.mk (below_step B5x0_ hb); clear hb ho32; have hnb33 := NB170_169.out; have hnc33 := NB169_170.out; obtain ⟨hcz34_0, hcz34_1, hcz34_2, hcz34_3, hcz34_4, hcz34_5, hcz34_6, hcz34_7, hcz34_8, hcz34_9, hcz34_10, hcz34_11, hcz34_12⟩ := cl13 BK170.out; obtain ⟨hfz34_0, hfz34_1, hfz34_2, hfz34_3, hfz34_4, hfz34_5, hfz34_6, hfz34_7, hfz34_8, hfz34_9, hfz34_10, hfz34_11, hfz34_12⟩ := fr13 BK170.out) | ((with_reducible refine gate_store (t := 39) (p := 4) rfl ?_); refine store_event (t := 39) (p := 4) (v := ?vo_w35) (w1 := (((((((((((((w31.setCell ⟨gb170, 0, none⟩ (.int .i64 t171)).setCell ⟨gb170, 1, none⟩ (.int .i64 t172)).setCell ⟨gb170, 2, none⟩ (.int .i64 t173)).setCell ⟨gb170, 3, none⟩ (.int .i64 t174)).setCell ⟨gb170, 4, none⟩ (.string t175)).setCell ⟨gb170, 5, none⟩ (.int .i64 t176)).setCell ⟨gb170, 6, none⟩ (.int .i64 t177)).setCell ⟨gb170, 7, none⟩ (.bool t178)).setCell ⟨gb170, 8, none⟩ (.string t179)).setCell ⟨gb170, 9, none⟩ (.slice Ao14 t180.length co14)).setCell ⟨gb170, 10, none⟩ (.bool t183)).setCell ⟨gb170, 11, none⟩ (.int .i64 t184)).setCell ⟨gb170, 12, none⟩ (.int .i64 t185))) ?hg ?ho ?hn ?hr ?_; (case ho => rfl); (case hg => rfl); (case hn => rfl); (case hr => exact B5x15_); intro w35 hw; replace HO_187009 : Aside0 (Kd.R k143 143 w35 w.heap.size (fun _ => True) (.slice Ao14 t180.length co14) t180) := ⟨B5x5_⟩; replace HO191 : Aside0 (Kd.R k28 28 w35 w.heap.size (fun _ => True) v190 y189) := ⟨(by rw [hw]; exact (by (with_reducible repeat (first | apply Kd.R_alloc | apply Kd.R_drewN | apply Kd.R_drew)); exact Kd.R_mono (Kd.R_far (p := ⟨gb170, 12, none⟩) (Kd.R_far (p := ⟨gb170, 11, none⟩) (Kd.R_far (p := ⟨gb170, 10, none⟩) (Kd.R_far (p := ⟨gb170, 9, none⟩) (Kd.R_far (p := ⟨gb170, 8, none⟩) (Kd.R_far (p := ⟨gb170, 7, none⟩) (Kd.R_far (p := ⟨gb170, 6, none⟩) (Kd.R_far (p := ⟨gb170, 5, none⟩) (Kd.R_far (p := ⟨gb170, 4, none⟩) (Kd.R_far (p := ⟨gb170, 3, none⟩) (Kd.R_far (p := ⟨gb170, 2, none⟩) (Kd.R_far (p := ⟨gb170, 1, none⟩) (Kd.R_far (p := ⟨gb170, 0, none⟩) (Kd.R_types HO191.out BK170.out (by decide)) (fun _ hk => hk.2) (.int .i64 t171)) (fun _ hk => hk.2) (.int .i64 t172)) (fun _ hk => hk.2) (.int .i64 t173)) (fun _ hk => hk.2) (.int .i64 t174)) (fun _ hk => hk.2) (.string t175)) (fun _ hk => hk.2) (.int .i64 t176)) (fun _ hk => hk.2) (.int .i64 t177)) (fun _ hk => hk.2) (.bool t178)) (fun _ hk => hk.2) (.string t179)) (fun _ hk => hk.2) (.slice Ao14 t180.length co14)) (fun _ hk => hk.2) (.bool t183)) (fun _ hk => hk.2) (.int .i64 t184)) (fun _ hk => hk.2) (.int .i64 t185)) (fun _ hk => trivial)))⟩; replace BK169 : Aside0 (w35.heap[gb169]? = some (.cells #[.int .i64 a0_0, .int .i64 a0_1, .int .i64 a0_2, .int .i64 a0_3, .string a0_4, .int .i64 a0_5, .int .i64 a0_6, .bool a0_7, .string a0_8, .slice A0_9 l0_9.length c0_9, .bool a0_10, .int .i64 a0_11, .int .i64 a0_12] 39 (0, 0))) := ⟨(by rw [hw]; exact B5x6_)⟩; replace BK170 : Aside0 (w35.heap[gb170]? = some (.cells #[.int .i64 t171, .int .i64 t172, .int .i64 t173, .int .i64 t174, .string t175, .int .i64 t176, .int .i64 t177, .bool t178, .string t179, .slice Ao14 t180.length co14, .bool t183, .int .i64 t184, .int .i64 t185] 39 (0, 0))) := ⟨(by rw [hw]; exact B5x8_)⟩; replace BK186 : Aside0 (w35.heap[gb186]? = some (.cells #[.int .i64 t171, .int .i64 t172, .int .i64 t173, .int .i64 t174, .string t175, .int .i64 t176, .int .i64 t177, .bool t178, .string t179, .slice Ao14 t180.length co14, .bool t183, .int .i64 t184, .int .i64 t185] 39 (0, 0))) := ⟨(by rw [hw]; exact B5x7_)⟩; replace HB : Aside0 (Below w.heap.size w w35) := ⟨B5x30_⟩; clear hw))
    refine bodyPost_ret (results_ct rfl _ _ gb170 39 #[.int .i64 t171, .int .i64 t172, .int .i64 t173, .int .i64 t174, .string t175, .int .i64 t176, .int .i64 t177, .bool t178, .string t179, .slice Ao14 t180.length co14, .bool t183, .int .i64 t184, .int .i64 t185] (0, 0) _ rfl B5x4_ Try.underlying39 rfl B5x14_) rfl ?_
    exact ⟨_, _, by first | rfl | (simp [errW_none, errW_some] <;> rfl) | (simp [*, errW_none, errW_some] <;> rfl), by (with_reducible repeat (first | apply Kd.R_alloc | apply Kd.R_drewN | apply Kd.R_drew)); exact HO_187009.out, by (with_reducible repeat (first | apply Kd.R_alloc | apply Kd.R_drewN | apply Kd.R_drew)); exact HO191.out, by repeat (first | (with_reducible first | exact HB.out | apply below_alloc | apply pw_below_drewN | apply below_drew1 | refine below_set ?_ GE169.out | refine below_set ?_ GE170.out | refine below_set ?_ GE186.out) | exact HB.out)⟩
   ·replace c27 := Bool.eq_false_iff.mpr c27
    subst c27
    rw [if_neg (show ¬ (false = true) by decide)] at H
    by_cases c36 : a0_0 = 4
    ·rw [if_pos c36] at H
     have c36b0 := beq_iff_eq.mpr c36
     have c36b1 := bne_eq_false_iff_eq.mpr c36
     clear c36
     replace H := bsi H
     obtain ⟨⟨t192, t195, t196, t197, t198, t199, t200, t201, t202, t203, t204, t205, t206⟩, A37, H⟩ := H
     (try dsimp only at H)
     simp only [Option.some.injEq, Prod.mk.injEq] at H
     obtain ⟨rfl, rfl, rfl, rfl, rfl, rfl, rfl, rfl, rfl, rfl, rfl, rfl, rfl, rfl⟩ := H
     have hnb38 := NB169_170.out
     have hnc38 := NB170_169.out
     have hnb39 := NB169_186.out
     have hnc39 := NB186_169.out
     obtain ⟨hcz40_0, hcz40_1, hcz40_2, hcz40_3, hcz40_4, hcz40_5, hcz40_6, hcz40_7, hcz40_8, hcz40_9, hcz40_10, hcz40_11, hcz40_12⟩ := cl13 BK169.out
     obtain ⟨hfz40_0, hfz40_1, hfz40_2, hfz40_3, hfz40_4, hfz40_5, hfz40_6, hfz40_7, hfz40_8, hfz40_9, hfz40_10, hfz40_11, hfz40_12⟩ := fr13 BK169.out
     go_wp2_with (first | ((with_reducible refine gate_callee (f := 70) rfl ?_); refine goesL_ (some 26) rfl rfl Try.func70 B5x14_ rfl #[.pointer (some ⟨gb186, 0, none⟩), .int .i64 a1] rfl B5x10_ ?_; (with_reducible refine (spec_l13Open.calls kj3 gb186 t171 t172 t173 t174 t175 t176 t177 t178 t179 t180 (.slice Ao14 t180.length co14) t183 t184 t185 a1 t192 t195 t196 t197 t198 t199 t200 t201 t202 t203 t204 t205 t206 w _ ?side1 ?side2 A37.out).mono ?_); (case side1 => exact ⟨B5x3_, GE186.out⟩); (case side2 => exact B5x0_); rintro e w41 ⟨v193, rfl, ho0, hi, hb, hk⟩; refine ⟨_, rfl, ?_⟩; replace HO_187009 := Aside0.mk (Kd.R_mono (Kd.R_keep (Kd.R_types B5x2_ B5x3_ (by decide)) hk (fun _ h => h.2)) (fun _ h => h.1)); replace BK169 := Aside0.mk (kb hk BK169.out NB169_186.out); replace BK170 := Aside0.mk (kb hk BK170.out NB170_186.out); have HO194 := Aside0.mk (Kd.R_lower ho0 (below_size (by repeat (first | (with_reducible first | exact HB.out | apply below_alloc | apply pw_below_drewN | apply below_drew1 | refine below_set ?_ (IsS39.ge HI186.out) | refine below_set ?_ GE169.out | refine below_set ?_ GE170.out) | exact HB.out)))); replace HB := Aside0.mk (hb); replace BK186 := Aside0.mk (hi.1); (try clear hb hk hi); (try clear ho0); have hnb42 := NB186_170.out; have hnc42 := NB170_186.out; obtain ⟨hcz43_0, hcz43_1, hcz43_2, hcz43_3, hcz43_4, hcz43_5, hcz43_6, hcz43_7, hcz43_8, hcz43_9, hcz43_10, hcz43_11, hcz43_12⟩ := cl13 BK186.out; obtain ⟨hfz43_0, hfz43_1, hfz43_2, hfz43_3, hfz43_4, hfz43_5, hfz43_6, hfz43_7, hfz43_8, hfz43_9, hfz43_10, hfz43_11, hfz43_12⟩ := fr13 BK186.out; obtain ⟨hcz44_0, hcz44_1, hcz44_2, hcz44_3, hcz44_4, hcz44_5, hcz44_6, hcz44_7, hcz44_8, hcz44_9, hcz44_10, hcz44_11, hcz44_12⟩ := cl13 BK170.out; obtain ⟨hfz44_0, hfz44_1, hfz44_2, hfz44_3, hfz44_4, hfz44_5, hfz44_6, hfz44_7, hfz44_8, hfz44_9, hfz44_10, hfz44_11, hfz44_12⟩ := fr13 BK170.out) | ((with_reducible refine gate_store (t := 39) (p := 4) rfl ?_); refine store_event (t := 39) (p := 4) (v := ?vo_w45) (w1 := (((((((((((((w41.setCell ⟨gb170, 0, none⟩ (.int .i64 t195)).setCell ⟨gb170, 1, none⟩ (.int .i64 t196)).setCell ⟨gb170, 2, none⟩ (.int .i64 t197)).setCell ⟨gb170, 3, none⟩ (.int .i64 t198)).setCell ⟨gb170, 4, none⟩ (.string t199)).setCell ⟨gb170, 5, none⟩ (.int .i64 t200)).setCell ⟨gb170, 6, none⟩ (.int .i64 t201)).setCell ⟨gb170, 7, none⟩ (.bool t202)).setCell ⟨gb170, 8, none⟩ (.string t203)).setCell ⟨gb170, 9, none⟩ (.slice Ao14 t180.length co14)).setCell ⟨gb170, 10, none⟩ (.bool t204)).setCell ⟨gb170, 11, none⟩ (.int .i64 t205)).setCell ⟨gb170, 12, none⟩ (.int .i64 t206))) ?hg ?ho ?hn ?hr ?_; (case ho => rfl); (case hg => rfl); (case hn => rfl); (case hr => exact B5x15_); intro w45 hw; replace HO_187009 : Aside0 (Kd.R k143 143 w45 w.heap.size (fun _ => True) (.slice Ao14 t180.length co14) t180) := ⟨(by rw [hw]; exact (by (with_reducible repeat (first | apply Kd.R_alloc | apply Kd.R_drewN | apply Kd.R_drew)); exact Kd.R_mono (Kd.R_far (p := ⟨gb170, 12, none⟩) (Kd.R_far (p := ⟨gb170, 11, none⟩) (Kd.R_far (p := ⟨gb170, 10, none⟩) (Kd.R_far (p := ⟨gb170, 9, none⟩) (Kd.R_far (p := ⟨gb170, 8, none⟩) (Kd.R_far (p := ⟨gb170, 7, none⟩) (Kd.R_far (p := ⟨gb170, 6, none⟩) (Kd.R_far (p := ⟨gb170, 5, none⟩) (Kd.R_far (p := ⟨gb170, 4, none⟩) (Kd.R_far (p := ⟨gb170, 3, none⟩) (Kd.R_far (p := ⟨gb170, 2, none⟩) (Kd.R_far (p := ⟨gb170, 1, none⟩) (Kd.R_far (p := ⟨gb170, 0, none⟩) (Kd.R_types HO_187009.out BK170.out (by decide)) (fun _ hk => hk.2) (.int .i64 t195)) (fun _ hk => hk.2) (.int .i64 t196)) (fun _ hk => hk.2) (.int .i64 t197)) (fun _ hk => hk.2) (.int .i64 t198)) (fun _ hk => hk.2) (.string t199)) (fun _ hk => hk.2) (.int .i64 t200)) (fun _ hk => hk.2) (.int .i64 t201)) (fun _ hk => hk.2) (.bool t202)) (fun _ hk => hk.2) (.string t203)) (fun _ hk => hk.2) (.slice Ao14 t180.length co14)) (fun _ hk => hk.2) (.bool t204)) (fun _ hk => hk.2) (.int .i64 t205)) (fun _ hk => hk.2) (.int .i64 t206)) (fun _ hk => trivial)))⟩; replace HO194 : Aside0 (Kd.R k28 28 w45 w.heap.size (fun _ => True) v193 t192) := ⟨(by rw [hw]; exact (by (with_reducible repeat (first | apply Kd.R_alloc | apply Kd.R_drewN | apply Kd.R_drew)); exact Kd.R_mono (Kd.R_far (p := ⟨gb170, 12, none⟩) (Kd.R_far (p := ⟨gb170, 11, none⟩) (Kd.R_far (p := ⟨gb170, 10, none⟩) (Kd.R_far (p := ⟨gb170, 9, none⟩) (Kd.R_far (p := ⟨gb170, 8, none⟩) (Kd.R_far (p := ⟨gb170, 7, none⟩) (Kd.R_far (p := ⟨gb170, 6, none⟩) (Kd.R_far (p := ⟨gb170, 5, none⟩) (Kd.R_far (p := ⟨gb170, 4, none⟩) (Kd.R_far (p := ⟨gb170, 3, none⟩) (Kd.R_far (p := ⟨gb170, 2, none⟩) (Kd.R_far (p := ⟨gb170, 1, none⟩) (Kd.R_far (p := ⟨gb170, 0, none⟩) (Kd.R_types HO194.out BK170.out (by decide)) (fun _ hk => hk.2) (.int .i64 t195)) (fun _ hk => hk.2) (.int .i64 t196)) (fun _ hk => hk.2) (.int .i64 t197)) (fun _ hk => hk.2) (.int .i64 t198)) (fun _ hk => hk.2) (.string t199)) (fun _ hk => hk.2) (.int .i64 t200)) (fun _ hk => hk.2) (.int .i64 t201)) (fun _ hk => hk.2) (.bool t202)) (fun _ hk => hk.2) (.string t203)) (fun _ hk => hk.2) (.slice Ao14 t180.length co14)) (fun _ hk => hk.2) (.bool t204)) (fun _ hk => hk.2) (.int .i64 t205)) (fun _ hk => hk.2) (.int .i64 t206)) (fun _ hk => trivial)))⟩; replace BK169 : Aside0 (w45.heap[gb169]? = some (.cells #[.int .i64 a0_0, .int .i64 a0_1, .int .i64 a0_2, .int .i64 a0_3, .string a0_4, .int .i64 a0_5, .int .i64 a0_6, .bool a0_7, .string a0_8, .slice A0_9 l0_9.length c0_9, .bool a0_10, .int .i64 a0_11, .int .i64 a0_12] 39 (0, 0))) := ⟨(by rw [hw]; exact B5x6_)⟩; replace BK170 : Aside0 (w45.heap[gb170]? = some (.cells #[.int .i64 t195, .int .i64 t196, .int .i64 t197, .int .i64 t198, .string t199, .int .i64 t200, .int .i64 t201, .bool t202, .string t203, .slice Ao14 t180.length co14, .bool t204, .int .i64 t205, .int .i64 t206] 39 (0, 0))) := ⟨(by rw [hw]; exact B5x8_)⟩; replace BK186 : Aside0 (w45.heap[gb186]? = some (.cells #[.int .i64 t195, .int .i64 t196, .int .i64 t197, .int .i64 t198, .string t199, .int .i64 t200, .int .i64 t201, .bool t202, .string t203, .slice Ao14 t180.length co14, .bool t204, .int .i64 t205, .int .i64 t206] 39 (0, 0))) := ⟨(by rw [hw]; exact B5x7_)⟩; replace HB : Aside0 (Below w.heap.size w w45) := ⟨B5x30_⟩; clear hw))
     refine bodyPost_ret (results_ct rfl _ _ gb170 39 #[.int .i64 t195, .int .i64 t196, .int .i64 t197, .int .i64 t198, .string t199, .int .i64 t200, .int .i64 t201, .bool t202, .string t203, .slice Ao14 t180.length co14, .bool t204, .int .i64 t205, .int .i64 t206] (0, 0) _ rfl B5x4_ Try.underlying39 rfl B5x14_) rfl ?_
     exact ⟨_, _, by first | rfl | (simp [errW_none, errW_some] <;> rfl) | (simp [*, errW_none, errW_some] <;> rfl), by (with_reducible repeat (first | apply Kd.R_alloc | apply Kd.R_drewN | apply Kd.R_drew)); exact HO_187009.out, by (with_reducible repeat (first | apply Kd.R_alloc | apply Kd.R_drewN | apply Kd.R_drew)); exact HO194.out, by repeat (first | (with_reducible first | exact HB.out | apply below_alloc | apply pw_below_drewN | apply below_drew1 | refine below_set ?_ GE169.out | refine below_set ?_ GE170.out | refine below_set ?_ GE186.out) | exact HB.out)⟩
    ·rw [if_neg c36] at H
     have c36b0 := beq_eq_false_iff_ne.mpr c36
     have c36b1 := bne_iff_ne.mpr c36
     have HC46 := Aside0.mk H
     clear H
     have hnb47 := NB169_170.out
     have hnc47 := NB170_169.out
     have hnb48 := NB169_186.out
     have hnc48 := NB186_169.out
     obtain ⟨hcz49_0, hcz49_1, hcz49_2, hcz49_3, hcz49_4, hcz49_5, hcz49_6, hcz49_7, hcz49_8, hcz49_9, hcz49_10, hcz49_11, hcz49_12⟩ := cl13 BK169.out
     obtain ⟨hfz49_0, hfz49_1, hfz49_2, hfz49_3, hfz49_4, hfz49_5, hfz49_6, hfz49_7, hfz49_8, hfz49_9, hfz49_10, hfz49_11, hfz49_12⟩ := fr13 BK169.out
     go_upto_region 7 with (fail)
     go_cut [47] (fun v47 wc => ∃ (kq : Nat) (x47_45 : Bool), v47 = .bool x47_45 ∧ Aside0 (spec_Push.j1 kq a1 x47_45 a0_0 a0_1 a0_2 a0_3 a0_4 a0_5 a0_6 a0_7 a0_8 l0_9 a0_10 a0_11 a0_12 t171 t172 t173 t174 t175 t176 t177 t178 t179 t180 t183 t184 t185 = some (r1, r2, r3, r4, r5, r6, r7, r8, r9, r10, r11, r12, r13, r14)) ∧ Aside0 (kq ≤ kj3) ∧ Aside0 (Kd.R k143 143 wc w.heap.size (fun _ => True) (.slice Ao14 t180.length co14) t180) ∧ Aside0 (wc.heap[gb169]? = some (.cells #[.int .i64 a0_0, .int .i64 a0_1, .int .i64 a0_2, .int .i64 a0_3, .string a0_4, .int .i64 a0_5, .int .i64 a0_6, .bool a0_7, .string a0_8, (.slice A0_9 l0_9.length c0_9), .bool a0_10, .int .i64 a0_11, .int .i64 a0_12] 39 (0, 0))) ∧ Aside0 (wc.heap[gb170]? = some (.cells #[.int .i64 0, .int .i64 0, .int .i64 0, .int .i64 0, .string (⟨#[]⟩ : ByteArray), .int .i64 0, .int .i64 0, .bool false, .string (⟨#[]⟩ : ByteArray), (.slice none 0 0), .bool false, .int .i64 0, .int .i64 0] 39 (0, 0))) ∧ Aside0 (wc.heap[gb186]? = some (.cells #[.int .i64 t171, .int .i64 t172, .int .i64 t173, .int .i64 t174, .string t175, .int .i64 t176, .int .i64 t177, .bool t178, .string t179, (.slice Ao14 t180.length co14), .bool t183, .int .i64 t184, .int .i64 t185] 39 (0, 0))) ∧ Aside0 (Below w.heap.size w wc))
     case first =>
      have H := HC46.out
      clear HC46
      by_cases c50 : a0_0 = 2
      ·rw [if_pos c50] at H
       have c50b0 := beq_iff_eq.mpr c50
       have c50b1 := bne_eq_false_iff_eq.mpr c50
       clear c50
       (first | rw [c50b0] | (simp only [i64_w, i32_w]; rw [c50b0]) | skip)
       by_cases c51 : a0_11 > a1
       ·rw [if_pos c51] at H
        have c51b0 : decide (a1 < a0_11) = true := decide_eq_true c51
        clear c51
        have H' := Aside0.mk H
        clear H
        have hnb52 := NB169_170.out
        have hnc52 := NB170_169.out
        have hnb53 := NB169_186.out
        have hnc53 := NB186_169.out
        obtain ⟨hcz54_0, hcz54_1, hcz54_2, hcz54_3, hcz54_4, hcz54_5, hcz54_6, hcz54_7, hcz54_8, hcz54_9, hcz54_10, hcz54_11, hcz54_12⟩ := cl13 BK169.out
        obtain ⟨hfz54_0, hfz54_1, hfz54_2, hfz54_3, hfz54_4, hfz54_5, hfz54_6, hfz54_7, hfz54_8, hfz54_9, hfz54_10, hfz54_11, hfz54_12⟩ := fr13 BK169.out
        go_wp2
        go_meet
        case rel => exact ⟨_, (true), (be_), H', ⟨B5x28_⟩, ⟨B5x2_⟩, ⟨B5x9_⟩, ⟨B5x4_⟩, ⟨B5x3_⟩, ⟨B5x0_⟩⟩
       ·rw [if_neg c51] at H
        have c51b0 : decide (a1 < a0_11) = false := decide_eq_false c51
        clear c51
        have H' := Aside0.mk H
        clear H
        have hnb55 := NB169_170.out
        have hnc55 := NB170_169.out
        have hnb56 := NB169_186.out
        have hnc56 := NB186_169.out
        obtain ⟨hcz57_0, hcz57_1, hcz57_2, hcz57_3, hcz57_4, hcz57_5, hcz57_6, hcz57_7, hcz57_8, hcz57_9, hcz57_10, hcz57_11, hcz57_12⟩ := cl13 BK169.out
        obtain ⟨hfz57_0, hfz57_1, hfz57_2, hfz57_3, hfz57_4, hfz57_5, hfz57_6, hfz57_7, hfz57_8, hfz57_9, hfz57_10, hfz57_11, hfz57_12⟩ := fr13 BK169.out
        go_wp2
        go_meet
        case rel => exact ⟨_, (decide (a0_12 ≥ 12)), (be_), H', ⟨B5x28_⟩, ⟨B5x2_⟩, ⟨B5x9_⟩, ⟨B5x4_⟩, ⟨B5x3_⟩, ⟨B5x0_⟩⟩
      ·rw [if_neg c50] at H
       have c50b0 := beq_eq_false_iff_ne.mpr c50
       have c50b1 := bne_iff_ne.mpr c50
       (first | rw [c50b0] | (simp only [i64_w, i32_w]; rw [c50b0]) | skip)
       by_cases c58 : a0_0 = 3
       ·rw [if_pos c58] at H
        have c58b0 := beq_iff_eq.mpr c58
        have c58b1 := bne_eq_false_iff_eq.mpr c58
        clear c58
        by_cases c59 : a0_11 > a1
        ·rw [if_pos c59] at H
         have c59b0 : decide (a1 < a0_11) = true := decide_eq_true c59
         clear c59
         have H' := Aside0.mk H
         clear H
         have hnb60 := NB169_170.out
         have hnc60 := NB170_169.out
         have hnb61 := NB169_186.out
         have hnc61 := NB186_169.out
         obtain ⟨hcz62_0, hcz62_1, hcz62_2, hcz62_3, hcz62_4, hcz62_5, hcz62_6, hcz62_7, hcz62_8, hcz62_9, hcz62_10, hcz62_11, hcz62_12⟩ := cl13 BK169.out
         obtain ⟨hfz62_0, hfz62_1, hfz62_2, hfz62_3, hfz62_4, hfz62_5, hfz62_6, hfz62_7, hfz62_8, hfz62_9, hfz62_10, hfz62_11, hfz62_12⟩ := fr13 BK169.out
         go_wp2
         go_meet
         case rel => exact ⟨_, (true), (be_), H', ⟨B5x28_⟩, ⟨B5x2_⟩, ⟨B5x9_⟩, ⟨B5x4_⟩, ⟨B5x3_⟩, ⟨B5x0_⟩⟩
        ·rw [if_neg c59] at H
         have c59b0 : decide (a1 < a0_11) = false := decide_eq_false c59
         clear c59
         have H' := Aside0.mk H
         clear H
         have hnb63 := NB169_170.out
         have hnc63 := NB170_169.out
         have hnb64 := NB169_186.out
         have hnc64 := NB186_169.out
         obtain ⟨hcz65_0, hcz65_1, hcz65_2, hcz65_3, hcz65_4, hcz65_5, hcz65_6, hcz65_7, hcz65_8, hcz65_9, hcz65_10, hcz65_11, hcz65_12⟩ := cl13 BK169.out
         obtain ⟨hfz65_0, hfz65_1, hfz65_2, hfz65_3, hfz65_4, hfz65_5, hfz65_6, hfz65_7, hfz65_8, hfz65_9, hfz65_10, hfz65_11, hfz65_12⟩ := fr13 BK169.out
         go_wp2
         go_meet
         case rel => exact ⟨_, (decide (a0_12 ≥ 12)), (be_), H', ⟨B5x28_⟩, ⟨B5x2_⟩, ⟨B5x9_⟩, ⟨B5x4_⟩, ⟨B5x3_⟩, ⟨B5x0_⟩⟩
       ·rw [if_neg c58] at H
        have c58b0 := beq_eq_false_iff_ne.mpr c58
        have c58b1 := bne_iff_ne.mpr c58
        have H' := Aside0.mk H
        clear H
        have hnb66 := NB169_170.out
        have hnc66 := NB170_169.out
        have hnb67 := NB169_186.out
        have hnc67 := NB186_169.out
        obtain ⟨hcz68_0, hcz68_1, hcz68_2, hcz68_3, hcz68_4, hcz68_5, hcz68_6, hcz68_7, hcz68_8, hcz68_9, hcz68_10, hcz68_11, hcz68_12⟩ := cl13 BK169.out
        obtain ⟨hfz68_0, hfz68_1, hfz68_2, hfz68_3, hfz68_4, hfz68_5, hfz68_6, hfz68_7, hfz68_8, hfz68_9, hfz68_10, hfz68_11, hfz68_12⟩ := fr13 BK169.out
        go_wp2
        go_meet
        case rel => exact ⟨_, (true), (be_), H', ⟨B5x28_⟩, ⟨B5x2_⟩, ⟨B5x9_⟩, ⟨B5x4_⟩, ⟨B5x3_⟩, ⟨B5x0_⟩⟩
     case rest =>
      clear HC46
      try clear c27
      try clear c36
      try clear c36b0
      try clear c36b1
      try clear hcz13_0
      try clear hcz13_1
      try clear hcz13_10
      try clear hcz13_11
      try clear hcz13_12
      try clear hcz13_2
      try clear hcz13_3
      try clear hcz13_4
      try clear hcz13_5
      try clear hcz13_6
      try clear hcz13_7
      try clear hcz13_8
      try clear hcz13_9
      try clear hcz49_0
      try clear hcz49_1
      try clear hcz49_10
      try clear hcz49_11
      try clear hcz49_12
      try clear hcz49_2
      try clear hcz49_3
      try clear hcz49_4
      try clear hcz49_5
      try clear hcz49_6
      try clear hcz49_7
      try clear hcz49_8
      try clear hcz49_9
      try clear hcz8_0
      try clear hcz8_1
      try clear hcz8_10
      try clear hcz8_11
      try clear hcz8_12
      try clear hcz8_2
      try clear hcz8_3
      try clear hcz8_4
      try clear hcz8_5
      try clear hcz8_6
      try clear hcz8_7
      try clear hcz8_8
      try clear hcz8_9
      try clear hfz13_0
      try clear hfz13_1
      try clear hfz13_10
      try clear hfz13_11
      try clear hfz13_12
      try clear hfz13_2
      try clear hfz13_3
      try clear hfz13_4
      try clear hfz13_5
      try clear hfz13_6
      try clear hfz13_7
      try clear hfz13_8
      try clear hfz13_9
      try clear hfz49_0
      try clear hfz49_1
      try clear hfz49_10
      try clear hfz49_11
      try clear hfz49_12
      try clear hfz49_2
      try clear hfz49_3
      try clear hfz49_4
      try clear hfz49_5
      try clear hfz49_6
      try clear hfz49_7
      try clear hfz49_8
      try clear hfz49_9
      try clear hfz8_0
      try clear hfz8_1
      try clear hfz8_10
      try clear hfz8_11
      try clear hfz8_12
      try clear hfz8_2
      try clear hfz8_3
      try clear hfz8_4
      try clear hfz8_5
      try clear hfz8_6
      try clear hfz8_7
      try clear hfz8_8
      try clear hfz8_9
      obtain ⟨kq, x47_45, rfl, HA, HJ45, HO_187009, BK169, BK170, BK186, HB⟩ := hcut
      cases kq with
      | zero => exact absurd HA.out (by simp [spec_Push.j1])
      | succ kj45 =>
       have H := HA.out
       clear HA
       simp only [spec_Push.j1] at H
       by_cases c69 : x47_45 = true
       ·subst c69
        rw [if_pos rfl] at H
        obtain ⟨y207, hy207⟩ : ∃ y_ : List (S28), y_ = (([] : List (S28))) := ⟨_, rfl⟩
        replace H : (some (t171, t172, t173, t174, t175, t176, t177, t178, t179, t180, t183, t184, t185, y207)) = some (r1, r2, r3, r4, r5, r6, r7, r8, r9, r10, r11, r12, r13, r14) := by first | (rw [hy207]; with_reducible exact H) | (have H2_ := (Option.bind_some _ _).symm.trans H; rw [hy207]; with_reducible exact H2_) | (have H2_ := (Option.bind_some _ _).symm.trans H; with_reducible exact H2_) | with_reducible exact H | (rw [hy207]; exact H) | exact H
        have Ny207 := Aside0.mk hy207
        clear hy207
        simp only [Option.some.injEq, Prod.mk.injEq] at H
        obtain ⟨rfl, rfl, rfl, rfl, rfl, rfl, rfl, rfl, rfl, rfl, rfl, rfl, rfl, rfl⟩ := H
        have hnb70 := NB186_169.out
        have hnc70 := NB169_186.out
        have hnb71 := NB186_170.out
        have hnc71 := NB170_186.out
        obtain ⟨hcz72_0, hcz72_1, hcz72_2, hcz72_3, hcz72_4, hcz72_5, hcz72_6, hcz72_7, hcz72_8, hcz72_9, hcz72_10, hcz72_11, hcz72_12⟩ := cl13 BK186.out
        obtain ⟨hfz72_0, hfz72_1, hfz72_2, hfz72_3, hfz72_4, hfz72_5, hfz72_6, hfz72_7, hfz72_8, hfz72_9, hfz72_10, hfz72_11, hfz72_12⟩ := fr13 BK186.out
        go_wp2_with (first | ((with_reducible refine gate_dst (N := 49) rfl ?_); refine Kd.R_lit k28 _ 28 ?hg (N := 49) ?hd (xs := ([] : List (S28))) (inner := []) (ok := fun _ => True) (okp := fun _ => True) ?hr ?hp (fun _ hk => hk) trivial (Below.refl _ _) (Nat.le_refl _) (by simp) ?_; (case hd => rfl); (case hg => rfl); (case hr => exact B5x15_); (case hp => exact (Reps.none _ _)); intro v208 w73 ho74 hb hg_ hnew_; clear hg_ hnew_; (first | rw [← Ny207.out] at ho74 | (simp only [Int.reduceToNat] at ho74; rw [← Ny207.out] at ho74)); replace HO_187009 := Aside0.mk (Kd.R_below B5x2_ hb); have HO209 := Aside0.mk (Kd.R_lower ho74 (below_size B5x0_)); replace BK169 := Aside0.mk (bb BK169.out hb); replace BK170 := Aside0.mk (bb BK170.out hb); replace BK186 := Aside0.mk (bb BK186.out hb); replace HB := Aside0.mk (below_step B5x0_ hb); clear hb ho74; have hnb75 := NB170_169.out; have hnc75 := NB169_170.out; obtain ⟨hcz76_0, hcz76_1, hcz76_2, hcz76_3, hcz76_4, hcz76_5, hcz76_6, hcz76_7, hcz76_8, hcz76_9, hcz76_10, hcz76_11, hcz76_12⟩ := cl13 BK170.out; obtain ⟨hfz76_0, hfz76_1, hfz76_2, hfz76_3, hfz76_4, hfz76_5, hfz76_6, hfz76_7, hfz76_8, hfz76_9, hfz76_10, hfz76_11, hfz76_12⟩ := fr13 BK170.out) | ((with_reducible refine gate_store (t := 39) (p := 4) rfl ?_); refine store_event (t := 39) (p := 4) (v := ?vo_w77) (w1 := (((((((((((((w73.setCell ⟨gb170, 0, none⟩ (.int .i64 t171)).setCell ⟨gb170, 1, none⟩ (.int .i64 t172)).setCell ⟨gb170, 2, none⟩ (.int .i64 t173)).setCell ⟨gb170, 3, none⟩ (.int .i64 t174)).setCell ⟨gb170, 4, none⟩ (.string t175)).setCell ⟨gb170, 5, none⟩ (.int .i64 t176)).setCell ⟨gb170, 6, none⟩ (.int .i64 t177)).setCell ⟨gb170, 7, none⟩ (.bool t178)).setCell ⟨gb170, 8, none⟩ (.string t179)).setCell ⟨gb170, 9, none⟩ (.slice Ao14 t180.length co14)).setCell ⟨gb170, 10, none⟩ (.bool t183)).setCell ⟨gb170, 11, none⟩ (.int .i64 t184)).setCell ⟨gb170, 12, none⟩ (.int .i64 t185))) ?hg ?ho ?hn ?hr ?_; (case ho => rfl); (case hg => rfl); (case hn => rfl); (case hr => exact B5x15_); intro w77 hw; replace HO_187009 : Aside0 (Kd.R k143 143 w77 w.heap.size (fun _ => True) (.slice Ao14 t180.length co14) t180) := ⟨B5x5_⟩; replace HO209 : Aside0 (Kd.R k28 28 w77 w.heap.size (fun _ => True) v208 y207) := ⟨(by rw [hw]; exact (by (with_reducible repeat (first | apply Kd.R_alloc | apply Kd.R_drewN | apply Kd.R_drew)); exact Kd.R_mono (Kd.R_far (p := ⟨gb170, 12, none⟩) (Kd.R_far (p := ⟨gb170, 11, none⟩) (Kd.R_far (p := ⟨gb170, 10, none⟩) (Kd.R_far (p := ⟨gb170, 9, none⟩) (Kd.R_far (p := ⟨gb170, 8, none⟩) (Kd.R_far (p := ⟨gb170, 7, none⟩) (Kd.R_far (p := ⟨gb170, 6, none⟩) (Kd.R_far (p := ⟨gb170, 5, none⟩) (Kd.R_far (p := ⟨gb170, 4, none⟩) (Kd.R_far (p := ⟨gb170, 3, none⟩) (Kd.R_far (p := ⟨gb170, 2, none⟩) (Kd.R_far (p := ⟨gb170, 1, none⟩) (Kd.R_far (p := ⟨gb170, 0, none⟩) (Kd.R_types HO209.out BK170.out (by decide)) (fun _ hk => hk.2) (.int .i64 t171)) (fun _ hk => hk.2) (.int .i64 t172)) (fun _ hk => hk.2) (.int .i64 t173)) (fun _ hk => hk.2) (.int .i64 t174)) (fun _ hk => hk.2) (.string t175)) (fun _ hk => hk.2) (.int .i64 t176)) (fun _ hk => hk.2) (.int .i64 t177)) (fun _ hk => hk.2) (.bool t178)) (fun _ hk => hk.2) (.string t179)) (fun _ hk => hk.2) (.slice Ao14 t180.length co14)) (fun _ hk => hk.2) (.bool t183)) (fun _ hk => hk.2) (.int .i64 t184)) (fun _ hk => hk.2) (.int .i64 t185)) (fun _ hk => trivial)))⟩; replace BK169 : Aside0 (w77.heap[gb169]? = some (.cells #[.int .i64 a0_0, .int .i64 a0_1, .int .i64 a0_2, .int .i64 a0_3, .string a0_4, .int .i64 a0_5, .int .i64 a0_6, .bool a0_7, .string a0_8, .slice A0_9 l0_9.length c0_9, .bool a0_10, .int .i64 a0_11, .int .i64 a0_12] 39 (0, 0))) := ⟨(by rw [hw]; exact B5x6_)⟩; replace BK170 : Aside0 (w77.heap[gb170]? = some (.cells #[.int .i64 t171, .int .i64 t172, .int .i64 t173, .int .i64 t174, .string t175, .int .i64 t176, .int .i64 t177, .bool t178, .string t179, .slice Ao14 t180.length co14, .bool t183, .int .i64 t184, .int .i64 t185] 39 (0, 0))) := ⟨(by rw [hw]; exact B5x8_)⟩; replace BK186 : Aside0 (w77.heap[gb186]? = some (.cells #[.int .i64 t171, .int .i64 t172, .int .i64 t173, .int .i64 t174, .string t175, .int .i64 t176, .int .i64 t177, .bool t178, .string t179, .slice Ao14 t180.length co14, .bool t183, .int .i64 t184, .int .i64 t185] 39 (0, 0))) := ⟨(by rw [hw]; exact B5x7_)⟩; replace HB : Aside0 (Below w.heap.size w w77) := ⟨B5x30_⟩; clear hw))
        refine bodyPost_ret (results_ct rfl _ _ gb170 39 #[.int .i64 t171, .int .i64 t172, .int .i64 t173, .int .i64 t174, .string t175, .int .i64 t176, .int .i64 t177, .bool t178, .string t179, .slice Ao14 t180.length co14, .bool t183, .int .i64 t184, .int .i64 t185] (0, 0) _ rfl B5x4_ Try.underlying39 rfl B5x14_) rfl ?_
        exact ⟨_, _, by first | rfl | (simp [errW_none, errW_some] <;> rfl) | (simp [*, errW_none, errW_some] <;> rfl), by (with_reducible repeat (first | apply Kd.R_alloc | apply Kd.R_drewN | apply Kd.R_drew)); exact HO_187009.out, by (with_reducible repeat (first | apply Kd.R_alloc | apply Kd.R_drewN | apply Kd.R_drew)); exact HO209.out, by repeat (first | (with_reducible first | exact HB.out | apply below_alloc | apply pw_below_drewN | apply below_drew1 | refine below_set ?_ GE169.out | refine below_set ?_ GE170.out | refine below_set ?_ GE186.out) | exact HB.out)⟩
       ·replace c69 := Bool.eq_false_iff.mpr c69
        subst c69
        rw [if_neg (show ¬ (false = true) by decide)] at H
        by_cases c78 : a0_0 = 3
        ·rw [if_pos c78] at H
         have c78b0 := beq_iff_eq.mpr c78
         have c78b1 := bne_eq_false_iff_eq.mpr c78
         clear c78
         replace H := bsi H
         obtain ⟨⟨t211, t212, t213, t214, t215, t216, t217, t218, t219, t220, t221, t222⟩, A79, H⟩ := H
         (try dsimp only at H)
         obtain ⟨y223, hy223⟩ : ∃ y_ : List (S28), y_ = (([(⟨a0_1, a0_3, 3, (⟨#[]⟩ : ByteArray)⟩ : S28)] : List (S28))) := ⟨_, rfl⟩
         replace H : (some (t211, t212, t213, t214, t215, t216, t217, t218, t219, t180, a0_10, t221, t222, y223)) = some (r1, r2, r3, r4, r5, r6, r7, r8, r9, r10, r11, r12, r13, r14) := by first | (rw [hy223]; with_reducible exact H) | (have H2_ := (Option.bind_some _ _).symm.trans H; rw [hy223]; with_reducible exact H2_) | (have H2_ := (Option.bind_some _ _).symm.trans H; with_reducible exact H2_) | with_reducible exact H | (rw [hy223]; exact H) | exact H
         have Ny223 := Aside0.mk hy223
         clear hy223
         simp only [Option.some.injEq, Prod.mk.injEq] at H
         obtain ⟨rfl, rfl, rfl, rfl, rfl, rfl, rfl, rfl, rfl, rfl, rfl, rfl, rfl, rfl⟩ := H
         have hnb80 := NB169_170.out
         have hnc80 := NB170_169.out
         have hnb81 := NB169_186.out
         have hnc81 := NB186_169.out
         obtain ⟨hcz82_0, hcz82_1, hcz82_2, hcz82_3, hcz82_4, hcz82_5, hcz82_6, hcz82_7, hcz82_8, hcz82_9, hcz82_10, hcz82_11, hcz82_12⟩ := cl13 BK169.out
         obtain ⟨hfz82_0, hfz82_1, hfz82_2, hfz82_3, hfz82_4, hfz82_5, hfz82_6, hfz82_7, hfz82_8, hfz82_9, hfz82_10, hfz82_11, hfz82_12⟩ := fr13 BK169.out
         try go_wp2_with (first | ((with_reducible refine gate_dst (N := 8) rfl ?_); refine box_event ?hg (N := 8) ?hd (cs := #[.int .i64 0, .int .i64 0, .int .i64 0, .string (⟨#[]⟩ : ByteArray)]) (t := 28) ?hr ?_; (case hd => rfl); (case hg => rfl); (case hr => exact B5x15_); intro gb210 hg w83 hbox hb; replace HO_187009 := Aside0.mk (Kd.R_below B5x2_ hb); have BK210 := Aside0.mk (hbox); have GW210 := Aside0.mk ((bs hg (below_size HB.out))); have GE210 := Aside0.mk ((bs hg (below_size HB.out))); replace HB := Aside0.mk (below_step B5x0_ hb); have NB169_210 := Aside0.mk ((nl hg (blk_lt BK169.out))); have NB210_169 := Aside0.mk ((ng hg (blk_lt BK169.out))); replace BK169 := Aside0.mk (bb BK169.out hb); have NB170_210 := Aside0.mk ((nl hg (blk_lt BK170.out))); have NB210_170 := Aside0.mk ((ng hg (blk_lt BK170.out))); replace BK170 := Aside0.mk (bb BK170.out hb); have NB186_210 := Aside0.mk ((nl hg (blk_lt BK186.out))); have NB210_186 := Aside0.mk ((ng hg (blk_lt BK186.out))); replace BK186 := Aside0.mk (bb BK186.out hb); clear hb hbox hg; have hnb84 := NB210_169.out; have hnc84 := NB169_210.out; have hnb85 := NB210_170.out; have hnc85 := NB170_210.out; have hnb86 := NB210_186.out; have hnc86 := NB186_210.out; obtain ⟨hcz87_0, hcz87_1, hcz87_2, hcz87_3⟩ := cl4 BK210.out; obtain ⟨hfz87_0, hfz87_1, hfz87_2, hfz87_3⟩ := fr4 BK210.out; obtain ⟨hcz88_0, hcz88_1, hcz88_2, hcz88_3, hcz88_4, hcz88_5, hcz88_6, hcz88_7, hcz88_8, hcz88_9, hcz88_10, hcz88_11, hcz88_12⟩ := cl13 BK169.out; obtain ⟨hfz88_0, hfz88_1, hfz88_2, hfz88_3, hfz88_4, hfz88_5, hfz88_6, hfz88_7, hfz88_8, hfz88_9, hfz88_10, hfz88_11, hfz88_12⟩ := fr13 BK169.out) | ((with_reducible refine gate_store (t := 3) (p := 59) rfl ?_); refine store_event (t := 3) (p := 59) (v := ?vo_w89) (w1 := ((((((w83.setCell ⟨gb210, 0, none⟩ (.int .i64 a0_1)).setCell ⟨gb210, 1, none⟩ (.int .i64 0)).setCell ⟨gb210, 2, none⟩ (.int .i64 1)).setCell ⟨gb210, 3, none⟩ (.string (⟨#[]⟩ : ByteArray))).setCell ⟨gb210, 2, none⟩ (.int .i64 3)).setCell ⟨gb210, 1, none⟩ (.int .i64 a0_3))) ?hg ?ho ?hn ?hr ?_; (case ho => rfl); (case hg => rfl); (case hn => rfl); (case hr => exact B5x15_); intro w89 hw; replace HO_187009 : Aside0 (Kd.R k143 143 w89 w.heap.size (fun _ => True) (.slice Ao14 t180.length co14) t180) := ⟨(by rw [hw]; exact (by (with_reducible repeat (first | apply Kd.R_alloc | apply Kd.R_drewN | apply Kd.R_drew)); exact Kd.R_mono (Kd.R_far (p := ⟨gb210, 1, none⟩) (Kd.R_far (p := ⟨gb210, 2, none⟩) (Kd.R_far (p := ⟨gb210, 3, none⟩) (Kd.R_far (p := ⟨gb210, 2, none⟩) (Kd.R_far (p := ⟨gb210, 1, none⟩) (Kd.R_far (p := ⟨gb210, 0, none⟩) (Kd.R_types HO_187009.out BK210.out (by decide)) (fun _ hk => hk.2) (.int .i64 a0_1)) (fun _ hk => hk.2) (.int .i64 0)) (fun _ hk => hk.2) (.int .i64 1)) (fun _ hk => hk.2) (.string (⟨#[]⟩ : ByteArray))) (fun _ hk => hk.2) (.int .i64 3)) (fun _ hk => hk.2) (.int .i64 a0_3)) (fun _ hk => trivial)))⟩; replace BK169 : Aside0 (w89.heap[gb169]? = some (.cells #[.int .i64 a0_0, .int .i64 a0_1, .int .i64 a0_2, .int .i64 a0_3, .string a0_4, .int .i64 a0_5, .int .i64 a0_6, .bool a0_7, .string a0_8, .slice A0_9 l0_9.length c0_9, .bool a0_10, .int .i64 a0_11, .int .i64 a0_12] 39 (0, 0))) := ⟨(by rw [hw]; exact B5x22_)⟩; replace BK170 : Aside0 (w89.heap[gb170]? = some (.cells #[.int .i64 0, .int .i64 0, .int .i64 0, .int .i64 0, .string (⟨#[]⟩ : ByteArray), .int .i64 0, .int .i64 0, .bool false, .string (⟨#[]⟩ : ByteArray), .slice none 0 0, .bool false, .int .i64 0, .int .i64 0] 39 (0, 0))) := ⟨(by rw [hw]; exact B5x23_)⟩; replace BK186 : Aside0 (w89.heap[gb186]? = some (.cells #[.int .i64 t171, .int .i64 t172, .int .i64 t173, .int .i64 t174, .string t175, .int .i64 t176, .int .i64 t177, .bool t178, .string t179, .slice Ao14 t180.length co14, .bool t183, .int .i64 t184, .int .i64 t185] 39 (0, 0))) := ⟨(by rw [hw]; exact B5x13_)⟩; replace BK210 : Aside0 (w89.heap[gb210]? = some (.cells #[.int .i64 a0_1, .int .i64 a0_3, .int .i64 3, .string (⟨#[]⟩ : ByteArray)] 28 (0, 0))) := ⟨(by rw [hw]; exact B5x26_)⟩; replace HB : Aside0 (Below w.heap.size w w89) := ⟨(by rw [hw]; exact B5x1_)⟩; clear hw; obtain ⟨hcz90_0, hcz90_1, hcz90_2, hcz90_3, hcz90_4, hcz90_5, hcz90_6, hcz90_7, hcz90_8, hcz90_9, hcz90_10, hcz90_11, hcz90_12⟩ := cl13 BK169.out; obtain ⟨hfz90_0, hfz90_1, hfz90_2, hfz90_3, hfz90_4, hfz90_5, hfz90_6, hfz90_7, hfz90_8, hfz90_9, hfz90_10, hfz90_11, hfz90_12⟩ := fr13 BK169.out) | ((with_reducible refine gate_callee (f := 71) rfl ?_); refine goesL_ (some 63) rfl rfl Try.func71 B5x14_ rfl #[.pointer (some ⟨gb186, 0, none⟩), .int .i64 a1] rfl B5x10_ ?_; (with_reducible refine (spec_l13Again.calls kj45 gb186 t171 t172 t173 t174 t175 t176 t177 t178 t179 t180 (.slice Ao14 t180.length co14) t183 t184 t185 a1 t211 t212 t213 t214 t215 t216 t217 t218 t219 t220 t221 t222 w _ ?side1 ?side2 A79.out).mono ?_); (case side1 => exact ⟨B5x3_, GE186.out⟩); (case side2 => exact B5x1_); rintro e w91 ⟨rfl, hi, hb, hk⟩; refine ⟨_, rfl, ?_⟩; replace HO_187009 := Aside0.mk (Kd.R_mono (Kd.R_keep (Kd.R_types B5x2_ B5x3_ (by decide)) hk (fun _ h => h.2)) (fun _ h => h.1)); replace BK169 := Aside0.mk (kb hk BK169.out NB169_186.out); replace BK170 := Aside0.mk (kb hk BK170.out NB170_186.out); replace BK210 := Aside0.mk (kb hk BK210.out NB210_186.out); replace HB := Aside0.mk (hb); replace BK186 := Aside0.mk (hi.1); (try clear hb hk hi); have hnb92 := NB186_170.out; have hnc92 := NB170_186.out; obtain ⟨hcz93_0, hcz93_1, hcz93_2, hcz93_3, hcz93_4, hcz93_5, hcz93_6, hcz93_7, hcz93_8, hcz93_9, hcz93_10, hcz93_11, hcz93_12⟩ := cl13 BK186.out; obtain ⟨hfz93_0, hfz93_1, hfz93_2, hfz93_3, hfz93_4, hfz93_5, hfz93_6, hfz93_7, hfz93_8, hfz93_9, hfz93_10, hfz93_11, hfz93_12⟩ := fr13 BK186.out))
         have n0_ : Aside0 (Kd.R k143 143 (w91.setCell ⟨gb186, 10, none⟩ (.bool a0_10)) w.heap.size (fun _ => True) (.slice Ao14 t180.length co14) t180) := ⟨B5x27_⟩
         have n1_ : Aside0 ((w91.setCell ⟨gb186, 10, none⟩ (.bool a0_10)).heap[gb169]? = some (.cells #[.int .i64 a0_0, .int .i64 a0_1, .int .i64 a0_2, .int .i64 a0_3, .string a0_4, .int .i64 a0_5, .int .i64 a0_6, .bool a0_7, .string a0_8, .slice A0_9 l0_9.length c0_9, .bool a0_10, .int .i64 a0_11, .int .i64 a0_12] 39 (0, 0))) := ⟨B5x11_⟩
         have n2_ : Aside0 ((w91.setCell ⟨gb186, 10, none⟩ (.bool a0_10)).heap[gb170]? = some (.cells #[.int .i64 0, .int .i64 0, .int .i64 0, .int .i64 0, .string (⟨#[]⟩ : ByteArray), .int .i64 0, .int .i64 0, .bool false, .string (⟨#[]⟩ : ByteArray), .slice none 0 0, .bool false, .int .i64 0, .int .i64 0] 39 (0, 0))) := ⟨B5x12_⟩
         have n3_ : Aside0 ((w91.setCell ⟨gb186, 10, none⟩ (.bool a0_10)).heap[gb186]? = some (.cells #[.int .i64 t211, .int .i64 t212, .int .i64 t213, .int .i64 t214, .string t215, .int .i64 t216, .int .i64 t217, .bool t218, .string t219, .slice Ao14 t180.length co14, .bool a0_10, .int .i64 t221, .int .i64 t222] 39 (0, 0))) := ⟨B5x16_⟩
         have n4_ : Aside0 ((w91.setCell ⟨gb186, 10, none⟩ (.bool a0_10)).heap[gb210]? = some (.cells #[.int .i64 a0_1, .int .i64 a0_3, .int .i64 3, .string (⟨#[]⟩ : ByteArray)] 28 (0, 0))) := ⟨B5x25_⟩
         have n5_ : Aside0 (Below w.heap.size w (w91.setCell ⟨gb186, 10, none⟩ (.bool a0_10))) := ⟨B5x1_⟩
         (try clear HO_187009)
         (try clear BK169)
         (try clear BK170)
         (try clear BK186)
         (try clear BK210)
         (try clear HB)
         generalize (w91.setCell ⟨gb186, 10, none⟩ (.bool a0_10)) = w94 at n0_ n1_ n2_ n3_ n4_ n5_ ⊢
         have HO_187009 := n0_
         have BK169 := n1_
         have BK170 := n2_
         have BK186 := n3_
         have BK210 := n4_
         have HB := n5_
         clear n0_ n1_ n2_ n3_ n4_ n5_
         replace HO_187009 := Aside0.mk (Kd.R_drew HO_187009.out)
         replace BK169 := Aside0.mk (blk_drew BK169.out)
         replace BK170 := Aside0.mk (blk_drew BK170.out)
         replace BK186 := Aside0.mk (blk_drew BK186.out)
         replace BK210 := Aside0.mk (blk_drew BK210.out)
         replace HB := Aside0.mk (below_drew1 HB.out)
         refine start_ (n := 5) (S := fun w' => True) (ds := []) #[false, false, false, false, false] B5x14_ rfl rfl trivial (fun hHeld => ?_); refine with_tabW spec_Push.tab16 spec_Push.bits16 (fun HT_ HW_ => ?_)
         generalize w94.drew = w95 at HO_187009 BK169 BK170 BK186 BK210 HB hHeld ⊢
         refine inv_at [0, 1, 2, 3, 4] (fun a0_ b a w' => ∃ (v224 : Value) (m4_ : Value), a = putSel a0_ b [(0, 66, .agg #[.int .i64 t211, .int .i64 t212, .int .i64 t213, .int .i64 t214, .string t215, .int .i64 t216, .int .i64 t217, .bool t218, .string t219, .slice Ao14 t180.length co14, .bool a0_10, .int .i64 t221, .int .i64 t222]), (1, 67, .agg #[.int .i64 a0_1, .int .i64 a0_3, .int .i64 3, .string (⟨#[]⟩ : ByteArray)]), (2, 68, v224), (4, 5, m4_)] ∧ (Kd.R k143 143 w' w.heap.size (fun _ => True) (.slice Ao14 t180.length co14) t180) ∧ (w'.heap[gb169]? = some (.cells #[.int .i64 a0_0, .int .i64 a0_1, .int .i64 a0_2, .int .i64 a0_3, .string a0_4, .int .i64 a0_5, .int .i64 a0_6, .bool a0_7, .string a0_8, .slice A0_9 l0_9.length c0_9, .bool a0_10, .int .i64 a0_11, .int .i64 a0_12] 39 (0, 0))) ∧ (b 3 = false → w'.heap[gb170]? = some (.cells #[.int .i64 0, .int .i64 0, .int .i64 0, .int .i64 0, .string (⟨#[]⟩ : ByteArray), .int .i64 0, .int .i64 0, .bool false, .string (⟨#[]⟩ : ByteArray), .slice none 0 0, .bool false, .int .i64 0, .int .i64 0] 39 (0, 0))) ∧ (w'.heap[gb186]? = some (.cells #[.int .i64 t211, .int .i64 t212, .int .i64 t213, .int .i64 t214, .string t215, .int .i64 t216, .int .i64 t217, .bool t218, .string t219, .slice Ao14 t180.length co14, .bool a0_10, .int .i64 t221, .int .i64 t222] 39 (0, 0))) ∧ (w'.heap[gb210]? = some (.cells #[.int .i64 a0_1, .int .i64 a0_3, .int .i64 3, .string (⟨#[]⟩ : ByteArray)] 28 (0, 0))) ∧ (Below w.heap.size w w') ∧ (b 2 = true → Kd.R k28 28 w' w.heap.size (fun k_ => k_ ≠ gb210) v224 y223) ∧ (b 3 = true → w'.heap[gb170]? = some (.cells #[.int .i64 t211, .int .i64 t212, .int .i64 t213, .int .i64 t214, .string t215, .int .i64 t216, .int .i64 t217, .bool t218, .string t219, .slice Ao14 t180.length co14, .bool a0_10, .int .i64 t221, .int .i64 t222] 39 (0, 0))) ∧ (b 4 = true → (m4_ : Value) = v224)) HT_.out HW_.out B5x14_ B5x14_ ?_ ?_ ?_
         ·exact ⟨.bool false, .bool false, by simp only [putSel, Bool.false_eq_true, if_false], HO_187009.out, BK169.out, fun _ => BK170.out, BK186.out, BK210.out, HB.out, fun h_ => absurd h_ (by decide), fun h_ => absurd h_ (by decide), fun h_ => absurd h_ (by decide)⟩
         ·skip
          clear BK169 BK170 BK186 BK210 HB HO_187009
          refine steps_cons ?_ ?_
          ·rintro b a w' ⟨v224, m4_, ha, Q_HO_187009, Q_BK169, Q_BK170, Q_BK186, Q_BK210, Q_HB, Q_HO225, Q_BK170_e3, Q_X4_⟩ hb_ hon hoff
           refine ⟨_, rfl, fun K hK => ?_⟩
           have e6 : a.tmps[6]? = some (.pointer (some ⟨gb186, 0, none⟩)) := by rw [ha]; exact (putSel_off rfl).trans rfl
           replace ha := Aside0.mk ha
           have HO_187009 := Aside0.mk Q_HO_187009
           have BK169 := Aside0.mk Q_BK169
           have BK170 := Aside0.mk (Q_BK170 (hoff 3 B5x14_))
           have BK186 := Aside0.mk Q_BK186
           have BK210 := Aside0.mk Q_BK210
           have HB := Aside0.mk Q_HB
           have hc0_ : w'.cell? ⟨gb186, 0, none⟩ = some (.int .i64 t211) := (blk_cell BK186.out 0).trans rfl
           have hc1_ : w'.cell? ⟨gb186, 1, none⟩ = some (.int .i64 t212) := (blk_cell BK186.out 1).trans rfl
           have hc2_ : w'.cell? ⟨gb186, 2, none⟩ = some (.int .i64 t213) := (blk_cell BK186.out 2).trans rfl
           have hc3_ : w'.cell? ⟨gb186, 3, none⟩ = some (.int .i64 t214) := (blk_cell BK186.out 3).trans rfl
           have hc4_ : w'.cell? ⟨gb186, 4, none⟩ = some (.string t215) := (blk_cell BK186.out 4).trans rfl
           have hc5_ : w'.cell? ⟨gb186, 5, none⟩ = some (.int .i64 t216) := (blk_cell BK186.out 5).trans rfl
           have hc6_ : w'.cell? ⟨gb186, 6, none⟩ = some (.int .i64 t217) := (blk_cell BK186.out 6).trans rfl
           have hc7_ : w'.cell? ⟨gb186, 7, none⟩ = some (.bool t218) := (blk_cell BK186.out 7).trans rfl
           have hc8_ : w'.cell? ⟨gb186, 8, none⟩ = some (.string t219) := (blk_cell BK186.out 8).trans rfl
           have hc9_ : w'.cell? ⟨gb186, 9, none⟩ = some (.slice Ao14 t180.length co14) := (blk_cell BK186.out 9).trans rfl
           have hc10_ : w'.cell? ⟨gb186, 10, none⟩ = some (.bool a0_10) := (blk_cell BK186.out 10).trans rfl
           have hc11_ : w'.cell? ⟨gb186, 11, none⟩ = some (.int .i64 t221) := (blk_cell BK186.out 11).trans rfl
           have hc12_ : w'.cell? ⟨gb186, 12, none⟩ = some (.int .i64 t222) := (blk_cell BK186.out 12).trans rfl
           refine value_ (w1 := w') (v := .agg #[.int .i64 t211, .int .i64 t212, .int .i64 t213, .int .i64 t214, .string t215, .int .i64 t216, .int .i64 t217, .bool t218, .string t219, .slice Ao14 t180.length co14, .bool a0_10, .int .i64 t221, .int .i64 t222]) (by rfl) rfl ?_ ?_
           ·go_simp
            (try simp only [i64_w])
            try rfl
           refine hK.out _ _ ⟨v224, m4_, B5x32_, Q_HO_187009, Q_BK169, Q_BK170, Q_BK186, Q_BK210, Q_HB, Q_HO225, fun h0_ => absurd ((hoff 3 B5x14_).symm.trans h0_) (by decide), fun h0_ => absurd ((hoff 4 B5x14_).symm.trans h0_) (by decide)⟩
          refine steps_cons ?_ ?_
          ·rintro b a w' ⟨v224, m4_, ha, Q_HO_187009, Q_BK169, Q_BK170, Q_BK186, Q_BK210, Q_HB, Q_HO225, Q_BK170_e3, Q_X4_⟩ hb_ hon hoff
           refine ⟨_, rfl, fun K hK => ?_⟩
           have e8 : a.tmps[8]? = some (.pointer (some ⟨gb210, 0, none⟩)) := by rw [ha]; exact (putSel_off rfl).trans rfl
           replace ha := Aside0.mk ha
           have HO_187009 := Aside0.mk Q_HO_187009
           have BK169 := Aside0.mk Q_BK169
           have BK186 := Aside0.mk Q_BK186
           have BK210 := Aside0.mk Q_BK210
           have HB := Aside0.mk Q_HB
           have hc0_ : w'.cell? ⟨gb210, 0, none⟩ = some (.int .i64 a0_1) := (blk_cell BK210.out 0).trans rfl
           have hc1_ : w'.cell? ⟨gb210, 1, none⟩ = some (.int .i64 a0_3) := (blk_cell BK210.out 1).trans rfl
           have hc2_ : w'.cell? ⟨gb210, 2, none⟩ = some (.int .i64 3) := (blk_cell BK210.out 2).trans rfl
           have hc3_ : w'.cell? ⟨gb210, 3, none⟩ = some (.string (⟨#[]⟩ : ByteArray)) := (blk_cell BK210.out 3).trans rfl
           refine value_ (w1 := w') (v := .agg #[.int .i64 a0_1, .int .i64 a0_3, .int .i64 3, .string (⟨#[]⟩ : ByteArray)]) (by rfl) rfl ?_ ?_
           ·go_simp
            (try simp only [i64_w])
            try rfl
           refine hK.out _ _ ⟨v224, m4_, B5x33_, Q_HO_187009, Q_BK169, Q_BK170, Q_BK186, Q_BK210, Q_HB, fun h0_ => absurd ((hoff 2 B5x14_).symm.trans h0_) (by decide), Q_BK170_e3, fun h0_ => absurd ((hoff 4 B5x14_).symm.trans h0_) (by decide)⟩
          refine steps_cons ?_ ?_
          ·rintro b a w' ⟨v224, m4_, ha, Q_HO_187009, Q_BK169, Q_BK170, Q_BK186, Q_BK210, Q_HB, Q_HO225, Q_BK170_e3, Q_X4_⟩ hb_ hon hoff
           refine ⟨_, rfl, fun K hK => ?_⟩
           have e67 : a.tmps[67]? = some (.agg #[.int .i64 a0_1, .int .i64 a0_3, .int .i64 3, .string (⟨#[]⟩ : ByteArray)]) := by rw [ha]; exact putSel_on (e := (1, 67, .agg #[.int .i64 a0_1, .int .i64 a0_3, .int .i64 3, .string (⟨#[]⟩ : ByteArray)])) 1 rfl rfl (hon 1 B5x14_) rfl
           replace ha := Aside0.mk ha
           have HO_187009 := Aside0.mk Q_HO_187009
           have BK169 := Aside0.mk Q_BK169
           have BK186 := Aside0.mk Q_BK186
           have BK210 := Aside0.mk Q_BK210
           have HB := Aside0.mk Q_HB
           refine Kd.R_lit_step k28 _ 28 ?hg (N := 68) ?hd (xs := ([(⟨a0_1, a0_3, 3, (⟨#[]⟩ : ByteArray)⟩ : S28)] : List (S28))) (inner := [.int .i64 a0_1, .int .i64 a0_3, .int .i64 3, .string (⟨#[]⟩ : ByteArray)]) (ok := fun _ => True) (okp := fun _ => True) ?hr ?hp (fun _ hk => hk) trivial (Below.refl _ _) (Nat.le_refl _) (by simp) ?_; (case hd => rfl); (case hg => rfl); (case hr => exact B5x15_); (case hp => exact (Reps.c4 (show Kd.M k28 _ _ _ (⟨a0_1, a0_3, 3, (⟨#[]⟩ : ByteArray)⟩ : S28) [.int .i64 a0_1, .int .i64 a0_3, .int .i64 3, .string (⟨#[]⟩ : ByteArray)] from (k28_mkM _ _ _ (⟨a0_1, a0_3, 3, (⟨#[]⟩ : ByteArray)⟩ : S28) )) (Reps.none _ _)))
           intro v224 w96 ho97 hb hg_ hnew_
           clear hg_ hnew_
           (first | rw [← Ny223.out] at ho97 | (simp only [Int.reduceToNat] at ho97; rw [← Ny223.out] at ho97))
           have n0_ := Aside0.mk (Kd.R_below B5x2_ hb)
           have n1_ := Aside0.mk (Kd.R_lower (Kd.R_newB ho97 (g := gb210) (o := .cells #[.int .i64 a0_1, .int .i64 a0_3, .int .i64 3, .string (⟨#[]⟩ : ByteArray)] 28 (0, 0)) B5x20_) (below_size B5x1_))
           have n2_ := Aside0.mk (bb BK169.out hb)
           have n4_ := Aside0.mk (bb BK186.out hb)
           have n5_ := Aside0.mk (bb BK210.out hb)
           have n6_ := Aside0.mk (below_step B5x1_ hb)
           have z_BK170 := fun (h0_ : b 3 = false) => (show w96.heap[gb170]? = some (.cells #[.int .i64 0, .int .i64 0, .int .i64 0, .int .i64 0, .string (⟨#[]⟩ : ByteArray), .int .i64 0, .int .i64 0, .bool false, .string (⟨#[]⟩ : ByteArray), .slice none 0 0, .bool false, .int .i64 0, .int .i64 0] 39 (0, 0)) from B5x18_)
           have z_BK170_e3 := fun (h0_ : b 3 = true) => (show w96.heap[gb170]? = some (.cells #[.int .i64 t211, .int .i64 t212, .int .i64 t213, .int .i64 t214, .string t215, .int .i64 t216, .int .i64 t217, .bool t218, .string t219, .slice Ao14 t180.length co14, .bool a0_10, .int .i64 t221, .int .i64 t222] 39 (0, 0)) from (by first | exact (blk_below (g := gb170) (o := .cells #[.int .i64 t211, .int .i64 t212, .int .i64 t213, .int .i64 t214, .string t215, .int .i64 t216, .int .i64 t217, .bool t218, .string t219, .slice Ao14 t180.length co14, .bool a0_10, .int .i64 t221, .int .i64 t222] 39 (0, 0)) B5x29_ hb)))
           clear HO_187009
           clear BK169
           clear BK186
           clear BK210
           clear HB
           have HO_187009 := n0_
           have HO225 := n1_
           have BK169 := n2_
           have BK186 := n4_
           have BK210 := n5_
           have HB := n6_
           clear n0_ n1_ n2_ n4_ n5_ n6_
           clear hb ho97
           refine hK.out _ _ ⟨v224, m4_, B5x34_, B5x2_, B5x9_, z_BK170, B5x3_, B5x20_, B5x1_, fun _ => (by (with_reducible repeat (first | apply Kd.R_alloc | apply Kd.R_drewN | apply Kd.R_drew)); exact Kd.R_mono HO225.out (fun _ hk => hk.2)), z_BK170_e3, fun h0_ => absurd ((hoff 4 B5x14_).symm.trans h0_) (by decide)⟩
          refine steps_cons ?_ ?_
          ·rintro b a w' ⟨v224, m4_, ha, Q_HO_187009, Q_BK169, Q_BK170, Q_BK186, Q_BK210, Q_HB, Q_HO225, Q_BK170_e3, Q_X4_⟩ hb_ hon hoff
           refine ⟨_, rfl, fun K hK => ?_⟩
           have e4 : a.tmps[4]? = some (.pointer (some ⟨gb170, 0, none⟩)) := by rw [ha]; exact (putSel_off rfl).trans rfl
           have e66 : a.tmps[66]? = some (.agg #[.int .i64 t211, .int .i64 t212, .int .i64 t213, .int .i64 t214, .string t215, .int .i64 t216, .int .i64 t217, .bool t218, .string t219, .slice Ao14 t180.length co14, .bool a0_10, .int .i64 t221, .int .i64 t222]) := by rw [ha]; exact putSel_on (e := (0, 66, .agg #[.int .i64 t211, .int .i64 t212, .int .i64 t213, .int .i64 t214, .string t215, .int .i64 t216, .int .i64 t217, .bool t218, .string t219, .slice Ao14 t180.length co14, .bool a0_10, .int .i64 t221, .int .i64 t222])) 0 rfl rfl (hon 0 B5x14_) rfl
           replace ha := Aside0.mk ha
           have HO_187009 := Aside0.mk Q_HO_187009
           have BK169 := Aside0.mk Q_BK169
           have BK170 := Aside0.mk (Q_BK170 hb_)
           have BK186 := Aside0.mk Q_BK186
           have BK210 := Aside0.mk Q_BK210
           have HB := Aside0.mk Q_HB
           have hs96 : w'.cell? ⟨gb170, 0, none⟩ = some (.int .i64 0) := (blk_cell BK170.out 0).trans rfl
           have hfs96 := blk_frozen BK170.out 0
           have hns96_0 := NB169_170.out
           have hns96_2 := NB186_170.out
           have hns96_3 := NB210_170.out
           have hms96_0 := NB170_169.out
           have hms96_2 := NB170_186.out
           have hms96_3 := NB170_210.out
           have hs97 : w'.cell? ⟨gb170, 1, none⟩ = some (.int .i64 0) := (blk_cell BK170.out 1).trans rfl
           have hfs97 := blk_frozen BK170.out 1
           have hns97_0 := NB169_170.out
           have hns97_2 := NB186_170.out
           have hns97_3 := NB210_170.out
           have hms97_0 := NB170_169.out
           have hms97_2 := NB170_186.out
           have hms97_3 := NB170_210.out
           have hs98 : w'.cell? ⟨gb170, 2, none⟩ = some (.int .i64 0) := (blk_cell BK170.out 2).trans rfl
           have hfs98 := blk_frozen BK170.out 2
           have hns98_0 := NB169_170.out
           have hns98_2 := NB186_170.out
           have hns98_3 := NB210_170.out
           have hms98_0 := NB170_169.out
           have hms98_2 := NB170_186.out
           have hms98_3 := NB170_210.out
           have hs99 : w'.cell? ⟨gb170, 3, none⟩ = some (.int .i64 0) := (blk_cell BK170.out 3).trans rfl
           have hfs99 := blk_frozen BK170.out 3
           have hns99_0 := NB169_170.out
           have hns99_2 := NB186_170.out
           have hns99_3 := NB210_170.out
           have hms99_0 := NB170_169.out
           have hms99_2 := NB170_186.out
           have hms99_3 := NB170_210.out
           have hs100 : w'.cell? ⟨gb170, 4, none⟩ = some (.string (⟨#[]⟩ : ByteArray)) := (blk_cell BK170.out 4).trans rfl
           have hfs100 := blk_frozen BK170.out 4
           have hns100_0 := NB169_170.out
           have hns100_2 := NB186_170.out
           have hns100_3 := NB210_170.out
           have hms100_0 := NB170_169.out
           have hms100_2 := NB170_186.out
           have hms100_3 := NB170_210.out
           have hs101 : w'.cell? ⟨gb170, 5, none⟩ = some (.int .i64 0) := (blk_cell BK170.out 5).trans rfl
           have hfs101 := blk_frozen BK170.out 5
           have hns101_0 := NB169_170.out
           have hns101_2 := NB186_170.out
           have hns101_3 := NB210_170.out
           have hms101_0 := NB170_169.out
           have hms101_2 := NB170_186.out
           have hms101_3 := NB170_210.out
           have hs102 : w'.cell? ⟨gb170, 6, none⟩ = some (.int .i64 0) := (blk_cell BK170.out 6).trans rfl
           have hfs102 := blk_frozen BK170.out 6
           have hns102_0 := NB169_170.out
           have hns102_2 := NB186_170.out
           have hns102_3 := NB210_170.out
           have hms102_0 := NB170_169.out
           have hms102_2 := NB170_186.out
           have hms102_3 := NB170_210.out
           have hs103 : w'.cell? ⟨gb170, 7, none⟩ = some (.bool false) := (blk_cell BK170.out 7).trans rfl
           have hfs103 := blk_frozen BK170.out 7
           have hns103_0 := NB169_170.out
           have hns103_2 := NB186_170.out
           have hns103_3 := NB210_170.out
           have hms103_0 := NB170_169.out
           have hms103_2 := NB170_186.out
           have hms103_3 := NB170_210.out
           have hs104 : w'.cell? ⟨gb170, 8, none⟩ = some (.string (⟨#[]⟩ : ByteArray)) := (blk_cell BK170.out 8).trans rfl
           have hfs104 := blk_frozen BK170.out 8
           have hns104_0 := NB169_170.out
           have hns104_2 := NB186_170.out
           have hns104_3 := NB210_170.out
           have hms104_0 := NB170_169.out
           have hms104_2 := NB170_186.out
           have hms104_3 := NB170_210.out
           have hs105 : w'.cell? ⟨gb170, 9, none⟩ = some (.slice none 0 0) := (blk_cell BK170.out 9).trans rfl
           have hfs105 := blk_frozen BK170.out 9
           have hns105_0 := NB169_170.out
           have hns105_2 := NB186_170.out
           have hns105_3 := NB210_170.out
           have hms105_0 := NB170_169.out
           have hms105_2 := NB170_186.out
           have hms105_3 := NB170_210.out
           have hs106 : w'.cell? ⟨gb170, 10, none⟩ = some (.bool false) := (blk_cell BK170.out 10).trans rfl
           have hfs106 := blk_frozen BK170.out 10
           have hns106_0 := NB169_170.out
           have hns106_2 := NB186_170.out
           have hns106_3 := NB210_170.out
           have hms106_0 := NB170_169.out
           have hms106_2 := NB170_186.out
           have hms106_3 := NB170_210.out
           have hs107 : w'.cell? ⟨gb170, 11, none⟩ = some (.int .i64 0) := (blk_cell BK170.out 11).trans rfl
           have hfs107 := blk_frozen BK170.out 11
           have hns107_0 := NB169_170.out
           have hns107_2 := NB186_170.out
           have hns107_3 := NB210_170.out
           have hms107_0 := NB170_169.out
           have hms107_2 := NB170_186.out
           have hms107_3 := NB170_210.out
           have hs108 : w'.cell? ⟨gb170, 12, none⟩ = some (.int .i64 0) := (blk_cell BK170.out 12).trans rfl
           have hfs108 := blk_frozen BK170.out 12
           have hns108_0 := NB169_170.out
           have hns108_2 := NB186_170.out
           have hns108_3 := NB210_170.out
           have hms108_0 := NB170_169.out
           have hms108_2 := NB170_186.out
           have hms108_3 := NB170_210.out
           refine skip_ (w1 := ?_) (by rfl) rfl ?_ ?_
           rotate_left
           ·go_simp
            rfl
           refine hK.out _ _ ⟨v224, m4_, B5x31_, (by (with_reducible repeat (first | apply Kd.R_alloc | apply Kd.R_drewN | apply Kd.R_drew)); exact Kd.R_mono (Kd.R_far (p := ⟨gb170, 12, none⟩) (Kd.R_far (p := ⟨gb170, 11, none⟩) (Kd.R_far (p := ⟨gb170, 10, none⟩) (Kd.R_far (p := ⟨gb170, 9, none⟩) (Kd.R_far (p := ⟨gb170, 8, none⟩) (Kd.R_far (p := ⟨gb170, 7, none⟩) (Kd.R_far (p := ⟨gb170, 6, none⟩) (Kd.R_far (p := ⟨gb170, 5, none⟩) (Kd.R_far (p := ⟨gb170, 4, none⟩) (Kd.R_far (p := ⟨gb170, 3, none⟩) (Kd.R_far (p := ⟨gb170, 2, none⟩) (Kd.R_far (p := ⟨gb170, 1, none⟩) (Kd.R_far (p := ⟨gb170, 0, none⟩) (Kd.R_types HO_187009.out BK170.out (by decide)) (fun _ hk => hk.2) (.int .i64 t211)) (fun _ hk => hk.2) (.int .i64 t212)) (fun _ hk => hk.2) (.int .i64 t213)) (fun _ hk => hk.2) (.int .i64 t214)) (fun _ hk => hk.2) (.string t215)) (fun _ hk => hk.2) (.int .i64 t216)) (fun _ hk => hk.2) (.int .i64 t217)) (fun _ hk => hk.2) (.bool t218)) (fun _ hk => hk.2) (.string t219)) (fun _ hk => hk.2) (.slice Ao14 t180.length co14)) (fun _ hk => hk.2) (.bool a0_10)) (fun _ hk => hk.2) (.int .i64 t221)) (fun _ hk => hk.2) (.int .i64 t222)) (fun _ hk => trivial)), B5x6_, fun h0_ => absurd ((up_self b 3).symm.trans h0_) (by decide), B5x7_, B5x24_, B5x1_, fun h0_ => (by (with_reducible repeat (first | apply Kd.R_alloc | apply Kd.R_drewN | apply Kd.R_drew)); exact Kd.R_mono (Kd.R_far (p := ⟨gb170, 12, none⟩) (Kd.R_far (p := ⟨gb170, 11, none⟩) (Kd.R_far (p := ⟨gb170, 10, none⟩) (Kd.R_far (p := ⟨gb170, 9, none⟩) (Kd.R_far (p := ⟨gb170, 8, none⟩) (Kd.R_far (p := ⟨gb170, 7, none⟩) (Kd.R_far (p := ⟨gb170, 6, none⟩) (Kd.R_far (p := ⟨gb170, 5, none⟩) (Kd.R_far (p := ⟨gb170, 4, none⟩) (Kd.R_far (p := ⟨gb170, 3, none⟩) (Kd.R_far (p := ⟨gb170, 2, none⟩) (Kd.R_far (p := ⟨gb170, 1, none⟩) (Kd.R_far (p := ⟨gb170, 0, none⟩) (Kd.R_types (Q_HO225 h0_) BK170.out (by decide)) (fun _ hk => hk.2) (.int .i64 t211)) (fun _ hk => hk.2) (.int .i64 t212)) (fun _ hk => hk.2) (.int .i64 t213)) (fun _ hk => hk.2) (.int .i64 t214)) (fun _ hk => hk.2) (.string t215)) (fun _ hk => hk.2) (.int .i64 t216)) (fun _ hk => hk.2) (.int .i64 t217)) (fun _ hk => hk.2) (.bool t218)) (fun _ hk => hk.2) (.string t219)) (fun _ hk => hk.2) (.slice Ao14 t180.length co14)) (fun _ hk => hk.2) (.bool a0_10)) (fun _ hk => hk.2) (.int .i64 t221)) (fun _ hk => hk.2) (.int .i64 t222)) (fun _ hk => hk.1)), fun _ => B5x8_, fun h0_ => absurd ((hoff 4 B5x14_).symm.trans h0_) (by decide)⟩
          refine steps_cons ?_ ?_
          ·rintro b a w' ⟨v224, m4_, ha, Q_HO_187009, Q_BK169, Q_BK170, Q_BK186, Q_BK210, Q_HB, Q_HO225, Q_BK170_e3, Q_X4_⟩ hb_ hon hoff
           refine ⟨_, rfl, fun K hK => ?_⟩
           have e68 : a.tmps[68]? = some (v224) := by rw [ha]; exact putSel_on (e := (2, 68, v224)) 2 rfl rfl (hon 2 B5x14_) rfl
           replace ha := Aside0.mk ha
           have HO_187009 := Aside0.mk Q_HO_187009
           have BK169 := Aside0.mk Q_BK169
           have BK186 := Aside0.mk Q_BK186
           have BK210 := Aside0.mk Q_BK210
           have HB := Aside0.mk Q_HB
           have HO225 := Aside0.mk (Q_HO225 (hon 2 B5x14_))
           have BK170 := Aside0.mk (Q_BK170_e3 (hon 3 B5x14_))
           refine value_ (w1 := w') (v := v224) (by rfl) rfl ?_ ?_
           ·go_simp
            (try simp only [i64_w])
            try rfl
           refine hK.out _ _ ⟨v224, (v224), B5x35_, Q_HO_187009, Q_BK169, fun h0_ => absurd ((hon 3 B5x14_).symm.trans h0_) (by decide), Q_BK186, Q_BK210, Q_HB, Q_HO225, Q_BK170_e3, fun _ => rfl⟩
          exact steps_nil
         rintro b a w111 hall ⟨v224, m4_, ha, Q_HO_187009, Q_BK169, Q_BK170, Q_BK186, Q_BK210, Q_HB, Q_HO225, Q_BK170_e3, Q_X4_⟩
         clear BK169 BK170 BK186 BK210 HB HO_187009
         have hb0_ := hall 0 B5x14_
         have hb1_ := hall 1 B5x14_
         have hb2_ := hall 2 B5x14_
         have hb3_ := hall 3 B5x14_
         have hb4_ := hall 4 B5x14_
         subst ha
         obtain rfl := Q_X4_ hb4_
         simp only [putSel, hb0_, hb1_, hb2_, hb3_, hb4_, if_true, Act.put, List.setIfInBounds_toArray, List.set_cons_zero, List.set_cons_succ]
         have HO_187009 := Aside0.mk Q_HO_187009
         clear Q_HO_187009
         have BK169 := Aside0.mk Q_BK169
         clear Q_BK169
         clear Q_BK170
         have BK186 := Aside0.mk Q_BK186
         clear Q_BK186
         have BK210 := Aside0.mk Q_BK210
         clear Q_BK210
         have HB := Aside0.mk Q_HB
         clear Q_HB
         have HO225 := Aside0.mk (Q_HO225 hb2_)
         clear Q_HO225
         have BK170 := Aside0.mk (Q_BK170_e3 hb3_)
         clear Q_BK170_e3
         clear hall hb0_ hb1_ hb2_ hb3_ hb4_
         try go_wp2
         refine bodyPost_ret (results_ct rfl _ _ gb170 39 #[.int .i64 t211, .int .i64 t212, .int .i64 t213, .int .i64 t214, .string t215, .int .i64 t216, .int .i64 t217, .bool t218, .string t219, .slice Ao14 t180.length co14, .bool a0_10, .int .i64 t221, .int .i64 t222] (0, 0) _ rfl B5x4_ Try.underlying39 rfl B5x14_) rfl ?_
         exact ⟨_, _, by first | rfl | (simp [errW_none, errW_some] <;> rfl) | (simp [*, errW_none, errW_some] <;> rfl), by (with_reducible repeat (first | apply Kd.R_alloc | apply Kd.R_drewN | apply Kd.R_drew)); exact HO_187009.out, by (with_reducible repeat (first | apply Kd.R_alloc | apply Kd.R_drewN | apply Kd.R_drew)); exact Kd.R_mono HO225.out (fun _ hk => trivial), by repeat (first | (with_reducible first | exact HB.out | apply below_alloc | apply pw_below_drewN | apply below_drew1 | refine below_set ?_ GE169.out | refine below_set ?_ GE170.out | refine below_set ?_ GE186.out | refine below_set ?_ GE210.out) | exact HB.out)⟩
        ·rw [if_neg c78] at H
         have c78b0 := beq_eq_false_iff_ne.mpr c78
         have c78b1 := bne_iff_ne.mpr c78
         replace H := bsi H
         obtain ⟨⟨t226, t227, t228, t229, t230, t231, t232, t233, t234, t235, t236, t237⟩, A112, H⟩ := H
         (try dsimp only at H)
         obtain ⟨y238, hy238⟩ : ∃ y_ : List (S28), y_ = (([(⟨a0_1, 0, 1, (⟨#[]⟩ : ByteArray)⟩ : S28)] : List (S28))) := ⟨_, rfl⟩
         replace H : (some (t226, t227, t228, t229, t230, t231, t232, t233, t234, t180, a0_10, t236, t237, y238)) = some (r1, r2, r3, r4, r5, r6, r7, r8, r9, r10, r11, r12, r13, r14) := by first | (rw [hy238]; with_reducible exact H) | (have H2_ := (Option.bind_some _ _).symm.trans H; rw [hy238]; with_reducible exact H2_) | (have H2_ := (Option.bind_some _ _).symm.trans H; with_reducible exact H2_) | with_reducible exact H | (rw [hy238]; exact H) | exact H
         have Ny238 := Aside0.mk hy238
         clear hy238
         simp only [Option.some.injEq, Prod.mk.injEq] at H
         obtain ⟨rfl, rfl, rfl, rfl, rfl, rfl, rfl, rfl, rfl, rfl, rfl, rfl, rfl, rfl⟩ := H
         have hnb113 := NB169_170.out
         have hnc113 := NB170_169.out
         have hnb114 := NB169_186.out
         have hnc114 := NB186_169.out
         obtain ⟨hcz115_0, hcz115_1, hcz115_2, hcz115_3, hcz115_4, hcz115_5, hcz115_6, hcz115_7, hcz115_8, hcz115_9, hcz115_10, hcz115_11, hcz115_12⟩ := cl13 BK169.out
         obtain ⟨hfz115_0, hfz115_1, hfz115_2, hfz115_3, hfz115_4, hfz115_5, hfz115_6, hfz115_7, hfz115_8, hfz115_9, hfz115_10, hfz115_11, hfz115_12⟩ := fr13 BK169.out
         try go_wp2_with (first | ((with_reducible refine gate_dst (N := 8) rfl ?_); refine box_event ?hg (N := 8) ?hd (cs := #[.int .i64 0, .int .i64 0, .int .i64 0, .string (⟨#[]⟩ : ByteArray)]) (t := 28) ?hr ?_; (case hd => rfl); (case hg => rfl); (case hr => exact B5x15_); intro gb210 hg w116 hbox hb; replace HO_187009 := Aside0.mk (Kd.R_below B5x2_ hb); have BK210 := Aside0.mk (hbox); have GW210 := Aside0.mk ((bs hg (below_size HB.out))); have GE210 := Aside0.mk ((bs hg (below_size HB.out))); replace HB := Aside0.mk (below_step B5x0_ hb); have NB169_210 := Aside0.mk ((nl hg (blk_lt BK169.out))); have NB210_169 := Aside0.mk ((ng hg (blk_lt BK169.out))); replace BK169 := Aside0.mk (bb BK169.out hb); have NB170_210 := Aside0.mk ((nl hg (blk_lt BK170.out))); have NB210_170 := Aside0.mk ((ng hg (blk_lt BK170.out))); replace BK170 := Aside0.mk (bb BK170.out hb); have NB186_210 := Aside0.mk ((nl hg (blk_lt BK186.out))); have NB210_186 := Aside0.mk ((ng hg (blk_lt BK186.out))); replace BK186 := Aside0.mk (bb BK186.out hb); clear hb hbox hg; have hnb117 := NB210_169.out; have hnc117 := NB169_210.out; have hnb118 := NB210_170.out; have hnc118 := NB170_210.out; have hnb119 := NB210_186.out; have hnc119 := NB186_210.out; obtain ⟨hcz120_0, hcz120_1, hcz120_2, hcz120_3⟩ := cl4 BK210.out; obtain ⟨hfz120_0, hfz120_1, hfz120_2, hfz120_3⟩ := fr4 BK210.out; obtain ⟨hcz121_0, hcz121_1, hcz121_2, hcz121_3, hcz121_4, hcz121_5, hcz121_6, hcz121_7, hcz121_8, hcz121_9, hcz121_10, hcz121_11, hcz121_12⟩ := cl13 BK169.out; obtain ⟨hfz121_0, hfz121_1, hfz121_2, hfz121_3, hfz121_4, hfz121_5, hfz121_6, hfz121_7, hfz121_8, hfz121_9, hfz121_10, hfz121_11, hfz121_12⟩ := fr13 BK169.out) | ((with_reducible refine gate_callee (f := 71) rfl ?_); refine goesL_ (some 63) rfl rfl Try.func71 B5x14_ rfl #[.pointer (some ⟨gb186, 0, none⟩), .int .i64 a1] rfl B5x10_ ?_; (with_reducible refine (spec_l13Again.calls kj45 gb186 t171 t172 t173 t174 t175 t176 t177 t178 t179 t180 (.slice Ao14 t180.length co14) t183 t184 t185 a1 t226 t227 t228 t229 t230 t231 t232 t233 t234 t235 t236 t237 w _ ?side1 ?side2 A112.out).mono ?_); (case side1 => exact ⟨B5x13_, GE186.out⟩); (case side2 => exact B5x1_); rintro e w122 ⟨rfl, hi, hb, hk⟩; refine ⟨_, rfl, ?_⟩; replace HO_187009 := Aside0.mk (Kd.R_mono (Kd.R_keep (Kd.R_types (by (with_reducible repeat (first | apply Kd.R_alloc | apply Kd.R_drewN | apply Kd.R_drew)); exact (Kd.R_mono (Kd.R_far (p := ⟨gb210, 3, none⟩) (Kd.R_far (p := ⟨gb210, 2, none⟩) (Kd.R_far (p := ⟨gb210, 1, none⟩) (Kd.R_far (p := ⟨gb210, 0, none⟩) (Kd.R_types HO_187009.out BK210.out (by decide)) (fun _ hk => hk.2) (.int .i64 a0_1)) (fun _ hk => hk.2) (.int .i64 0)) (fun _ hk => hk.2) (.int .i64 1)) (fun _ hk => hk.2) (.string (⟨#[]⟩ : ByteArray))) (fun _ h_ => h_.1))) B5x13_ (by decide)) hk (fun _ h => h.2)) (fun _ h => h.1)); replace BK169 := Aside0.mk (KeepBut.blk hk (g' := gb169) (o := .cells #[.int .i64 a0_0, .int .i64 a0_1, .int .i64 a0_2, .int .i64 a0_3, .string a0_4, .int .i64 a0_5, .int .i64 a0_6, .bool a0_7, .string a0_8, .slice A0_9 l0_9.length c0_9, .bool a0_10, .int .i64 a0_11, .int .i64 a0_12] 39 (0, 0)) B5x22_ NB169_186.out (by simp)); replace BK170 := Aside0.mk (KeepBut.blk hk (g' := gb170) (o := .cells #[.int .i64 0, .int .i64 0, .int .i64 0, .int .i64 0, .string (⟨#[]⟩ : ByteArray), .int .i64 0, .int .i64 0, .bool false, .string (⟨#[]⟩ : ByteArray), .slice none 0 0, .bool false, .int .i64 0, .int .i64 0] 39 (0, 0)) B5x23_ NB170_186.out (by simp)); replace BK210 := Aside0.mk (KeepBut.blk hk (g' := gb210) (o := .cells #[.int .i64 a0_1, .int .i64 0, .int .i64 1, .string (⟨#[]⟩ : ByteArray)] 28 (0, 0)) B5x26_ NB210_186.out (by simp)); replace HB := Aside0.mk (hb); replace BK186 := Aside0.mk (hi.1); (try clear hb hk hi); have hnb123 := NB186_170.out; have hnc123 := NB170_186.out; obtain ⟨hcz124_0, hcz124_1, hcz124_2, hcz124_3, hcz124_4, hcz124_5, hcz124_6, hcz124_7, hcz124_8, hcz124_9, hcz124_10, hcz124_11, hcz124_12⟩ := cl13 BK186.out; obtain ⟨hfz124_0, hfz124_1, hfz124_2, hfz124_3, hfz124_4, hfz124_5, hfz124_6, hfz124_7, hfz124_8, hfz124_9, hfz124_10, hfz124_11, hfz124_12⟩ := fr13 BK186.out))
         have n0_ : Aside0 (Kd.R k143 143 (w122.setCell ⟨gb186, 10, none⟩ (.bool a0_10)) w.heap.size (fun _ => True) (.slice Ao14 t180.length co14) t180) := ⟨B5x27_⟩
         have n1_ : Aside0 ((w122.setCell ⟨gb186, 10, none⟩ (.bool a0_10)).heap[gb169]? = some (.cells #[.int .i64 a0_0, .int .i64 a0_1, .int .i64 a0_2, .int .i64 a0_3, .string a0_4, .int .i64 a0_5, .int .i64 a0_6, .bool a0_7, .string a0_8, .slice A0_9 l0_9.length c0_9, .bool a0_10, .int .i64 a0_11, .int .i64 a0_12] 39 (0, 0))) := ⟨B5x11_⟩
         have n2_ : Aside0 ((w122.setCell ⟨gb186, 10, none⟩ (.bool a0_10)).heap[gb170]? = some (.cells #[.int .i64 0, .int .i64 0, .int .i64 0, .int .i64 0, .string (⟨#[]⟩ : ByteArray), .int .i64 0, .int .i64 0, .bool false, .string (⟨#[]⟩ : ByteArray), .slice none 0 0, .bool false, .int .i64 0, .int .i64 0] 39 (0, 0))) := ⟨B5x12_⟩
         have n3_ : Aside0 ((w122.setCell ⟨gb186, 10, none⟩ (.bool a0_10)).heap[gb186]? = some (.cells #[.int .i64 t226, .int .i64 t227, .int .i64 t228, .int .i64 t229, .string t230, .int .i64 t231, .int .i64 t232, .bool t233, .string t234, .slice Ao14 t180.length co14, .bool a0_10, .int .i64 t236, .int .i64 t237] 39 (0, 0))) := ⟨B5x16_⟩
         have n4_ : Aside0 ((w122.setCell ⟨gb186, 10, none⟩ (.bool a0_10)).heap[gb210]? = some (.cells #[.int .i64 a0_1, .int .i64 0, .int .i64 1, .string (⟨#[]⟩ : ByteArray)] 28 (0, 0))) := ⟨B5x25_⟩
         have n5_ : Aside0 (Below w.heap.size w (w122.setCell ⟨gb186, 10, none⟩ (.bool a0_10))) := ⟨B5x1_⟩
         (try clear HO_187009)
         (try clear BK169)
         (try clear BK170)
         (try clear BK186)
         (try clear BK210)
         (try clear HB)
         generalize (w122.setCell ⟨gb186, 10, none⟩ (.bool a0_10)) = w125 at n0_ n1_ n2_ n3_ n4_ n5_ ⊢
         have HO_187009 := n0_
         have BK169 := n1_
         have BK170 := n2_
         have BK186 := n3_
         have BK210 := n4_
         have HB := n5_
         clear n0_ n1_ n2_ n3_ n4_ n5_
         replace HO_187009 := Aside0.mk (Kd.R_drew HO_187009.out)
         replace BK169 := Aside0.mk (blk_drew BK169.out)
         replace BK170 := Aside0.mk (blk_drew BK170.out)
         replace BK186 := Aside0.mk (blk_drew BK186.out)
         replace BK210 := Aside0.mk (blk_drew BK210.out)
         replace HB := Aside0.mk (below_drew1 HB.out)
         refine start_ (n := 5) (S := fun w' => True) (ds := []) #[false, false, false, false, false] B5x14_ rfl rfl trivial (fun hHeld => ?_); refine with_tabW spec_Push.tab16 spec_Push.bits16 (fun HT_ HW_ => ?_)
         generalize w125.drew = w126 at HO_187009 BK169 BK170 BK186 BK210 HB hHeld ⊢
         refine inv_at [0, 1, 2, 3, 4] (fun a0_ b a w' => ∃ (v239 : Value) (m4_ : Value), a = putSel a0_ b [(0, 66, .agg #[.int .i64 t226, .int .i64 t227, .int .i64 t228, .int .i64 t229, .string t230, .int .i64 t231, .int .i64 t232, .bool t233, .string t234, .slice Ao14 t180.length co14, .bool a0_10, .int .i64 t236, .int .i64 t237]), (1, 67, .agg #[.int .i64 a0_1, .int .i64 0, .int .i64 1, .string (⟨#[]⟩ : ByteArray)]), (2, 68, v239), (4, 5, m4_)] ∧ (Kd.R k143 143 w' w.heap.size (fun _ => True) (.slice Ao14 t180.length co14) t180) ∧ (w'.heap[gb169]? = some (.cells #[.int .i64 a0_0, .int .i64 a0_1, .int .i64 a0_2, .int .i64 a0_3, .string a0_4, .int .i64 a0_5, .int .i64 a0_6, .bool a0_7, .string a0_8, .slice A0_9 l0_9.length c0_9, .bool a0_10, .int .i64 a0_11, .int .i64 a0_12] 39 (0, 0))) ∧ (b 3 = false → w'.heap[gb170]? = some (.cells #[.int .i64 0, .int .i64 0, .int .i64 0, .int .i64 0, .string (⟨#[]⟩ : ByteArray), .int .i64 0, .int .i64 0, .bool false, .string (⟨#[]⟩ : ByteArray), .slice none 0 0, .bool false, .int .i64 0, .int .i64 0] 39 (0, 0))) ∧ (w'.heap[gb186]? = some (.cells #[.int .i64 t226, .int .i64 t227, .int .i64 t228, .int .i64 t229, .string t230, .int .i64 t231, .int .i64 t232, .bool t233, .string t234, .slice Ao14 t180.length co14, .bool a0_10, .int .i64 t236, .int .i64 t237] 39 (0, 0))) ∧ (w'.heap[gb210]? = some (.cells #[.int .i64 a0_1, .int .i64 0, .int .i64 1, .string (⟨#[]⟩ : ByteArray)] 28 (0, 0))) ∧ (Below w.heap.size w w') ∧ (b 2 = true → Kd.R k28 28 w' w.heap.size (fun k_ => k_ ≠ gb210) v239 y238) ∧ (b 3 = true → w'.heap[gb170]? = some (.cells #[.int .i64 t226, .int .i64 t227, .int .i64 t228, .int .i64 t229, .string t230, .int .i64 t231, .int .i64 t232, .bool t233, .string t234, .slice Ao14 t180.length co14, .bool a0_10, .int .i64 t236, .int .i64 t237] 39 (0, 0))) ∧ (b 4 = true → (m4_ : Value) = v239)) HT_.out HW_.out B5x14_ B5x14_ ?_ ?_ ?_
         ·exact ⟨.bool false, .bool false, by simp only [putSel, Bool.false_eq_true, if_false], HO_187009.out, BK169.out, fun _ => BK170.out, BK186.out, BK210.out, HB.out, fun h_ => absurd h_ (by decide), fun h_ => absurd h_ (by decide), fun h_ => absurd h_ (by decide)⟩
         ·skip
          clear BK169 BK170 BK186 BK210 HB HO_187009
          refine steps_cons ?_ ?_
          ·rintro b a w' ⟨v239, m4_, ha, Q_HO_187009, Q_BK169, Q_BK170, Q_BK186, Q_BK210, Q_HB, Q_HO240, Q_BK170_e3, Q_X4_⟩ hb_ hon hoff
           refine ⟨_, rfl, fun K hK => ?_⟩
           have e6 : a.tmps[6]? = some (.pointer (some ⟨gb186, 0, none⟩)) := by rw [ha]; exact (putSel_off rfl).trans rfl
           replace ha := Aside0.mk ha
           have HO_187009 := Aside0.mk Q_HO_187009
           have BK169 := Aside0.mk Q_BK169
           have BK170 := Aside0.mk (Q_BK170 (hoff 3 B5x14_))
           have BK186 := Aside0.mk Q_BK186
           have BK210 := Aside0.mk Q_BK210
           have HB := Aside0.mk Q_HB
           have hc0_ : w'.cell? ⟨gb186, 0, none⟩ = some (.int .i64 t226) := (blk_cell BK186.out 0).trans rfl
           have hc1_ : w'.cell? ⟨gb186, 1, none⟩ = some (.int .i64 t227) := (blk_cell BK186.out 1).trans rfl
           have hc2_ : w'.cell? ⟨gb186, 2, none⟩ = some (.int .i64 t228) := (blk_cell BK186.out 2).trans rfl
           have hc3_ : w'.cell? ⟨gb186, 3, none⟩ = some (.int .i64 t229) := (blk_cell BK186.out 3).trans rfl
           have hc4_ : w'.cell? ⟨gb186, 4, none⟩ = some (.string t230) := (blk_cell BK186.out 4).trans rfl
           have hc5_ : w'.cell? ⟨gb186, 5, none⟩ = some (.int .i64 t231) := (blk_cell BK186.out 5).trans rfl
           have hc6_ : w'.cell? ⟨gb186, 6, none⟩ = some (.int .i64 t232) := (blk_cell BK186.out 6).trans rfl
           have hc7_ : w'.cell? ⟨gb186, 7, none⟩ = some (.bool t233) := (blk_cell BK186.out 7).trans rfl
           have hc8_ : w'.cell? ⟨gb186, 8, none⟩ = some (.string t234) := (blk_cell BK186.out 8).trans rfl
           have hc9_ : w'.cell? ⟨gb186, 9, none⟩ = some (.slice Ao14 t180.length co14) := (blk_cell BK186.out 9).trans rfl
           have hc10_ : w'.cell? ⟨gb186, 10, none⟩ = some (.bool a0_10) := (blk_cell BK186.out 10).trans rfl
           have hc11_ : w'.cell? ⟨gb186, 11, none⟩ = some (.int .i64 t236) := (blk_cell BK186.out 11).trans rfl
           have hc12_ : w'.cell? ⟨gb186, 12, none⟩ = some (.int .i64 t237) := (blk_cell BK186.out 12).trans rfl
           refine value_ (w1 := w') (v := .agg #[.int .i64 t226, .int .i64 t227, .int .i64 t228, .int .i64 t229, .string t230, .int .i64 t231, .int .i64 t232, .bool t233, .string t234, .slice Ao14 t180.length co14, .bool a0_10, .int .i64 t236, .int .i64 t237]) (by rfl) rfl ?_ ?_
           ·go_simp
            (try simp only [i64_w])
            try rfl
           refine hK.out _ _ ⟨v239, m4_, B5x32_, Q_HO_187009, Q_BK169, Q_BK170, Q_BK186, Q_BK210, Q_HB, Q_HO240, fun h0_ => absurd ((hoff 3 B5x14_).symm.trans h0_) (by decide), fun h0_ => absurd ((hoff 4 B5x14_).symm.trans h0_) (by decide)⟩
          refine steps_cons ?_ ?_
          ·rintro b a w' ⟨v239, m4_, ha, Q_HO_187009, Q_BK169, Q_BK170, Q_BK186, Q_BK210, Q_HB, Q_HO240, Q_BK170_e3, Q_X4_⟩ hb_ hon hoff
           refine ⟨_, rfl, fun K hK => ?_⟩
           have e8 : a.tmps[8]? = some (.pointer (some ⟨gb210, 0, none⟩)) := by rw [ha]; exact (putSel_off rfl).trans rfl
           replace ha := Aside0.mk ha
           have HO_187009 := Aside0.mk Q_HO_187009
           have BK169 := Aside0.mk Q_BK169
           have BK186 := Aside0.mk Q_BK186
           have BK210 := Aside0.mk Q_BK210
           have HB := Aside0.mk Q_HB
           have hc0_ : w'.cell? ⟨gb210, 0, none⟩ = some (.int .i64 a0_1) := (blk_cell BK210.out 0).trans rfl
           have hc1_ : w'.cell? ⟨gb210, 1, none⟩ = some (.int .i64 0) := (blk_cell BK210.out 1).trans rfl
           have hc2_ : w'.cell? ⟨gb210, 2, none⟩ = some (.int .i64 1) := (blk_cell BK210.out 2).trans rfl
           have hc3_ : w'.cell? ⟨gb210, 3, none⟩ = some (.string (⟨#[]⟩ : ByteArray)) := (blk_cell BK210.out 3).trans rfl
           refine value_ (w1 := w') (v := .agg #[.int .i64 a0_1, .int .i64 0, .int .i64 1, .string (⟨#[]⟩ : ByteArray)]) (by rfl) rfl ?_ ?_
           ·go_simp
            (try simp only [i64_w])
            try rfl
           refine hK.out _ _ ⟨v239, m4_, B5x33_, Q_HO_187009, Q_BK169, Q_BK170, Q_BK186, Q_BK210, Q_HB, fun h0_ => absurd ((hoff 2 B5x14_).symm.trans h0_) (by decide), Q_BK170_e3, fun h0_ => absurd ((hoff 4 B5x14_).symm.trans h0_) (by decide)⟩
          refine steps_cons ?_ ?_
          ·rintro b a w' ⟨v239, m4_, ha, Q_HO_187009, Q_BK169, Q_BK170, Q_BK186, Q_BK210, Q_HB, Q_HO240, Q_BK170_e3, Q_X4_⟩ hb_ hon hoff
           refine ⟨_, rfl, fun K hK => ?_⟩
           have e67 : a.tmps[67]? = some (.agg #[.int .i64 a0_1, .int .i64 0, .int .i64 1, .string (⟨#[]⟩ : ByteArray)]) := by rw [ha]; exact putSel_on (e := (1, 67, .agg #[.int .i64 a0_1, .int .i64 0, .int .i64 1, .string (⟨#[]⟩ : ByteArray)])) 1 rfl rfl (hon 1 B5x14_) rfl
           replace ha := Aside0.mk ha
           have HO_187009 := Aside0.mk Q_HO_187009
           have BK169 := Aside0.mk Q_BK169
           have BK186 := Aside0.mk Q_BK186
           have BK210 := Aside0.mk Q_BK210
           have HB := Aside0.mk Q_HB
           refine Kd.R_lit_step k28 _ 28 ?hg (N := 68) ?hd (xs := ([(⟨a0_1, 0, 1, (⟨#[]⟩ : ByteArray)⟩ : S28)] : List (S28))) (inner := [.int .i64 a0_1, .int .i64 0, .int .i64 1, .string (⟨#[]⟩ : ByteArray)]) (ok := fun _ => True) (okp := fun _ => True) ?hr ?hp (fun _ hk => hk) trivial (Below.refl _ _) (Nat.le_refl _) (by simp) ?_; (case hd => rfl); (case hg => rfl); (case hr => exact B5x15_); (case hp => exact (Reps.c4 (show Kd.M k28 _ _ _ (⟨a0_1, 0, 1, (⟨#[]⟩ : ByteArray)⟩ : S28) [.int .i64 a0_1, .int .i64 0, .int .i64 1, .string (⟨#[]⟩ : ByteArray)] from (k28_mkM _ _ _ (⟨a0_1, 0, 1, (⟨#[]⟩ : ByteArray)⟩ : S28) )) (Reps.none _ _)))
           intro v239 w127 ho128 hb hg_ hnew_
           clear hg_ hnew_
           (first | rw [← Ny238.out] at ho128 | (simp only [Int.reduceToNat] at ho128; rw [← Ny238.out] at ho128))
           have n0_ := Aside0.mk (Kd.R_below B5x2_ hb)
           have n1_ := Aside0.mk (Kd.R_lower (Kd.R_newB ho128 (g := gb210) (o := .cells #[.int .i64 a0_1, .int .i64 0, .int .i64 1, .string (⟨#[]⟩ : ByteArray)] 28 (0, 0)) B5x20_) (below_size B5x1_))
           have n2_ := Aside0.mk (bb BK169.out hb)
           have n4_ := Aside0.mk (bb BK186.out hb)
           have n5_ := Aside0.mk (bb BK210.out hb)
           have n6_ := Aside0.mk (below_step B5x1_ hb)
           have z_BK170 := fun (h0_ : b 3 = false) => (show w127.heap[gb170]? = some (.cells #[.int .i64 0, .int .i64 0, .int .i64 0, .int .i64 0, .string (⟨#[]⟩ : ByteArray), .int .i64 0, .int .i64 0, .bool false, .string (⟨#[]⟩ : ByteArray), .slice none 0 0, .bool false, .int .i64 0, .int .i64 0] 39 (0, 0)) from B5x18_)
           have z_BK170_e3 := fun (h0_ : b 3 = true) => (show w127.heap[gb170]? = some (.cells #[.int .i64 t226, .int .i64 t227, .int .i64 t228, .int .i64 t229, .string t230, .int .i64 t231, .int .i64 t232, .bool t233, .string t234, .slice Ao14 t180.length co14, .bool a0_10, .int .i64 t236, .int .i64 t237] 39 (0, 0)) from (by first | exact (blk_below (g := gb170) (o := .cells #[.int .i64 t226, .int .i64 t227, .int .i64 t228, .int .i64 t229, .string t230, .int .i64 t231, .int .i64 t232, .bool t233, .string t234, .slice Ao14 t180.length co14, .bool a0_10, .int .i64 t236, .int .i64 t237] 39 (0, 0)) B5x29_ hb)))
           clear HO_187009
           clear BK169
           clear BK186
           clear BK210
           clear HB
           have HO_187009 := n0_
           have HO240 := n1_
           have BK169 := n2_
           have BK186 := n4_
           have BK210 := n5_
           have HB := n6_
           clear n0_ n1_ n2_ n4_ n5_ n6_
           clear hb ho128
           refine hK.out _ _ ⟨v239, m4_, B5x34_, B5x2_, B5x9_, z_BK170, B5x3_, B5x20_, B5x1_, fun _ => (by (with_reducible repeat (first | apply Kd.R_alloc | apply Kd.R_drewN | apply Kd.R_drew)); exact Kd.R_mono HO240.out (fun _ hk => hk.2)), z_BK170_e3, fun h0_ => absurd ((hoff 4 B5x14_).symm.trans h0_) (by decide)⟩
          refine steps_cons ?_ ?_
          ·rintro b a w' ⟨v239, m4_, ha, Q_HO_187009, Q_BK169, Q_BK170, Q_BK186, Q_BK210, Q_HB, Q_HO240, Q_BK170_e3, Q_X4_⟩ hb_ hon hoff
           refine ⟨_, rfl, fun K hK => ?_⟩
           have e4 : a.tmps[4]? = some (.pointer (some ⟨gb170, 0, none⟩)) := by rw [ha]; exact (putSel_off rfl).trans rfl
           have e66 : a.tmps[66]? = some (.agg #[.int .i64 t226, .int .i64 t227, .int .i64 t228, .int .i64 t229, .string t230, .int .i64 t231, .int .i64 t232, .bool t233, .string t234, .slice Ao14 t180.length co14, .bool a0_10, .int .i64 t236, .int .i64 t237]) := by rw [ha]; exact putSel_on (e := (0, 66, .agg #[.int .i64 t226, .int .i64 t227, .int .i64 t228, .int .i64 t229, .string t230, .int .i64 t231, .int .i64 t232, .bool t233, .string t234, .slice Ao14 t180.length co14, .bool a0_10, .int .i64 t236, .int .i64 t237])) 0 rfl rfl (hon 0 B5x14_) rfl
           replace ha := Aside0.mk ha
           have HO_187009 := Aside0.mk Q_HO_187009
           have BK169 := Aside0.mk Q_BK169
           have BK170 := Aside0.mk (Q_BK170 hb_)
           have BK186 := Aside0.mk Q_BK186
           have BK210 := Aside0.mk Q_BK210
           have HB := Aside0.mk Q_HB
           have hs127 : w'.cell? ⟨gb170, 0, none⟩ = some (.int .i64 0) := (blk_cell BK170.out 0).trans rfl
           have hfs127 := blk_frozen BK170.out 0
           have hns127_0 := NB169_170.out
           have hns127_2 := NB186_170.out
           have hns127_3 := NB210_170.out
           have hms127_0 := NB170_169.out
           have hms127_2 := NB170_186.out
           have hms127_3 := NB170_210.out
           have hs128 : w'.cell? ⟨gb170, 1, none⟩ = some (.int .i64 0) := (blk_cell BK170.out 1).trans rfl
           have hfs128 := blk_frozen BK170.out 1
           have hns128_0 := NB169_170.out
           have hns128_2 := NB186_170.out
           have hns128_3 := NB210_170.out
           have hms128_0 := NB170_169.out
           have hms128_2 := NB170_186.out
           have hms128_3 := NB170_210.out
           have hs129 : w'.cell? ⟨gb170, 2, none⟩ = some (.int .i64 0) := (blk_cell BK170.out 2).trans rfl
           have hfs129 := blk_frozen BK170.out 2
           have hns129_0 := NB169_170.out
           have hns129_2 := NB186_170.out
           have hns129_3 := NB210_170.out
           have hms129_0 := NB170_169.out
           have hms129_2 := NB170_186.out
           have hms129_3 := NB170_210.out
           have hs130 : w'.cell? ⟨gb170, 3, none⟩ = some (.int .i64 0) := (blk_cell BK170.out 3).trans rfl
           have hfs130 := blk_frozen BK170.out 3
           have hns130_0 := NB169_170.out
           have hns130_2 := NB186_170.out
           have hns130_3 := NB210_170.out
           have hms130_0 := NB170_169.out
           have hms130_2 := NB170_186.out
           have hms130_3 := NB170_210.out
           have hs131 : w'.cell? ⟨gb170, 4, none⟩ = some (.string (⟨#[]⟩ : ByteArray)) := (blk_cell BK170.out 4).trans rfl
           have hfs131 := blk_frozen BK170.out 4
           have hns131_0 := NB169_170.out
           have hns131_2 := NB186_170.out
           have hns131_3 := NB210_170.out
           have hms131_0 := NB170_169.out
           have hms131_2 := NB170_186.out
           have hms131_3 := NB170_210.out
           have hs132 : w'.cell? ⟨gb170, 5, none⟩ = some (.int .i64 0) := (blk_cell BK170.out 5).trans rfl
           have hfs132 := blk_frozen BK170.out 5
           have hns132_0 := NB169_170.out
           have hns132_2 := NB186_170.out
           have hns132_3 := NB210_170.out
           have hms132_0 := NB170_169.out
           have hms132_2 := NB170_186.out
           have hms132_3 := NB170_210.out
           have hs133 : w'.cell? ⟨gb170, 6, none⟩ = some (.int .i64 0) := (blk_cell BK170.out 6).trans rfl
           have hfs133 := blk_frozen BK170.out 6
           have hns133_0 := NB169_170.out
           have hns133_2 := NB186_170.out
           have hns133_3 := NB210_170.out
           have hms133_0 := NB170_169.out
           have hms133_2 := NB170_186.out
           have hms133_3 := NB170_210.out
           have hs134 : w'.cell? ⟨gb170, 7, none⟩ = some (.bool false) := (blk_cell BK170.out 7).trans rfl
           have hfs134 := blk_frozen BK170.out 7
           have hns134_0 := NB169_170.out
           have hns134_2 := NB186_170.out
           have hns134_3 := NB210_170.out
           have hms134_0 := NB170_169.out
           have hms134_2 := NB170_186.out
           have hms134_3 := NB170_210.out
           have hs135 : w'.cell? ⟨gb170, 8, none⟩ = some (.string (⟨#[]⟩ : ByteArray)) := (blk_cell BK170.out 8).trans rfl
           have hfs135 := blk_frozen BK170.out 8
           have hns135_0 := NB169_170.out
           have hns135_2 := NB186_170.out
           have hns135_3 := NB210_170.out
           have hms135_0 := NB170_169.out
           have hms135_2 := NB170_186.out
           have hms135_3 := NB170_210.out
           have hs136 : w'.cell? ⟨gb170, 9, none⟩ = some (.slice none 0 0) := (blk_cell BK170.out 9).trans rfl
           have hfs136 := blk_frozen BK170.out 9
           have hns136_0 := NB169_170.out
           have hns136_2 := NB186_170.out
           have hns136_3 := NB210_170.out
           have hms136_0 := NB170_169.out
           have hms136_2 := NB170_186.out
           have hms136_3 := NB170_210.out
           have hs137 : w'.cell? ⟨gb170, 10, none⟩ = some (.bool false) := (blk_cell BK170.out 10).trans rfl
           have hfs137 := blk_frozen BK170.out 10
           have hns137_0 := NB169_170.out
           have hns137_2 := NB186_170.out
           have hns137_3 := NB210_170.out
           have hms137_0 := NB170_169.out
           have hms137_2 := NB170_186.out
           have hms137_3 := NB170_210.out
           have hs138 : w'.cell? ⟨gb170, 11, none⟩ = some (.int .i64 0) := (blk_cell BK170.out 11).trans rfl
           have hfs138 := blk_frozen BK170.out 11
           have hns138_0 := NB169_170.out
           have hns138_2 := NB186_170.out
           have hns138_3 := NB210_170.out
           have hms138_0 := NB170_169.out
           have hms138_2 := NB170_186.out
           have hms138_3 := NB170_210.out
           have hs139 : w'.cell? ⟨gb170, 12, none⟩ = some (.int .i64 0) := (blk_cell BK170.out 12).trans rfl
           have hfs139 := blk_frozen BK170.out 12
           have hns139_0 := NB169_170.out
           have hns139_2 := NB186_170.out
           have hns139_3 := NB210_170.out
           have hms139_0 := NB170_169.out
           have hms139_2 := NB170_186.out
           have hms139_3 := NB170_210.out
           refine skip_ (w1 := ?_) (by rfl) rfl ?_ ?_
           rotate_left
           ·go_simp
            rfl
           refine hK.out _ _ ⟨v239, m4_, B5x31_, (by (with_reducible repeat (first | apply Kd.R_alloc | apply Kd.R_drewN | apply Kd.R_drew)); exact Kd.R_mono (Kd.R_far (p := ⟨gb170, 12, none⟩) (Kd.R_far (p := ⟨gb170, 11, none⟩) (Kd.R_far (p := ⟨gb170, 10, none⟩) (Kd.R_far (p := ⟨gb170, 9, none⟩) (Kd.R_far (p := ⟨gb170, 8, none⟩) (Kd.R_far (p := ⟨gb170, 7, none⟩) (Kd.R_far (p := ⟨gb170, 6, none⟩) (Kd.R_far (p := ⟨gb170, 5, none⟩) (Kd.R_far (p := ⟨gb170, 4, none⟩) (Kd.R_far (p := ⟨gb170, 3, none⟩) (Kd.R_far (p := ⟨gb170, 2, none⟩) (Kd.R_far (p := ⟨gb170, 1, none⟩) (Kd.R_far (p := ⟨gb170, 0, none⟩) (Kd.R_types HO_187009.out BK170.out (by decide)) (fun _ hk => hk.2) (.int .i64 t226)) (fun _ hk => hk.2) (.int .i64 t227)) (fun _ hk => hk.2) (.int .i64 t228)) (fun _ hk => hk.2) (.int .i64 t229)) (fun _ hk => hk.2) (.string t230)) (fun _ hk => hk.2) (.int .i64 t231)) (fun _ hk => hk.2) (.int .i64 t232)) (fun _ hk => hk.2) (.bool t233)) (fun _ hk => hk.2) (.string t234)) (fun _ hk => hk.2) (.slice Ao14 t180.length co14)) (fun _ hk => hk.2) (.bool a0_10)) (fun _ hk => hk.2) (.int .i64 t236)) (fun _ hk => hk.2) (.int .i64 t237)) (fun _ hk => trivial)), B5x6_, fun h0_ => absurd ((up_self b 3).symm.trans h0_) (by decide), B5x7_, B5x24_, B5x1_, fun h0_ => (by (with_reducible repeat (first | apply Kd.R_alloc | apply Kd.R_drewN | apply Kd.R_drew)); exact Kd.R_mono (Kd.R_far (p := ⟨gb170, 12, none⟩) (Kd.R_far (p := ⟨gb170, 11, none⟩) (Kd.R_far (p := ⟨gb170, 10, none⟩) (Kd.R_far (p := ⟨gb170, 9, none⟩) (Kd.R_far (p := ⟨gb170, 8, none⟩) (Kd.R_far (p := ⟨gb170, 7, none⟩) (Kd.R_far (p := ⟨gb170, 6, none⟩) (Kd.R_far (p := ⟨gb170, 5, none⟩) (Kd.R_far (p := ⟨gb170, 4, none⟩) (Kd.R_far (p := ⟨gb170, 3, none⟩) (Kd.R_far (p := ⟨gb170, 2, none⟩) (Kd.R_far (p := ⟨gb170, 1, none⟩) (Kd.R_far (p := ⟨gb170, 0, none⟩) (Kd.R_types (Q_HO240 h0_) BK170.out (by decide)) (fun _ hk => hk.2) (.int .i64 t226)) (fun _ hk => hk.2) (.int .i64 t227)) (fun _ hk => hk.2) (.int .i64 t228)) (fun _ hk => hk.2) (.int .i64 t229)) (fun _ hk => hk.2) (.string t230)) (fun _ hk => hk.2) (.int .i64 t231)) (fun _ hk => hk.2) (.int .i64 t232)) (fun _ hk => hk.2) (.bool t233)) (fun _ hk => hk.2) (.string t234)) (fun _ hk => hk.2) (.slice Ao14 t180.length co14)) (fun _ hk => hk.2) (.bool a0_10)) (fun _ hk => hk.2) (.int .i64 t236)) (fun _ hk => hk.2) (.int .i64 t237)) (fun _ hk => hk.1)), fun _ => B5x8_, fun h0_ => absurd ((hoff 4 B5x14_).symm.trans h0_) (by decide)⟩
          refine steps_cons ?_ ?_
          ·rintro b a w' ⟨v239, m4_, ha, Q_HO_187009, Q_BK169, Q_BK170, Q_BK186, Q_BK210, Q_HB, Q_HO240, Q_BK170_e3, Q_X4_⟩ hb_ hon hoff
           refine ⟨_, rfl, fun K hK => ?_⟩
           have e68 : a.tmps[68]? = some (v239) := by rw [ha]; exact putSel_on (e := (2, 68, v239)) 2 rfl rfl (hon 2 B5x14_) rfl
           replace ha := Aside0.mk ha
           have HO_187009 := Aside0.mk Q_HO_187009
           have BK169 := Aside0.mk Q_BK169
           have BK186 := Aside0.mk Q_BK186
           have BK210 := Aside0.mk Q_BK210
           have HB := Aside0.mk Q_HB
           have HO240 := Aside0.mk (Q_HO240 (hon 2 B5x14_))
           have BK170 := Aside0.mk (Q_BK170_e3 (hon 3 B5x14_))
           refine value_ (w1 := w') (v := v239) (by rfl) rfl ?_ ?_
           ·go_simp
            (try simp only [i64_w])
            try rfl
           refine hK.out _ _ ⟨v239, (v239), B5x35_, Q_HO_187009, Q_BK169, fun h0_ => absurd ((hon 3 B5x14_).symm.trans h0_) (by decide), Q_BK186, Q_BK210, Q_HB, Q_HO240, Q_BK170_e3, fun _ => rfl⟩
          exact steps_nil
         rintro b a w142 hall ⟨v239, m4_, ha, Q_HO_187009, Q_BK169, Q_BK170, Q_BK186, Q_BK210, Q_HB, Q_HO240, Q_BK170_e3, Q_X4_⟩
         clear BK169 BK170 BK186 BK210 HB HO_187009
         have hb0_ := hall 0 B5x14_
         have hb1_ := hall 1 B5x14_
         have hb2_ := hall 2 B5x14_
         have hb3_ := hall 3 B5x14_
         have hb4_ := hall 4 B5x14_
         subst ha
         obtain rfl := Q_X4_ hb4_
         simp only [putSel, hb0_, hb1_, hb2_, hb3_, hb4_, if_true, Act.put, List.setIfInBounds_toArray, List.set_cons_zero, List.set_cons_succ]
         have HO_187009 := Aside0.mk Q_HO_187009
         clear Q_HO_187009
         have BK169 := Aside0.mk Q_BK169
         clear Q_BK169
         clear Q_BK170
         have BK186 := Aside0.mk Q_BK186
         clear Q_BK186
         have BK210 := Aside0.mk Q_BK210
         clear Q_BK210
         have HB := Aside0.mk Q_HB
         clear Q_HB
         have HO240 := Aside0.mk (Q_HO240 hb2_)
         clear Q_HO240
         have BK170 := Aside0.mk (Q_BK170_e3 hb3_)
         clear Q_BK170_e3
         clear hall hb0_ hb1_ hb2_ hb3_ hb4_
         try go_wp2
         refine bodyPost_ret (results_ct rfl _ _ gb170 39 #[.int .i64 t226, .int .i64 t227, .int .i64 t228, .int .i64 t229, .string t230, .int .i64 t231, .int .i64 t232, .bool t233, .string t234, .slice Ao14 t180.length co14, .bool a0_10, .int .i64 t236, .int .i64 t237] (0, 0) _ rfl B5x4_ Try.underlying39 rfl B5x14_) rfl ?_
         exact ⟨_, _, by first | rfl | (simp [errW_none, errW_some] <;> rfl) | (simp [*, errW_none, errW_some] <;> rfl), by (with_reducible repeat (first | apply Kd.R_alloc | apply Kd.R_drewN | apply Kd.R_drew)); exact HO_187009.out, by (with_reducible repeat (first | apply Kd.R_alloc | apply Kd.R_drewN | apply Kd.R_drew)); exact Kd.R_mono HO240.out (fun _ hk => trivial), by repeat (first | (with_reducible first | exact HB.out | apply below_alloc | apply pw_below_drewN | apply below_drew1 | refine below_set ?_ GE169.out | refine below_set ?_ GE170.out | refine below_set ?_ GE186.out | refine below_set ?_ GE210.out) | exact HB.out)⟩

end Go.Proofs.Ytmknnoeggkgkgaa.QFnExactPush
