/- Functions that a law reaches, as functions of Lean, and the walks that show that the calls come to their answers: written by a program of this project out of the translation. No condition. -/
import Derived.Test.YtideegpoakkgeaaQFnRingsToldx0
import Derived.Test.YtideegpoakkgeaaQFnRingsToldx2
import Derived.Test.YtideegpoakkgeaaQFnRingsToldx3
import Derived.Test.YtideegpoakkgeaaQFnRingsToldx4
import Derived.Test.YtideegpoakkgeaaQFnRingsToldx5
import Derived.Test.YtideegpoakkgeaaQFnRingsToldx6
import Derived.Test.YtideegpoakkgeaaQFnRingsToldx7
import Derived.Test.YtideegpoakkgeaaVFnRingsToldShort3
import Derived.Test.YtideegpoakkgeaaVFnRingsToldShort
namespace Go.Proofs.Ytideegpoakkgeaa.QFnRingsTold
open Go.RowKit Go.Proofs.YtideegpoakkgeaaW.PrintWords Go.Proofs.YtideegpoakkgeaaW.PrintLast Go.Proofs.YtideegpoakkgeaaW.PrintMore Go.Proofs.Ytideegpoakkgeaa.Short
attribute [local go_sem] max2_int min2_int max_two min_two max_three min_three max_four min_four   -- for this text's walks alone
set_option linter.unusedVariables false
set_option linter.unusedSimpArgs false

theorem B8x0_ {p : Prop} (h : p := by (with_reducible repeat (first | refine blk_drewN ?_ _ | refine blk_drew ?_ | refine blk_alloc ?_ _)); exact BK355.out) : p := h
theorem B8x1_ {p : Prop} (h : p := by (with_reducible repeat (first | refine blk_drewN ?_ _ | refine blk_drew ?_ | refine blk_alloc ?_ _)); exact BK362.out) : p := h
theorem B8x2_ {p : Prop} (h : p := by (with_reducible repeat (first | refine blk_drewN ?_ _ | refine blk_drew ?_ | refine blk_alloc ?_ _)); exact BK369.out) : p := h
theorem B8x3_ {p : Prop} (h : p := by (try simp only [List.map_toArray, List.map_cons, List.map_nil]); first | done | rfl | (simp only [List.length_drop, List.length_take]; rfl)) : p := h
theorem B8x4_ {p : Prop} (h : p := by repeat (first | (with_reducible first | exact HB.out | apply below_alloc | apply pw_below_drewN | apply below_drew1 | refine below_set ?_ GE355.out | refine below_set ?_ GE362.out | refine below_set ?_ GE369.out | refine below_set ?_ GE377.out | refine below_set ?_ GE385.out | refine below_set ?_ GE392.out) | exact HB.out)) : p := h
theorem B8x5_ {p : Prop} (h : p := by (with_reducible repeat (first | refine blk_drewN ?_ _ | refine blk_drew ?_ | refine blk_alloc ?_ _)); exact BK377.out) : p := h
theorem B8x6_ {p : Prop} (h : p := by repeat (first | (with_reducible first | exact HB.out | apply below_alloc | apply pw_below_drewN | apply below_drew1 | refine below_set ?_ GE355.out | refine below_set ?_ GE362.out | refine below_set ?_ GE369.out | refine below_set ?_ GE377.out | refine below_set ?_ GE385.out) | exact HB.out)) : p := h
theorem B8x7_ {p : Prop} (h : p := by repeat (first | (with_reducible first | exact HB.out | apply below_alloc | apply pw_below_drewN | apply below_drew1 | refine below_set ?_ GE355.out | refine below_set ?_ GE362.out | refine below_set ?_ GE369.out | refine below_set ?_ GE377.out | refine below_set ?_ GE385.out | refine below_set ?_ GE392.out | refine below_set ?_ GE399.out) | exact HB.out)) : p := h
theorem B8x8_ {p : Prop} (h : p := by repeat (first | (with_reducible first | exact HB.out | apply below_alloc | apply pw_below_drewN | apply below_drew1 | refine below_set ?_ GE355.out | refine below_set ?_ GE362.out | refine below_set ?_ GE369.out | refine below_set ?_ GE377.out) | exact HB.out)) : p := h
theorem B8x9_ {p : Prop} (h : p := by (with_reducible repeat (first | refine blk_drewN ?_ _ | refine blk_drew ?_ | refine blk_alloc ?_ _)); exact BK385.out) : p := h
theorem B8x10_ {p : Prop} (h : p := by (with_reducible repeat (first | apply Kd.R_alloc | apply Kd.R_drewN | apply Kd.R_drew)); exact HO351.out) : p := h
theorem B8x11_ {p : Prop} (h : p := by repeat (first | (with_reducible first | exact HB.out | apply below_alloc | apply pw_below_drewN | apply below_drew1 | refine below_set ?_ GE355.out | refine below_set ?_ GE362.out | refine below_set ?_ GE369.out) | exact HB.out)) : p := h
theorem B8x12_ {p : Prop} (h : p := by (with_reducible repeat (first | apply Kd.R_alloc | apply Kd.R_drewN | apply Kd.R_drew)); exact HO358.out) : p := h
theorem B8x13_ {p : Prop} (h : p := by repeat (first | (with_reducible first | exact HB.out | apply below_alloc | apply pw_below_drewN | apply below_drew1 | refine below_set ?_ GE355.out | refine below_set ?_ GE362.out) | exact HB.out)) : p := h
theorem B8x14_ {p : Prop} (h : p := by (with_reducible repeat (first | apply Kd.R_alloc | apply Kd.R_drewN | apply Kd.R_drew)); exact HO365.out) : p := h
theorem B8x15_ {p : Prop} (h : p := by (with_reducible repeat (first | apply Kd.R_alloc | apply Kd.R_drewN | apply Kd.R_drew)); exact HO372.out) : p := h
theorem B8x16_ {p : Prop} (h : p := by (with_reducible repeat (first | refine blk_drewN ?_ _ | refine blk_drew ?_ | refine blk_alloc ?_ _)); exact BK392.out) : p := h
theorem B8x17_ {p : Prop} (h : p := by repeat (first | (with_reducible first | exact HB.out | apply below_alloc | apply pw_below_drewN | apply below_drew1 | refine below_set ?_ GE355.out) | exact HB.out)) : p := h
theorem B8x18_ {p : Prop} (h : p := by (with_reducible repeat (first | apply Kd.R_alloc | apply Kd.R_drewN | apply Kd.R_drew)); exact HO380.out) : p := h
theorem B8x19_ {p : Prop} (h : p := by repeat (first | (with_reducible first | exact HB.out | apply below_alloc | apply pw_below_drewN | apply below_drew1) | exact HB.out)) : p := h
theorem B8x20_ {p : Prop} (h : p := by (with_reducible repeat (first | apply Kd.R_alloc | apply Kd.R_drewN | apply Kd.R_drew)); exact HO388.out) : p := h
theorem B8x21_ {p : Prop} (h : p := by (with_reducible repeat (first | apply Kd.R_alloc | apply Kd.R_drewN | apply Kd.R_drew)); exact HO395.out) : p := h
theorem B8x22_ {p : Prop} (h : p := by (with_reducible repeat (first | refine blk_drewN ?_ _ | refine blk_drew ?_ | refine blk_alloc ?_ _)); exact BK399.out) : p := h
theorem B8x23_ {p : Prop} (h : p := by (with_reducible repeat (first | refine blk_drewN ?_ _ | refine blk_drew ?_ | refine blk_alloc ?_ _)); refine blk_far ?_ NB355_362.out _; (with_reducible repeat (first | refine blk_drewN ?_ _ | refine blk_drew ?_ | refine blk_alloc ?_ _)); refine blk_far ?_ NB355_362.out _; (with_reducible repeat (first | refine blk_drewN ?_ _ | refine blk_drew ?_ | refine blk_alloc ?_ _)); refine blk_far ?_ NB355_362.out _; (with_reducible repeat (first | refine blk_drewN ?_ _ | refine blk_drew ?_ | refine blk_alloc ?_ _)); exact BK355.out) : p := h
theorem B8x24_ {p : Prop} (h : p := by (with_reducible repeat (first | refine blk_drewN ?_ _ | refine blk_drew ?_ | refine blk_alloc ?_ _)); refine blk_far ?_ NB355_369.out _; (with_reducible repeat (first | refine blk_drewN ?_ _ | refine blk_drew ?_ | refine blk_alloc ?_ _)); refine blk_far ?_ NB355_369.out _; (with_reducible repeat (first | refine blk_drewN ?_ _ | refine blk_drew ?_ | refine blk_alloc ?_ _)); refine blk_far ?_ NB355_369.out _; (with_reducible repeat (first | refine blk_drewN ?_ _ | refine blk_drew ?_ | refine blk_alloc ?_ _)); exact BK355.out) : p := h
theorem B8x25_ {p : Prop} (h : p := by (with_reducible repeat (first | refine blk_drewN ?_ _ | refine blk_drew ?_ | refine blk_alloc ?_ _)); refine blk_far ?_ NB355_377.out _; (with_reducible repeat (first | refine blk_drewN ?_ _ | refine blk_drew ?_ | refine blk_alloc ?_ _)); refine blk_far ?_ NB355_377.out _; (with_reducible repeat (first | refine blk_drewN ?_ _ | refine blk_drew ?_ | refine blk_alloc ?_ _)); refine blk_far ?_ NB355_377.out _; (with_reducible repeat (first | refine blk_drewN ?_ _ | refine blk_drew ?_ | refine blk_alloc ?_ _)); exact BK355.out) : p := h
theorem B8x26_ {p : Prop} (h : p := by (with_reducible repeat (first | refine blk_drewN ?_ _ | refine blk_drew ?_ | refine blk_alloc ?_ _)); refine blk_far ?_ NB355_385.out _; (with_reducible repeat (first | refine blk_drewN ?_ _ | refine blk_drew ?_ | refine blk_alloc ?_ _)); refine blk_far ?_ NB355_385.out _; (with_reducible repeat (first | refine blk_drewN ?_ _ | refine blk_drew ?_ | refine blk_alloc ?_ _)); refine blk_far ?_ NB355_385.out _; (with_reducible repeat (first | refine blk_drewN ?_ _ | refine blk_drew ?_ | refine blk_alloc ?_ _)); exact BK355.out) : p := h
theorem B8x27_ {p : Prop} (h : p := by (with_reducible repeat (first | refine blk_drewN ?_ _ | refine blk_drew ?_ | refine blk_alloc ?_ _)); refine blk_far ?_ NB355_392.out _; (with_reducible repeat (first | refine blk_drewN ?_ _ | refine blk_drew ?_ | refine blk_alloc ?_ _)); refine blk_far ?_ NB355_392.out _; (with_reducible repeat (first | refine blk_drewN ?_ _ | refine blk_drew ?_ | refine blk_alloc ?_ _)); refine blk_far ?_ NB355_392.out _; (with_reducible repeat (first | refine blk_drewN ?_ _ | refine blk_drew ?_ | refine blk_alloc ?_ _)); exact BK355.out) : p := h
theorem B8x28_ {p : Prop} (h : p := by (with_reducible repeat (first | refine blk_drewN ?_ _ | refine blk_drew ?_ | refine blk_alloc ?_ _)); refine blk_far ?_ NB362_369.out _; (with_reducible repeat (first | refine blk_drewN ?_ _ | refine blk_drew ?_ | refine blk_alloc ?_ _)); refine blk_far ?_ NB362_369.out _; (with_reducible repeat (first | refine blk_drewN ?_ _ | refine blk_drew ?_ | refine blk_alloc ?_ _)); refine blk_far ?_ NB362_369.out _; (with_reducible repeat (first | refine blk_drewN ?_ _ | refine blk_drew ?_ | refine blk_alloc ?_ _)); exact BK362.out) : p := h
theorem B8x29_ {p : Prop} (h : p := by (with_reducible repeat (first | refine blk_drewN ?_ _ | refine blk_drew ?_ | refine blk_alloc ?_ _)); refine blk_far ?_ NB362_377.out _; (with_reducible repeat (first | refine blk_drewN ?_ _ | refine blk_drew ?_ | refine blk_alloc ?_ _)); refine blk_far ?_ NB362_377.out _; (with_reducible repeat (first | refine blk_drewN ?_ _ | refine blk_drew ?_ | refine blk_alloc ?_ _)); refine blk_far ?_ NB362_377.out _; (with_reducible repeat (first | refine blk_drewN ?_ _ | refine blk_drew ?_ | refine blk_alloc ?_ _)); exact BK362.out) : p := h
theorem B8x30_ {p : Prop} (h : p := by (with_reducible repeat (first | refine blk_drewN ?_ _ | refine blk_drew ?_ | refine blk_alloc ?_ _)); refine blk_far ?_ NB362_385.out _; (with_reducible repeat (first | refine blk_drewN ?_ _ | refine blk_drew ?_ | refine blk_alloc ?_ _)); refine blk_far ?_ NB362_385.out _; (with_reducible repeat (first | refine blk_drewN ?_ _ | refine blk_drew ?_ | refine blk_alloc ?_ _)); refine blk_far ?_ NB362_385.out _; (with_reducible repeat (first | refine blk_drewN ?_ _ | refine blk_drew ?_ | refine blk_alloc ?_ _)); exact BK362.out) : p := h
theorem B8x31_ {p : Prop} (h : p := by (with_reducible repeat (first | refine blk_drewN ?_ _ | refine blk_drew ?_ | refine blk_alloc ?_ _)); refine blk_far ?_ NB362_392.out _; (with_reducible repeat (first | refine blk_drewN ?_ _ | refine blk_drew ?_ | refine blk_alloc ?_ _)); refine blk_far ?_ NB362_392.out _; (with_reducible repeat (first | refine blk_drewN ?_ _ | refine blk_drew ?_ | refine blk_alloc ?_ _)); refine blk_far ?_ NB362_392.out _; (with_reducible repeat (first | refine blk_drewN ?_ _ | refine blk_drew ?_ | refine blk_alloc ?_ _)); exact BK362.out) : p := h
theorem B8x32_ {p : Prop} (h : p := by (with_reducible repeat (first | refine blk_drewN ?_ _ | refine blk_drew ?_ | refine blk_alloc ?_ _)); refine blk_far ?_ NB369_377.out _; (with_reducible repeat (first | refine blk_drewN ?_ _ | refine blk_drew ?_ | refine blk_alloc ?_ _)); refine blk_far ?_ NB369_377.out _; (with_reducible repeat (first | refine blk_drewN ?_ _ | refine blk_drew ?_ | refine blk_alloc ?_ _)); refine blk_far ?_ NB369_377.out _; (with_reducible repeat (first | refine blk_drewN ?_ _ | refine blk_drew ?_ | refine blk_alloc ?_ _)); exact BK369.out) : p := h
theorem B8x33_ {p : Prop} (h : p := by (with_reducible repeat (first | refine blk_drewN ?_ _ | refine blk_drew ?_ | refine blk_alloc ?_ _)); refine blk_far ?_ NB369_385.out _; (with_reducible repeat (first | refine blk_drewN ?_ _ | refine blk_drew ?_ | refine blk_alloc ?_ _)); refine blk_far ?_ NB369_385.out _; (with_reducible repeat (first | refine blk_drewN ?_ _ | refine blk_drew ?_ | refine blk_alloc ?_ _)); refine blk_far ?_ NB369_385.out _; (with_reducible repeat (first | refine blk_drewN ?_ _ | refine blk_drew ?_ | refine blk_alloc ?_ _)); exact BK369.out) : p := h
theorem B8x34_ {p : Prop} (h : p := by (with_reducible repeat (first | refine blk_drewN ?_ _ | refine blk_drew ?_ | refine blk_alloc ?_ _)); refine blk_far ?_ NB369_392.out _; (with_reducible repeat (first | refine blk_drewN ?_ _ | refine blk_drew ?_ | refine blk_alloc ?_ _)); refine blk_far ?_ NB369_392.out _; (with_reducible repeat (first | refine blk_drewN ?_ _ | refine blk_drew ?_ | refine blk_alloc ?_ _)); refine blk_far ?_ NB369_392.out _; (with_reducible repeat (first | refine blk_drewN ?_ _ | refine blk_drew ?_ | refine blk_alloc ?_ _)); exact BK369.out) : p := h
theorem B8x35_ {p : Prop} (h : p := by (with_reducible repeat (first | refine blk_drewN ?_ _ | refine blk_drew ?_ | refine blk_alloc ?_ _)); refine blk_far ?_ NB377_385.out _; (with_reducible repeat (first | refine blk_drewN ?_ _ | refine blk_drew ?_ | refine blk_alloc ?_ _)); refine blk_far ?_ NB377_385.out _; (with_reducible repeat (first | refine blk_drewN ?_ _ | refine blk_drew ?_ | refine blk_alloc ?_ _)); refine blk_far ?_ NB377_385.out _; (with_reducible repeat (first | refine blk_drewN ?_ _ | refine blk_drew ?_ | refine blk_alloc ?_ _)); exact BK377.out) : p := h
theorem B8x36_ {p : Prop} (h : p := by (with_reducible repeat (first | refine blk_drewN ?_ _ | refine blk_drew ?_ | refine blk_alloc ?_ _)); refine blk_far ?_ NB377_392.out _; (with_reducible repeat (first | refine blk_drewN ?_ _ | refine blk_drew ?_ | refine blk_alloc ?_ _)); refine blk_far ?_ NB377_392.out _; (with_reducible repeat (first | refine blk_drewN ?_ _ | refine blk_drew ?_ | refine blk_alloc ?_ _)); refine blk_far ?_ NB377_392.out _; (with_reducible repeat (first | refine blk_drewN ?_ _ | refine blk_drew ?_ | refine blk_alloc ?_ _)); exact BK377.out) : p := h
theorem B8x37_ {p : Prop} (h : p := by (with_reducible repeat (first | refine blk_drewN ?_ _ | refine blk_drew ?_ | refine blk_alloc ?_ _)); refine blk_far ?_ NB385_392.out _; (with_reducible repeat (first | refine blk_drewN ?_ _ | refine blk_drew ?_ | refine blk_alloc ?_ _)); refine blk_far ?_ NB385_392.out _; (with_reducible repeat (first | refine blk_drewN ?_ _ | refine blk_drew ?_ | refine blk_alloc ?_ _)); refine blk_far ?_ NB385_392.out _; (with_reducible repeat (first | refine blk_drewN ?_ _ | refine blk_drew ?_ | refine blk_alloc ?_ _)); exact BK385.out) : p := h
theorem B8x38_ {p : Prop} (h : p := by (with_reducible repeat (first | apply Kd.R_alloc | apply Kd.R_drewN | apply Kd.R_drew)); exact (Kd.R_mono (Kd.R_far (p := ⟨gb355, 2, none⟩) (Kd.R_far (p := ⟨gb355, 1, none⟩) (Kd.R_far (p := ⟨gb355, 0, none⟩) (Kd.R_types HO351.out BK355.out (by decide)) (fun _ hk => hk.2) (.slice Ao156 t349.length co156)) (fun _ hk => hk.2) (.int .i64 t352)) (fun _ hk => hk.2) (.int .i64 t353)) (fun _ h_ => h_.1))) : p := h
theorem B8x39_ {p : Prop} (h : p := by (with_reducible repeat (first | apply Kd.R_alloc | apply Kd.R_drewN | apply Kd.R_drew)); exact (Kd.R_mono (Kd.R_far (p := ⟨gb355, 2, none⟩) (Kd.R_far (p := ⟨gb355, 1, none⟩) (Kd.R_far (p := ⟨gb355, 0, none⟩) (Kd.R_types HO351.out BK355.out (by decide)) (fun _ hk => hk.2) (.slice Ao220 t349.length co220)) (fun _ hk => hk.2) (.int .i64 t352)) (fun _ hk => hk.2) (.int .i64 t353)) (fun _ h_ => h_.1))) : p := h
theorem B8x40_ {p : Prop} (h : p := by (with_reducible repeat (first | apply Kd.R_alloc | apply Kd.R_drewN | apply Kd.R_drew)); exact (Kd.R_mono (Kd.R_far (p := ⟨gb362, 2, none⟩) (Kd.R_far (p := ⟨gb362, 1, none⟩) (Kd.R_far (p := ⟨gb362, 0, none⟩) (Kd.R_types HO351.out BK362.out (by decide)) (fun _ hk => hk.2) (.slice Ao160 t356.length co160)) (fun _ hk => hk.2) (.int .i64 t359)) (fun _ hk => hk.2) (.int .i64 t360)) (fun _ h_ => h_.1))) : p := h
theorem B8x41_ {p : Prop} (h : p := by (with_reducible repeat (first | apply Kd.R_alloc | apply Kd.R_drewN | apply Kd.R_drew)); exact (Kd.R_mono (Kd.R_far (p := ⟨gb362, 2, none⟩) (Kd.R_far (p := ⟨gb362, 1, none⟩) (Kd.R_far (p := ⟨gb362, 0, none⟩) (Kd.R_types HO351.out BK362.out (by decide)) (fun _ hk => hk.2) (.slice Ao224 t356.length co224)) (fun _ hk => hk.2) (.int .i64 t359)) (fun _ hk => hk.2) (.int .i64 t360)) (fun _ h_ => h_.1))) : p := h
theorem B8x42_ {p : Prop} (h : p := by (with_reducible repeat (first | apply Kd.R_alloc | apply Kd.R_drewN | apply Kd.R_drew)); exact (Kd.R_mono (Kd.R_far (p := ⟨gb369, 2, none⟩) (Kd.R_far (p := ⟨gb369, 1, none⟩) (Kd.R_far (p := ⟨gb369, 0, none⟩) (Kd.R_types HO351.out BK369.out (by decide)) (fun _ hk => hk.2) (.slice Ao100 t363.length co100)) (fun _ hk => hk.2) (.int .i64 t366)) (fun _ hk => hk.2) (.int .i64 t367)) (fun _ h_ => h_.1))) : p := h
theorem B8x43_ {p : Prop} (h : p := by (with_reducible repeat (first | apply Kd.R_alloc | apply Kd.R_drewN | apply Kd.R_drew)); exact (Kd.R_mono (Kd.R_far (p := ⟨gb369, 2, none⟩) (Kd.R_far (p := ⟨gb369, 1, none⟩) (Kd.R_far (p := ⟨gb369, 0, none⟩) (Kd.R_types HO351.out BK369.out (by decide)) (fun _ hk => hk.2) (.slice Ao166 t363.length co166)) (fun _ hk => hk.2) (.int .i64 t366)) (fun _ hk => hk.2) (.int .i64 t367)) (fun _ h_ => h_.1))) : p := h
theorem B8x44_ {p : Prop} (h : p := by (with_reducible repeat (first | apply Kd.R_alloc | apply Kd.R_drewN | apply Kd.R_drew)); exact (Kd.R_mono (Kd.R_far (p := ⟨gb369, 2, none⟩) (Kd.R_far (p := ⟨gb369, 1, none⟩) (Kd.R_far (p := ⟨gb369, 0, none⟩) (Kd.R_types HO351.out BK369.out (by decide)) (fun _ hk => hk.2) (.slice Ao230 t363.length co230)) (fun _ hk => hk.2) (.int .i64 t366)) (fun _ hk => hk.2) (.int .i64 t367)) (fun _ h_ => h_.1))) : p := h
theorem B8x45_ {p : Prop} (h : p := by (with_reducible repeat (first | apply Kd.R_alloc | apply Kd.R_drewN | apply Kd.R_drew)); exact (Kd.R_mono (Kd.R_far (p := ⟨gb377, 2, none⟩) (Kd.R_far (p := ⟨gb377, 1, none⟩) (Kd.R_far (p := ⟨gb377, 0, none⟩) (Kd.R_types HO351.out BK377.out (by decide)) (fun _ hk => hk.2) (.slice Ao107 t370.length co107)) (fun _ hk => hk.2) (.int .i64 t373)) (fun _ hk => hk.2) (.int .i64 t374)) (fun _ h_ => h_.1))) : p := h
theorem B8x46_ {p : Prop} (h : p := by (with_reducible repeat (first | apply Kd.R_alloc | apply Kd.R_drewN | apply Kd.R_drew)); exact (Kd.R_mono (Kd.R_far (p := ⟨gb377, 2, none⟩) (Kd.R_far (p := ⟨gb377, 1, none⟩) (Kd.R_far (p := ⟨gb377, 0, none⟩) (Kd.R_types HO351.out BK377.out (by decide)) (fun _ hk => hk.2) (.slice Ao173 t370.length co173)) (fun _ hk => hk.2) (.int .i64 t373)) (fun _ hk => hk.2) (.int .i64 t374)) (fun _ h_ => h_.1))) : p := h
theorem B8x47_ {p : Prop} (h : p := by (with_reducible repeat (first | apply Kd.R_alloc | apply Kd.R_drewN | apply Kd.R_drew)); exact (Kd.R_mono (Kd.R_far (p := ⟨gb377, 2, none⟩) (Kd.R_far (p := ⟨gb377, 1, none⟩) (Kd.R_far (p := ⟨gb377, 0, none⟩) (Kd.R_types HO351.out BK377.out (by decide)) (fun _ hk => hk.2) (.slice Ao237 t370.length co237)) (fun _ hk => hk.2) (.int .i64 t373)) (fun _ hk => hk.2) (.int .i64 t374)) (fun _ h_ => h_.1))) : p := h
theorem B8x48_ {p : Prop} (h : p := by (with_reducible repeat (first | apply Kd.R_alloc | apply Kd.R_drewN | apply Kd.R_drew)); exact (Kd.R_mono (Kd.R_far (p := ⟨gb355, 2, none⟩) (Kd.R_far (p := ⟨gb355, 1, none⟩) (Kd.R_far (p := ⟨gb355, 0, none⟩) (Kd.R_types HO351.out BK355.out (by decide)) (fun _ hk => hk.2) (.slice Ao26 t349.length co26)) (fun _ hk => hk.2) (.int .i64 t352)) (fun _ hk => hk.2) (.int .i64 t353)) (fun _ h_ => h_.1))) : p := h
theorem B8x49_ {p : Prop} (h : p := by (with_reducible repeat (first | apply Kd.R_alloc | apply Kd.R_drewN | apply Kd.R_drew)); exact (Kd.R_mono (Kd.R_far (p := ⟨gb355, 2, none⟩) (Kd.R_far (p := ⟨gb355, 1, none⟩) (Kd.R_far (p := ⟨gb355, 0, none⟩) (Kd.R_types HO351.out BK355.out (by decide)) (fun _ hk => hk.2) (.slice Ao90 t349.length co90)) (fun _ hk => hk.2) (.int .i64 t352)) (fun _ hk => hk.2) (.int .i64 t353)) (fun _ h_ => h_.1))) : p := h
theorem B8x50_ {p : Prop} (h : p := by (with_reducible repeat (first | apply Kd.R_alloc | apply Kd.R_drewN | apply Kd.R_drew)); exact (Kd.R_mono (Kd.R_far (p := ⟨gb362, 2, none⟩) (Kd.R_far (p := ⟨gb362, 1, none⟩) (Kd.R_far (p := ⟨gb362, 0, none⟩) (Kd.R_types HO351.out BK362.out (by decide)) (fun _ hk => hk.2) (.slice Ao30 t356.length co30)) (fun _ hk => hk.2) (.int .i64 t359)) (fun _ hk => hk.2) (.int .i64 t360)) (fun _ h_ => h_.1))) : p := h
theorem B8x51_ {p : Prop} (h : p := by (with_reducible repeat (first | apply Kd.R_alloc | apply Kd.R_drewN | apply Kd.R_drew)); exact (Kd.R_mono (Kd.R_far (p := ⟨gb362, 2, none⟩) (Kd.R_far (p := ⟨gb362, 1, none⟩) (Kd.R_far (p := ⟨gb362, 0, none⟩) (Kd.R_types HO351.out BK362.out (by decide)) (fun _ hk => hk.2) (.slice Ao94 t356.length co94)) (fun _ hk => hk.2) (.int .i64 t359)) (fun _ hk => hk.2) (.int .i64 t360)) (fun _ h_ => h_.1))) : p := h
theorem B8x52_ {p : Prop} (h : p := by (with_reducible repeat (first | apply Kd.R_alloc | apply Kd.R_drewN | apply Kd.R_drew)); exact (Kd.R_mono (Kd.R_far (p := ⟨gb369, 2, none⟩) (Kd.R_far (p := ⟨gb369, 1, none⟩) (Kd.R_far (p := ⟨gb369, 0, none⟩) (Kd.R_types HO351.out BK369.out (by decide)) (fun _ hk => hk.2) (.slice Ao36 t363.length co36)) (fun _ hk => hk.2) (.int .i64 t366)) (fun _ hk => hk.2) (.int .i64 t367)) (fun _ h_ => h_.1))) : p := h
theorem B8x53_ {p : Prop} (h : p := by (with_reducible repeat (first | apply Kd.R_alloc | apply Kd.R_drewN | apply Kd.R_drew)); exact (Kd.R_mono (Kd.R_far (p := ⟨gb377, 2, none⟩) (Kd.R_far (p := ⟨gb377, 1, none⟩) (Kd.R_far (p := ⟨gb377, 0, none⟩) (Kd.R_types HO351.out BK377.out (by decide)) (fun _ hk => hk.2) (.slice Ao43 t370.length co43)) (fun _ hk => hk.2) (.int .i64 t373)) (fun _ hk => hk.2) (.int .i64 t374)) (fun _ h_ => h_.1))) : p := h
theorem B8x54_ {p : Prop} (h : p := by kernel_rfl) : p := h
theorem B8x55_ {p : Prop} (h : p := by (with_reducible repeat (first | apply Kd.R_alloc | apply Kd.R_drewN | apply Kd.R_drew)); exact (Kd.R_mono (Kd.R_far (p := ⟨gb362, 2, none⟩) (Kd.R_far (p := ⟨gb362, 1, none⟩) (Kd.R_far (p := ⟨gb362, 0, none⟩) (Kd.R_types HO358.out BK362.out (by decide)) (fun _ hk => hk.2) (.slice Ao160 t356.length co160)) (fun _ hk => hk.2) (.int .i64 t359)) (fun _ hk => hk.2) (.int .i64 t360)) (fun _ h_ => h_.1))) : p := h
theorem B8x56_ {p : Prop} (h : p := by (with_reducible repeat (first | apply Kd.R_alloc | apply Kd.R_drewN | apply Kd.R_drew)); exact (Kd.R_mono (Kd.R_far (p := ⟨gb362, 2, none⟩) (Kd.R_far (p := ⟨gb362, 1, none⟩) (Kd.R_far (p := ⟨gb362, 0, none⟩) (Kd.R_types HO358.out BK362.out (by decide)) (fun _ hk => hk.2) (.slice Ao224 t356.length co224)) (fun _ hk => hk.2) (.int .i64 t359)) (fun _ hk => hk.2) (.int .i64 t360)) (fun _ h_ => h_.1))) : p := h
theorem B8x57_ {p : Prop} (h : p := by (with_reducible repeat (first | apply Kd.R_alloc | apply Kd.R_drewN | apply Kd.R_drew)); exact (Kd.R_mono (Kd.R_far (p := ⟨gb369, 2, none⟩) (Kd.R_far (p := ⟨gb369, 1, none⟩) (Kd.R_far (p := ⟨gb369, 0, none⟩) (Kd.R_types HO358.out BK369.out (by decide)) (fun _ hk => hk.2) (.slice Ao100 t363.length co100)) (fun _ hk => hk.2) (.int .i64 t366)) (fun _ hk => hk.2) (.int .i64 t367)) (fun _ h_ => h_.1))) : p := h
theorem B8x58_ {p : Prop} (h : p := by (with_reducible repeat (first | apply Kd.R_alloc | apply Kd.R_drewN | apply Kd.R_drew)); exact (Kd.R_mono (Kd.R_far (p := ⟨gb369, 2, none⟩) (Kd.R_far (p := ⟨gb369, 1, none⟩) (Kd.R_far (p := ⟨gb369, 0, none⟩) (Kd.R_types HO358.out BK369.out (by decide)) (fun _ hk => hk.2) (.slice Ao166 t363.length co166)) (fun _ hk => hk.2) (.int .i64 t366)) (fun _ hk => hk.2) (.int .i64 t367)) (fun _ h_ => h_.1))) : p := h
theorem B8x59_ {p : Prop} (h : p := by (with_reducible repeat (first | apply Kd.R_alloc | apply Kd.R_drewN | apply Kd.R_drew)); exact (Kd.R_mono (Kd.R_far (p := ⟨gb369, 2, none⟩) (Kd.R_far (p := ⟨gb369, 1, none⟩) (Kd.R_far (p := ⟨gb369, 0, none⟩) (Kd.R_types HO358.out BK369.out (by decide)) (fun _ hk => hk.2) (.slice Ao230 t363.length co230)) (fun _ hk => hk.2) (.int .i64 t366)) (fun _ hk => hk.2) (.int .i64 t367)) (fun _ h_ => h_.1))) : p := h
theorem B8x60_ {p : Prop} (h : p := by (with_reducible repeat (first | apply Kd.R_alloc | apply Kd.R_drewN | apply Kd.R_drew)); exact (Kd.R_mono (Kd.R_far (p := ⟨gb369, 2, none⟩) (Kd.R_far (p := ⟨gb369, 1, none⟩) (Kd.R_far (p := ⟨gb369, 0, none⟩) (Kd.R_types HO365.out BK369.out (by decide)) (fun _ hk => hk.2) (.slice Ao100 t363.length co100)) (fun _ hk => hk.2) (.int .i64 t366)) (fun _ hk => hk.2) (.int .i64 t367)) (fun _ h_ => h_.1))) : p := h
theorem B8x61_ {p : Prop} (h : p := by (with_reducible repeat (first | apply Kd.R_alloc | apply Kd.R_drewN | apply Kd.R_drew)); exact (Kd.R_mono (Kd.R_far (p := ⟨gb369, 2, none⟩) (Kd.R_far (p := ⟨gb369, 1, none⟩) (Kd.R_far (p := ⟨gb369, 0, none⟩) (Kd.R_types HO365.out BK369.out (by decide)) (fun _ hk => hk.2) (.slice Ao166 t363.length co166)) (fun _ hk => hk.2) (.int .i64 t366)) (fun _ hk => hk.2) (.int .i64 t367)) (fun _ h_ => h_.1))) : p := h
theorem B8x62_ {p : Prop} (h : p := by (with_reducible repeat (first | apply Kd.R_alloc | apply Kd.R_drewN | apply Kd.R_drew)); exact (Kd.R_mono (Kd.R_far (p := ⟨gb369, 2, none⟩) (Kd.R_far (p := ⟨gb369, 1, none⟩) (Kd.R_far (p := ⟨gb369, 0, none⟩) (Kd.R_types HO365.out BK369.out (by decide)) (fun _ hk => hk.2) (.slice Ao230 t363.length co230)) (fun _ hk => hk.2) (.int .i64 t366)) (fun _ hk => hk.2) (.int .i64 t367)) (fun _ h_ => h_.1))) : p := h
theorem B8x63_ {p : Prop} (h : p := by (with_reducible repeat (first | apply Kd.R_alloc | apply Kd.R_drewN | apply Kd.R_drew)); exact (Kd.R_mono (Kd.R_far (p := ⟨gb377, 2, none⟩) (Kd.R_far (p := ⟨gb377, 1, none⟩) (Kd.R_far (p := ⟨gb377, 0, none⟩) (Kd.R_types HO358.out BK377.out (by decide)) (fun _ hk => hk.2) (.slice Ao107 t370.length co107)) (fun _ hk => hk.2) (.int .i64 t373)) (fun _ hk => hk.2) (.int .i64 t374)) (fun _ h_ => h_.1))) : p := h
theorem B8x64_ {p : Prop} (h : p := by (with_reducible repeat (first | apply Kd.R_alloc | apply Kd.R_drewN | apply Kd.R_drew)); exact (Kd.R_mono (Kd.R_far (p := ⟨gb377, 2, none⟩) (Kd.R_far (p := ⟨gb377, 1, none⟩) (Kd.R_far (p := ⟨gb377, 0, none⟩) (Kd.R_types HO358.out BK377.out (by decide)) (fun _ hk => hk.2) (.slice Ao173 t370.length co173)) (fun _ hk => hk.2) (.int .i64 t373)) (fun _ hk => hk.2) (.int .i64 t374)) (fun _ h_ => h_.1))) : p := h
theorem B8x65_ {p : Prop} (h : p := by (with_reducible repeat (first | apply Kd.R_alloc | apply Kd.R_drewN | apply Kd.R_drew)); exact (Kd.R_mono (Kd.R_far (p := ⟨gb377, 2, none⟩) (Kd.R_far (p := ⟨gb377, 1, none⟩) (Kd.R_far (p := ⟨gb377, 0, none⟩) (Kd.R_types HO358.out BK377.out (by decide)) (fun _ hk => hk.2) (.slice Ao237 t370.length co237)) (fun _ hk => hk.2) (.int .i64 t373)) (fun _ hk => hk.2) (.int .i64 t374)) (fun _ h_ => h_.1))) : p := h
theorem B8x66_ {p : Prop} (h : p := by (with_reducible repeat (first | apply Kd.R_alloc | apply Kd.R_drewN | apply Kd.R_drew)); exact (Kd.R_mono (Kd.R_far (p := ⟨gb377, 2, none⟩) (Kd.R_far (p := ⟨gb377, 1, none⟩) (Kd.R_far (p := ⟨gb377, 0, none⟩) (Kd.R_types HO365.out BK377.out (by decide)) (fun _ hk => hk.2) (.slice Ao107 t370.length co107)) (fun _ hk => hk.2) (.int .i64 t373)) (fun _ hk => hk.2) (.int .i64 t374)) (fun _ h_ => h_.1))) : p := h
theorem B8x67_ {p : Prop} (h : p := by (with_reducible repeat (first | apply Kd.R_alloc | apply Kd.R_drewN | apply Kd.R_drew)); exact (Kd.R_mono (Kd.R_far (p := ⟨gb377, 2, none⟩) (Kd.R_far (p := ⟨gb377, 1, none⟩) (Kd.R_far (p := ⟨gb377, 0, none⟩) (Kd.R_types HO365.out BK377.out (by decide)) (fun _ hk => hk.2) (.slice Ao173 t370.length co173)) (fun _ hk => hk.2) (.int .i64 t373)) (fun _ hk => hk.2) (.int .i64 t374)) (fun _ h_ => h_.1))) : p := h
theorem B8x68_ {p : Prop} (h : p := by (with_reducible repeat (first | apply Kd.R_alloc | apply Kd.R_drewN | apply Kd.R_drew)); exact (Kd.R_mono (Kd.R_far (p := ⟨gb377, 2, none⟩) (Kd.R_far (p := ⟨gb377, 1, none⟩) (Kd.R_far (p := ⟨gb377, 0, none⟩) (Kd.R_types HO365.out BK377.out (by decide)) (fun _ hk => hk.2) (.slice Ao237 t370.length co237)) (fun _ hk => hk.2) (.int .i64 t373)) (fun _ hk => hk.2) (.int .i64 t374)) (fun _ h_ => h_.1))) : p := h
theorem B8x69_ {p : Prop} (h : p := by (with_reducible repeat (first | apply Kd.R_alloc | apply Kd.R_drewN | apply Kd.R_drew)); exact (Kd.R_mono (Kd.R_far (p := ⟨gb377, 2, none⟩) (Kd.R_far (p := ⟨gb377, 1, none⟩) (Kd.R_far (p := ⟨gb377, 0, none⟩) (Kd.R_types HO372.out BK377.out (by decide)) (fun _ hk => hk.2) (.slice Ao107 t370.length co107)) (fun _ hk => hk.2) (.int .i64 t373)) (fun _ hk => hk.2) (.int .i64 t374)) (fun _ h_ => h_.1))) : p := h
theorem B8x70_ {p : Prop} (h : p := by (with_reducible repeat (first | apply Kd.R_alloc | apply Kd.R_drewN | apply Kd.R_drew)); exact (Kd.R_mono (Kd.R_far (p := ⟨gb377, 2, none⟩) (Kd.R_far (p := ⟨gb377, 1, none⟩) (Kd.R_far (p := ⟨gb377, 0, none⟩) (Kd.R_types HO372.out BK377.out (by decide)) (fun _ hk => hk.2) (.slice Ao173 t370.length co173)) (fun _ hk => hk.2) (.int .i64 t373)) (fun _ hk => hk.2) (.int .i64 t374)) (fun _ h_ => h_.1))) : p := h
theorem B8x71_ {p : Prop} (h : p := by (with_reducible repeat (first | apply Kd.R_alloc | apply Kd.R_drewN | apply Kd.R_drew)); exact (Kd.R_mono (Kd.R_far (p := ⟨gb377, 2, none⟩) (Kd.R_far (p := ⟨gb377, 1, none⟩) (Kd.R_far (p := ⟨gb377, 0, none⟩) (Kd.R_types HO372.out BK377.out (by decide)) (fun _ hk => hk.2) (.slice Ao237 t370.length co237)) (fun _ hk => hk.2) (.int .i64 t373)) (fun _ hk => hk.2) (.int .i64 t374)) (fun _ h_ => h_.1))) : p := h
theorem B8x72_ {p : Prop} (h : p := by (with_reducible repeat (first | apply Kd.R_alloc | apply Kd.R_drewN | apply Kd.R_drew)); exact (Kd.R_mono (Kd.R_far (p := ⟨gb385, 2, none⟩) (Kd.R_far (p := ⟨gb385, 1, none⟩) (Kd.R_far (p := ⟨gb385, 0, none⟩) (Kd.R_types HO351.out BK385.out (by decide)) (fun _ hk => hk.2) (.slice Ao115 t378.length co115)) (fun _ hk => hk.2) (.int .i64 t381)) (fun _ hk => hk.2) (.int .i64 t382)) (fun _ h_ => h_.1))) : p := h
theorem B8x73_ {p : Prop} (h : p := by (with_reducible repeat (first | apply Kd.R_alloc | apply Kd.R_drewN | apply Kd.R_drew)); exact (Kd.R_mono (Kd.R_far (p := ⟨gb385, 2, none⟩) (Kd.R_far (p := ⟨gb385, 1, none⟩) (Kd.R_far (p := ⟨gb385, 0, none⟩) (Kd.R_types HO351.out BK385.out (by decide)) (fun _ hk => hk.2) (.slice Ao181 t378.length co181)) (fun _ hk => hk.2) (.int .i64 t381)) (fun _ hk => hk.2) (.int .i64 t382)) (fun _ h_ => h_.1))) : p := h
theorem B8x74_ {p : Prop} (h : p := by (with_reducible repeat (first | apply Kd.R_alloc | apply Kd.R_drewN | apply Kd.R_drew)); exact (Kd.R_mono (Kd.R_far (p := ⟨gb385, 2, none⟩) (Kd.R_far (p := ⟨gb385, 1, none⟩) (Kd.R_far (p := ⟨gb385, 0, none⟩) (Kd.R_types HO351.out BK385.out (by decide)) (fun _ hk => hk.2) (.slice Ao245 t378.length co245)) (fun _ hk => hk.2) (.int .i64 t381)) (fun _ hk => hk.2) (.int .i64 t382)) (fun _ h_ => h_.1))) : p := h
theorem B8x75_ {p : Prop} (h : p := by (with_reducible repeat (first | apply Kd.R_alloc | apply Kd.R_drewN | apply Kd.R_drew)); exact (Kd.R_mono (Kd.R_far (p := ⟨gb385, 2, none⟩) (Kd.R_far (p := ⟨gb385, 1, none⟩) (Kd.R_far (p := ⟨gb385, 0, none⟩) (Kd.R_types HO358.out BK385.out (by decide)) (fun _ hk => hk.2) (.slice Ao115 t378.length co115)) (fun _ hk => hk.2) (.int .i64 t381)) (fun _ hk => hk.2) (.int .i64 t382)) (fun _ h_ => h_.1))) : p := h
theorem B8x76_ {p : Prop} (h : p := by (with_reducible repeat (first | apply Kd.R_alloc | apply Kd.R_drewN | apply Kd.R_drew)); exact (Kd.R_mono (Kd.R_far (p := ⟨gb385, 2, none⟩) (Kd.R_far (p := ⟨gb385, 1, none⟩) (Kd.R_far (p := ⟨gb385, 0, none⟩) (Kd.R_types HO358.out BK385.out (by decide)) (fun _ hk => hk.2) (.slice Ao181 t378.length co181)) (fun _ hk => hk.2) (.int .i64 t381)) (fun _ hk => hk.2) (.int .i64 t382)) (fun _ h_ => h_.1))) : p := h
theorem B8x77_ {p : Prop} (h : p := by (with_reducible repeat (first | apply Kd.R_alloc | apply Kd.R_drewN | apply Kd.R_drew)); exact (Kd.R_mono (Kd.R_far (p := ⟨gb385, 2, none⟩) (Kd.R_far (p := ⟨gb385, 1, none⟩) (Kd.R_far (p := ⟨gb385, 0, none⟩) (Kd.R_types HO358.out BK385.out (by decide)) (fun _ hk => hk.2) (.slice Ao245 t378.length co245)) (fun _ hk => hk.2) (.int .i64 t381)) (fun _ hk => hk.2) (.int .i64 t382)) (fun _ h_ => h_.1))) : p := h
theorem B8x78_ {p : Prop} (h : p := by (with_reducible repeat (first | apply Kd.R_alloc | apply Kd.R_drewN | apply Kd.R_drew)); exact (Kd.R_mono (Kd.R_far (p := ⟨gb385, 2, none⟩) (Kd.R_far (p := ⟨gb385, 1, none⟩) (Kd.R_far (p := ⟨gb385, 0, none⟩) (Kd.R_types HO365.out BK385.out (by decide)) (fun _ hk => hk.2) (.slice Ao115 t378.length co115)) (fun _ hk => hk.2) (.int .i64 t381)) (fun _ hk => hk.2) (.int .i64 t382)) (fun _ h_ => h_.1))) : p := h
theorem B8x79_ {p : Prop} (h : p := by (with_reducible repeat (first | apply Kd.R_alloc | apply Kd.R_drewN | apply Kd.R_drew)); exact (Kd.R_mono (Kd.R_far (p := ⟨gb385, 2, none⟩) (Kd.R_far (p := ⟨gb385, 1, none⟩) (Kd.R_far (p := ⟨gb385, 0, none⟩) (Kd.R_types HO365.out BK385.out (by decide)) (fun _ hk => hk.2) (.slice Ao181 t378.length co181)) (fun _ hk => hk.2) (.int .i64 t381)) (fun _ hk => hk.2) (.int .i64 t382)) (fun _ h_ => h_.1))) : p := h
theorem B8x80_ {p : Prop} (h : p := by (with_reducible repeat (first | apply Kd.R_alloc | apply Kd.R_drewN | apply Kd.R_drew)); exact (Kd.R_mono (Kd.R_far (p := ⟨gb385, 2, none⟩) (Kd.R_far (p := ⟨gb385, 1, none⟩) (Kd.R_far (p := ⟨gb385, 0, none⟩) (Kd.R_types HO365.out BK385.out (by decide)) (fun _ hk => hk.2) (.slice Ao245 t378.length co245)) (fun _ hk => hk.2) (.int .i64 t381)) (fun _ hk => hk.2) (.int .i64 t382)) (fun _ h_ => h_.1))) : p := h
theorem B8x81_ {p : Prop} (h : p := by (with_reducible repeat (first | apply Kd.R_alloc | apply Kd.R_drewN | apply Kd.R_drew)); exact (Kd.R_mono (Kd.R_far (p := ⟨gb385, 2, none⟩) (Kd.R_far (p := ⟨gb385, 1, none⟩) (Kd.R_far (p := ⟨gb385, 0, none⟩) (Kd.R_types HO372.out BK385.out (by decide)) (fun _ hk => hk.2) (.slice Ao115 t378.length co115)) (fun _ hk => hk.2) (.int .i64 t381)) (fun _ hk => hk.2) (.int .i64 t382)) (fun _ h_ => h_.1))) : p := h
theorem B8x82_ {p : Prop} (h : p := by (with_reducible repeat (first | apply Kd.R_alloc | apply Kd.R_drewN | apply Kd.R_drew)); exact (Kd.R_mono (Kd.R_far (p := ⟨gb385, 2, none⟩) (Kd.R_far (p := ⟨gb385, 1, none⟩) (Kd.R_far (p := ⟨gb385, 0, none⟩) (Kd.R_types HO372.out BK385.out (by decide)) (fun _ hk => hk.2) (.slice Ao181 t378.length co181)) (fun _ hk => hk.2) (.int .i64 t381)) (fun _ hk => hk.2) (.int .i64 t382)) (fun _ h_ => h_.1))) : p := h
theorem B8x83_ {p : Prop} (h : p := by (with_reducible repeat (first | apply Kd.R_alloc | apply Kd.R_drewN | apply Kd.R_drew)); exact (Kd.R_mono (Kd.R_far (p := ⟨gb385, 2, none⟩) (Kd.R_far (p := ⟨gb385, 1, none⟩) (Kd.R_far (p := ⟨gb385, 0, none⟩) (Kd.R_types HO372.out BK385.out (by decide)) (fun _ hk => hk.2) (.slice Ao245 t378.length co245)) (fun _ hk => hk.2) (.int .i64 t381)) (fun _ hk => hk.2) (.int .i64 t382)) (fun _ h_ => h_.1))) : p := h
theorem B8x84_ {p : Prop} (h : p := by (with_reducible repeat (first | apply Kd.R_alloc | apply Kd.R_drewN | apply Kd.R_drew)); exact (Kd.R_mono (Kd.R_far (p := ⟨gb385, 2, none⟩) (Kd.R_far (p := ⟨gb385, 1, none⟩) (Kd.R_far (p := ⟨gb385, 0, none⟩) (Kd.R_types HO380.out BK385.out (by decide)) (fun _ hk => hk.2) (.slice Ao115 t378.length co115)) (fun _ hk => hk.2) (.int .i64 t381)) (fun _ hk => hk.2) (.int .i64 t382)) (fun _ h_ => h_.1))) : p := h
theorem B8x85_ {p : Prop} (h : p := by (with_reducible repeat (first | apply Kd.R_alloc | apply Kd.R_drewN | apply Kd.R_drew)); exact (Kd.R_mono (Kd.R_far (p := ⟨gb385, 2, none⟩) (Kd.R_far (p := ⟨gb385, 1, none⟩) (Kd.R_far (p := ⟨gb385, 0, none⟩) (Kd.R_types HO380.out BK385.out (by decide)) (fun _ hk => hk.2) (.slice Ao181 t378.length co181)) (fun _ hk => hk.2) (.int .i64 t381)) (fun _ hk => hk.2) (.int .i64 t382)) (fun _ h_ => h_.1))) : p := h
theorem B8x86_ {p : Prop} (h : p := by (with_reducible repeat (first | apply Kd.R_alloc | apply Kd.R_drewN | apply Kd.R_drew)); exact (Kd.R_mono (Kd.R_far (p := ⟨gb385, 2, none⟩) (Kd.R_far (p := ⟨gb385, 1, none⟩) (Kd.R_far (p := ⟨gb385, 0, none⟩) (Kd.R_types HO380.out BK385.out (by decide)) (fun _ hk => hk.2) (.slice Ao245 t378.length co245)) (fun _ hk => hk.2) (.int .i64 t381)) (fun _ hk => hk.2) (.int .i64 t382)) (fun _ h_ => h_.1))) : p := h
theorem B8x87_ {p : Prop} (h : p := by (with_reducible repeat (first | apply Kd.R_alloc | apply Kd.R_drewN | apply Kd.R_drew)); exact (Kd.R_mono (Kd.R_far (p := ⟨gb392, 2, none⟩) (Kd.R_far (p := ⟨gb392, 1, none⟩) (Kd.R_far (p := ⟨gb392, 0, none⟩) (Kd.R_types HO351.out BK392.out (by decide)) (fun _ hk => hk.2) (.slice Ao123 t386.length co123)) (fun _ hk => hk.2) (.int .i64 t389)) (fun _ hk => hk.2) (.int .i64 t390)) (fun _ h_ => h_.1))) : p := h
theorem B8x88_ {p : Prop} (h : p := by (with_reducible repeat (first | apply Kd.R_alloc | apply Kd.R_drewN | apply Kd.R_drew)); exact (Kd.R_mono (Kd.R_far (p := ⟨gb392, 2, none⟩) (Kd.R_far (p := ⟨gb392, 1, none⟩) (Kd.R_far (p := ⟨gb392, 0, none⟩) (Kd.R_types HO351.out BK392.out (by decide)) (fun _ hk => hk.2) (.slice Ao189 t386.length co189)) (fun _ hk => hk.2) (.int .i64 t389)) (fun _ hk => hk.2) (.int .i64 t390)) (fun _ h_ => h_.1))) : p := h
theorem B8x89_ {p : Prop} (h : p := by (with_reducible repeat (first | apply Kd.R_alloc | apply Kd.R_drewN | apply Kd.R_drew)); exact (Kd.R_mono (Kd.R_far (p := ⟨gb392, 2, none⟩) (Kd.R_far (p := ⟨gb392, 1, none⟩) (Kd.R_far (p := ⟨gb392, 0, none⟩) (Kd.R_types HO351.out BK392.out (by decide)) (fun _ hk => hk.2) (.slice Ao253 t386.length co253)) (fun _ hk => hk.2) (.int .i64 t389)) (fun _ hk => hk.2) (.int .i64 t390)) (fun _ h_ => h_.1))) : p := h
theorem B8x90_ {p : Prop} (h : p := by (with_reducible repeat (first | apply Kd.R_alloc | apply Kd.R_drewN | apply Kd.R_drew)); exact (Kd.R_mono (Kd.R_far (p := ⟨gb392, 2, none⟩) (Kd.R_far (p := ⟨gb392, 1, none⟩) (Kd.R_far (p := ⟨gb392, 0, none⟩) (Kd.R_types HO358.out BK392.out (by decide)) (fun _ hk => hk.2) (.slice Ao123 t386.length co123)) (fun _ hk => hk.2) (.int .i64 t389)) (fun _ hk => hk.2) (.int .i64 t390)) (fun _ h_ => h_.1))) : p := h
theorem B8x91_ {p : Prop} (h : p := by (with_reducible repeat (first | apply Kd.R_alloc | apply Kd.R_drewN | apply Kd.R_drew)); exact (Kd.R_mono (Kd.R_far (p := ⟨gb392, 2, none⟩) (Kd.R_far (p := ⟨gb392, 1, none⟩) (Kd.R_far (p := ⟨gb392, 0, none⟩) (Kd.R_types HO358.out BK392.out (by decide)) (fun _ hk => hk.2) (.slice Ao189 t386.length co189)) (fun _ hk => hk.2) (.int .i64 t389)) (fun _ hk => hk.2) (.int .i64 t390)) (fun _ h_ => h_.1))) : p := h
theorem B8x92_ {p : Prop} (h : p := by (with_reducible repeat (first | apply Kd.R_alloc | apply Kd.R_drewN | apply Kd.R_drew)); exact (Kd.R_mono (Kd.R_far (p := ⟨gb392, 2, none⟩) (Kd.R_far (p := ⟨gb392, 1, none⟩) (Kd.R_far (p := ⟨gb392, 0, none⟩) (Kd.R_types HO358.out BK392.out (by decide)) (fun _ hk => hk.2) (.slice Ao253 t386.length co253)) (fun _ hk => hk.2) (.int .i64 t389)) (fun _ hk => hk.2) (.int .i64 t390)) (fun _ h_ => h_.1))) : p := h
theorem B8x93_ {p : Prop} (h : p := by (with_reducible repeat (first | apply Kd.R_alloc | apply Kd.R_drewN | apply Kd.R_drew)); exact (Kd.R_mono (Kd.R_far (p := ⟨gb392, 2, none⟩) (Kd.R_far (p := ⟨gb392, 1, none⟩) (Kd.R_far (p := ⟨gb392, 0, none⟩) (Kd.R_types HO365.out BK392.out (by decide)) (fun _ hk => hk.2) (.slice Ao123 t386.length co123)) (fun _ hk => hk.2) (.int .i64 t389)) (fun _ hk => hk.2) (.int .i64 t390)) (fun _ h_ => h_.1))) : p := h
theorem B8x94_ {p : Prop} (h : p := by (with_reducible repeat (first | apply Kd.R_alloc | apply Kd.R_drewN | apply Kd.R_drew)); exact (Kd.R_mono (Kd.R_far (p := ⟨gb392, 2, none⟩) (Kd.R_far (p := ⟨gb392, 1, none⟩) (Kd.R_far (p := ⟨gb392, 0, none⟩) (Kd.R_types HO365.out BK392.out (by decide)) (fun _ hk => hk.2) (.slice Ao189 t386.length co189)) (fun _ hk => hk.2) (.int .i64 t389)) (fun _ hk => hk.2) (.int .i64 t390)) (fun _ h_ => h_.1))) : p := h
theorem B8x95_ {p : Prop} (h : p := by (with_reducible repeat (first | apply Kd.R_alloc | apply Kd.R_drewN | apply Kd.R_drew)); exact (Kd.R_mono (Kd.R_far (p := ⟨gb392, 2, none⟩) (Kd.R_far (p := ⟨gb392, 1, none⟩) (Kd.R_far (p := ⟨gb392, 0, none⟩) (Kd.R_types HO365.out BK392.out (by decide)) (fun _ hk => hk.2) (.slice Ao253 t386.length co253)) (fun _ hk => hk.2) (.int .i64 t389)) (fun _ hk => hk.2) (.int .i64 t390)) (fun _ h_ => h_.1))) : p := h
theorem B8x96_ {p : Prop} (h : p := by (with_reducible repeat (first | apply Kd.R_alloc | apply Kd.R_drewN | apply Kd.R_drew)); exact (Kd.R_mono (Kd.R_far (p := ⟨gb392, 2, none⟩) (Kd.R_far (p := ⟨gb392, 1, none⟩) (Kd.R_far (p := ⟨gb392, 0, none⟩) (Kd.R_types HO372.out BK392.out (by decide)) (fun _ hk => hk.2) (.slice Ao123 t386.length co123)) (fun _ hk => hk.2) (.int .i64 t389)) (fun _ hk => hk.2) (.int .i64 t390)) (fun _ h_ => h_.1))) : p := h
theorem B8x97_ {p : Prop} (h : p := by (with_reducible repeat (first | apply Kd.R_alloc | apply Kd.R_drewN | apply Kd.R_drew)); exact (Kd.R_mono (Kd.R_far (p := ⟨gb392, 2, none⟩) (Kd.R_far (p := ⟨gb392, 1, none⟩) (Kd.R_far (p := ⟨gb392, 0, none⟩) (Kd.R_types HO372.out BK392.out (by decide)) (fun _ hk => hk.2) (.slice Ao189 t386.length co189)) (fun _ hk => hk.2) (.int .i64 t389)) (fun _ hk => hk.2) (.int .i64 t390)) (fun _ h_ => h_.1))) : p := h
theorem B8x98_ {p : Prop} (h : p := by (with_reducible repeat (first | apply Kd.R_alloc | apply Kd.R_drewN | apply Kd.R_drew)); exact (Kd.R_mono (Kd.R_far (p := ⟨gb392, 2, none⟩) (Kd.R_far (p := ⟨gb392, 1, none⟩) (Kd.R_far (p := ⟨gb392, 0, none⟩) (Kd.R_types HO372.out BK392.out (by decide)) (fun _ hk => hk.2) (.slice Ao253 t386.length co253)) (fun _ hk => hk.2) (.int .i64 t389)) (fun _ hk => hk.2) (.int .i64 t390)) (fun _ h_ => h_.1))) : p := h
theorem B8x99_ {p : Prop} (h : p := by (with_reducible repeat (first | apply Kd.R_alloc | apply Kd.R_drewN | apply Kd.R_drew)); exact (Kd.R_mono (Kd.R_far (p := ⟨gb392, 2, none⟩) (Kd.R_far (p := ⟨gb392, 1, none⟩) (Kd.R_far (p := ⟨gb392, 0, none⟩) (Kd.R_types HO380.out BK392.out (by decide)) (fun _ hk => hk.2) (.slice Ao123 t386.length co123)) (fun _ hk => hk.2) (.int .i64 t389)) (fun _ hk => hk.2) (.int .i64 t390)) (fun _ h_ => h_.1))) : p := h
theorem B8x100_ {p : Prop} (h : p := by (with_reducible repeat (first | apply Kd.R_alloc | apply Kd.R_drewN | apply Kd.R_drew)); exact (Kd.R_mono (Kd.R_far (p := ⟨gb392, 2, none⟩) (Kd.R_far (p := ⟨gb392, 1, none⟩) (Kd.R_far (p := ⟨gb392, 0, none⟩) (Kd.R_types HO380.out BK392.out (by decide)) (fun _ hk => hk.2) (.slice Ao189 t386.length co189)) (fun _ hk => hk.2) (.int .i64 t389)) (fun _ hk => hk.2) (.int .i64 t390)) (fun _ h_ => h_.1))) : p := h
theorem B8x101_ {p : Prop} (h : p := by (with_reducible repeat (first | apply Kd.R_alloc | apply Kd.R_drewN | apply Kd.R_drew)); exact (Kd.R_mono (Kd.R_far (p := ⟨gb392, 2, none⟩) (Kd.R_far (p := ⟨gb392, 1, none⟩) (Kd.R_far (p := ⟨gb392, 0, none⟩) (Kd.R_types HO380.out BK392.out (by decide)) (fun _ hk => hk.2) (.slice Ao253 t386.length co253)) (fun _ hk => hk.2) (.int .i64 t389)) (fun _ hk => hk.2) (.int .i64 t390)) (fun _ h_ => h_.1))) : p := h
theorem B8x102_ {p : Prop} (h : p := by (with_reducible repeat (first | apply Kd.R_alloc | apply Kd.R_drewN | apply Kd.R_drew)); exact (Kd.R_mono (Kd.R_far (p := ⟨gb392, 2, none⟩) (Kd.R_far (p := ⟨gb392, 1, none⟩) (Kd.R_far (p := ⟨gb392, 0, none⟩) (Kd.R_types HO388.out BK392.out (by decide)) (fun _ hk => hk.2) (.slice Ao123 t386.length co123)) (fun _ hk => hk.2) (.int .i64 t389)) (fun _ hk => hk.2) (.int .i64 t390)) (fun _ h_ => h_.1))) : p := h
theorem B8x103_ {p : Prop} (h : p := by (with_reducible repeat (first | apply Kd.R_alloc | apply Kd.R_drewN | apply Kd.R_drew)); exact (Kd.R_mono (Kd.R_far (p := ⟨gb392, 2, none⟩) (Kd.R_far (p := ⟨gb392, 1, none⟩) (Kd.R_far (p := ⟨gb392, 0, none⟩) (Kd.R_types HO388.out BK392.out (by decide)) (fun _ hk => hk.2) (.slice Ao189 t386.length co189)) (fun _ hk => hk.2) (.int .i64 t389)) (fun _ hk => hk.2) (.int .i64 t390)) (fun _ h_ => h_.1))) : p := h
theorem B8x104_ {p : Prop} (h : p := by (with_reducible repeat (first | apply Kd.R_alloc | apply Kd.R_drewN | apply Kd.R_drew)); exact (Kd.R_mono (Kd.R_far (p := ⟨gb392, 2, none⟩) (Kd.R_far (p := ⟨gb392, 1, none⟩) (Kd.R_far (p := ⟨gb392, 0, none⟩) (Kd.R_types HO388.out BK392.out (by decide)) (fun _ hk => hk.2) (.slice Ao253 t386.length co253)) (fun _ hk => hk.2) (.int .i64 t389)) (fun _ hk => hk.2) (.int .i64 t390)) (fun _ h_ => h_.1))) : p := h
theorem B8x105_ {p : Prop} (h : p := by (with_reducible repeat (first | apply Kd.R_alloc | apply Kd.R_drewN | apply Kd.R_drew)); exact (Kd.R_mono (Kd.R_far (p := ⟨gb362, 2, none⟩) (Kd.R_far (p := ⟨gb362, 1, none⟩) (Kd.R_far (p := ⟨gb362, 0, none⟩) (Kd.R_types HO358.out BK362.out (by decide)) (fun _ hk => hk.2) (.slice Ao30 t356.length co30)) (fun _ hk => hk.2) (.int .i64 t359)) (fun _ hk => hk.2) (.int .i64 t360)) (fun _ h_ => h_.1))) : p := h
theorem B8x106_ {p : Prop} (h : p := by (with_reducible repeat (first | apply Kd.R_alloc | apply Kd.R_drewN | apply Kd.R_drew)); exact (Kd.R_mono (Kd.R_far (p := ⟨gb362, 2, none⟩) (Kd.R_far (p := ⟨gb362, 1, none⟩) (Kd.R_far (p := ⟨gb362, 0, none⟩) (Kd.R_types HO358.out BK362.out (by decide)) (fun _ hk => hk.2) (.slice Ao94 t356.length co94)) (fun _ hk => hk.2) (.int .i64 t359)) (fun _ hk => hk.2) (.int .i64 t360)) (fun _ h_ => h_.1))) : p := h
theorem B8x107_ {p : Prop} (h : p := by (with_reducible repeat (first | apply Kd.R_alloc | apply Kd.R_drewN | apply Kd.R_drew)); exact (Kd.R_mono (Kd.R_far (p := ⟨gb369, 2, none⟩) (Kd.R_far (p := ⟨gb369, 1, none⟩) (Kd.R_far (p := ⟨gb369, 0, none⟩) (Kd.R_types HO358.out BK369.out (by decide)) (fun _ hk => hk.2) (.slice Ao36 t363.length co36)) (fun _ hk => hk.2) (.int .i64 t366)) (fun _ hk => hk.2) (.int .i64 t367)) (fun _ h_ => h_.1))) : p := h
theorem B8x108_ {p : Prop} (h : p := by (with_reducible repeat (first | apply Kd.R_alloc | apply Kd.R_drewN | apply Kd.R_drew)); exact (Kd.R_mono (Kd.R_far (p := ⟨gb369, 2, none⟩) (Kd.R_far (p := ⟨gb369, 1, none⟩) (Kd.R_far (p := ⟨gb369, 0, none⟩) (Kd.R_types HO365.out BK369.out (by decide)) (fun _ hk => hk.2) (.slice Ao36 t363.length co36)) (fun _ hk => hk.2) (.int .i64 t366)) (fun _ hk => hk.2) (.int .i64 t367)) (fun _ h_ => h_.1))) : p := h
theorem B8x109_ {p : Prop} (h : p := by (with_reducible repeat (first | apply Kd.R_alloc | apply Kd.R_drewN | apply Kd.R_drew)); exact (Kd.R_mono (Kd.R_far (p := ⟨gb377, 2, none⟩) (Kd.R_far (p := ⟨gb377, 1, none⟩) (Kd.R_far (p := ⟨gb377, 0, none⟩) (Kd.R_types HO358.out BK377.out (by decide)) (fun _ hk => hk.2) (.slice Ao43 t370.length co43)) (fun _ hk => hk.2) (.int .i64 t373)) (fun _ hk => hk.2) (.int .i64 t374)) (fun _ h_ => h_.1))) : p := h
theorem B8x110_ {p : Prop} (h : p := by (with_reducible repeat (first | apply Kd.R_alloc | apply Kd.R_drewN | apply Kd.R_drew)); exact (Kd.R_mono (Kd.R_far (p := ⟨gb377, 2, none⟩) (Kd.R_far (p := ⟨gb377, 1, none⟩) (Kd.R_far (p := ⟨gb377, 0, none⟩) (Kd.R_types HO365.out BK377.out (by decide)) (fun _ hk => hk.2) (.slice Ao43 t370.length co43)) (fun _ hk => hk.2) (.int .i64 t373)) (fun _ hk => hk.2) (.int .i64 t374)) (fun _ h_ => h_.1))) : p := h
theorem B8x111_ {p : Prop} (h : p := by (with_reducible repeat (first | apply Kd.R_alloc | apply Kd.R_drewN | apply Kd.R_drew)); exact (Kd.R_mono (Kd.R_far (p := ⟨gb377, 2, none⟩) (Kd.R_far (p := ⟨gb377, 1, none⟩) (Kd.R_far (p := ⟨gb377, 0, none⟩) (Kd.R_types HO372.out BK377.out (by decide)) (fun _ hk => hk.2) (.slice Ao43 t370.length co43)) (fun _ hk => hk.2) (.int .i64 t373)) (fun _ hk => hk.2) (.int .i64 t374)) (fun _ h_ => h_.1))) : p := h
theorem B8x112_ {p : Prop} (h : p := by (with_reducible repeat (first | apply Kd.R_alloc | apply Kd.R_drewN | apply Kd.R_drew)); exact (Kd.R_mono (Kd.R_far (p := ⟨gb385, 2, none⟩) (Kd.R_far (p := ⟨gb385, 1, none⟩) (Kd.R_far (p := ⟨gb385, 0, none⟩) (Kd.R_types HO351.out BK385.out (by decide)) (fun _ hk => hk.2) (.slice Ao51 t378.length co51)) (fun _ hk => hk.2) (.int .i64 t381)) (fun _ hk => hk.2) (.int .i64 t382)) (fun _ h_ => h_.1))) : p := h
theorem B8x113_ {p : Prop} (h : p := by (with_reducible repeat (first | apply Kd.R_alloc | apply Kd.R_drewN | apply Kd.R_drew)); exact (Kd.R_mono (Kd.R_far (p := ⟨gb385, 2, none⟩) (Kd.R_far (p := ⟨gb385, 1, none⟩) (Kd.R_far (p := ⟨gb385, 0, none⟩) (Kd.R_types HO358.out BK385.out (by decide)) (fun _ hk => hk.2) (.slice Ao51 t378.length co51)) (fun _ hk => hk.2) (.int .i64 t381)) (fun _ hk => hk.2) (.int .i64 t382)) (fun _ h_ => h_.1))) : p := h
theorem B8x114_ {p : Prop} (h : p := by (with_reducible repeat (first | apply Kd.R_alloc | apply Kd.R_drewN | apply Kd.R_drew)); exact (Kd.R_mono (Kd.R_far (p := ⟨gb385, 2, none⟩) (Kd.R_far (p := ⟨gb385, 1, none⟩) (Kd.R_far (p := ⟨gb385, 0, none⟩) (Kd.R_types HO365.out BK385.out (by decide)) (fun _ hk => hk.2) (.slice Ao51 t378.length co51)) (fun _ hk => hk.2) (.int .i64 t381)) (fun _ hk => hk.2) (.int .i64 t382)) (fun _ h_ => h_.1))) : p := h
theorem B8x115_ {p : Prop} (h : p := by (with_reducible repeat (first | apply Kd.R_alloc | apply Kd.R_drewN | apply Kd.R_drew)); exact (Kd.R_mono (Kd.R_far (p := ⟨gb385, 2, none⟩) (Kd.R_far (p := ⟨gb385, 1, none⟩) (Kd.R_far (p := ⟨gb385, 0, none⟩) (Kd.R_types HO372.out BK385.out (by decide)) (fun _ hk => hk.2) (.slice Ao51 t378.length co51)) (fun _ hk => hk.2) (.int .i64 t381)) (fun _ hk => hk.2) (.int .i64 t382)) (fun _ h_ => h_.1))) : p := h
theorem B8x116_ {p : Prop} (h : p := by (with_reducible repeat (first | apply Kd.R_alloc | apply Kd.R_drewN | apply Kd.R_drew)); exact (Kd.R_mono (Kd.R_far (p := ⟨gb385, 2, none⟩) (Kd.R_far (p := ⟨gb385, 1, none⟩) (Kd.R_far (p := ⟨gb385, 0, none⟩) (Kd.R_types HO380.out BK385.out (by decide)) (fun _ hk => hk.2) (.slice Ao51 t378.length co51)) (fun _ hk => hk.2) (.int .i64 t381)) (fun _ hk => hk.2) (.int .i64 t382)) (fun _ h_ => h_.1))) : p := h
theorem B8x117_ {p : Prop} (h : p := by (with_reducible repeat (first | apply Kd.R_alloc | apply Kd.R_drewN | apply Kd.R_drew)); exact (Kd.R_mono (Kd.R_far (p := ⟨gb392, 2, none⟩) (Kd.R_far (p := ⟨gb392, 1, none⟩) (Kd.R_far (p := ⟨gb392, 0, none⟩) (Kd.R_types HO351.out BK392.out (by decide)) (fun _ hk => hk.2) (.slice Ao59 t386.length co59)) (fun _ hk => hk.2) (.int .i64 t389)) (fun _ hk => hk.2) (.int .i64 t390)) (fun _ h_ => h_.1))) : p := h
theorem B8x118_ {p : Prop} (h : p := by (with_reducible repeat (first | apply Kd.R_alloc | apply Kd.R_drewN | apply Kd.R_drew)); exact (Kd.R_mono (Kd.R_far (p := ⟨gb392, 2, none⟩) (Kd.R_far (p := ⟨gb392, 1, none⟩) (Kd.R_far (p := ⟨gb392, 0, none⟩) (Kd.R_types HO358.out BK392.out (by decide)) (fun _ hk => hk.2) (.slice Ao59 t386.length co59)) (fun _ hk => hk.2) (.int .i64 t389)) (fun _ hk => hk.2) (.int .i64 t390)) (fun _ h_ => h_.1))) : p := h
theorem B8x119_ {p : Prop} (h : p := by (with_reducible repeat (first | apply Kd.R_alloc | apply Kd.R_drewN | apply Kd.R_drew)); exact (Kd.R_mono (Kd.R_far (p := ⟨gb392, 2, none⟩) (Kd.R_far (p := ⟨gb392, 1, none⟩) (Kd.R_far (p := ⟨gb392, 0, none⟩) (Kd.R_types HO365.out BK392.out (by decide)) (fun _ hk => hk.2) (.slice Ao59 t386.length co59)) (fun _ hk => hk.2) (.int .i64 t389)) (fun _ hk => hk.2) (.int .i64 t390)) (fun _ h_ => h_.1))) : p := h
theorem B8x120_ {p : Prop} (h : p := by (with_reducible repeat (first | apply Kd.R_alloc | apply Kd.R_drewN | apply Kd.R_drew)); exact (Kd.R_mono (Kd.R_far (p := ⟨gb392, 2, none⟩) (Kd.R_far (p := ⟨gb392, 1, none⟩) (Kd.R_far (p := ⟨gb392, 0, none⟩) (Kd.R_types HO372.out BK392.out (by decide)) (fun _ hk => hk.2) (.slice Ao59 t386.length co59)) (fun _ hk => hk.2) (.int .i64 t389)) (fun _ hk => hk.2) (.int .i64 t390)) (fun _ h_ => h_.1))) : p := h
theorem B8x121_ {p : Prop} (h : p := by (with_reducible repeat (first | apply Kd.R_alloc | apply Kd.R_drewN | apply Kd.R_drew)); exact (Kd.R_mono (Kd.R_far (p := ⟨gb392, 2, none⟩) (Kd.R_far (p := ⟨gb392, 1, none⟩) (Kd.R_far (p := ⟨gb392, 0, none⟩) (Kd.R_types HO380.out BK392.out (by decide)) (fun _ hk => hk.2) (.slice Ao59 t386.length co59)) (fun _ hk => hk.2) (.int .i64 t389)) (fun _ hk => hk.2) (.int .i64 t390)) (fun _ h_ => h_.1))) : p := h
theorem B8x122_ {p : Prop} (h : p := by (with_reducible repeat (first | apply Kd.R_alloc | apply Kd.R_drewN | apply Kd.R_drew)); exact (Kd.R_mono (Kd.R_far (p := ⟨gb392, 2, none⟩) (Kd.R_far (p := ⟨gb392, 1, none⟩) (Kd.R_far (p := ⟨gb392, 0, none⟩) (Kd.R_types HO388.out BK392.out (by decide)) (fun _ hk => hk.2) (.slice Ao59 t386.length co59)) (fun _ hk => hk.2) (.int .i64 t389)) (fun _ hk => hk.2) (.int .i64 t390)) (fun _ h_ => h_.1))) : p := h
/-! ### laws_FnRingsTold: function 5 -/
def laws_FnRingsTold.f (k : Nat) (l0 : List Int) : Option (Bool) := (laws_big.f l0).bind fun t348 => (if t348 = true then (some true) else ((spec_DrawPostRing.f k l0).bind fun bt349 => ((impl_PostRing.f k bt349.1 bt349.2.1 bt349.2.2.1 bt349.2.2.2).bind fun bt356 => ((spec_PostRing.f k bt349.1 bt349.2.1 bt349.2.2.1 bt349.2.2.2).bind fun bt363 => ((impl_TakeRing.f k bt349.1 bt349.2.1 bt349.2.2.1).bind fun bt370 => ((spec_TakeRing.f k bt349.1 bt349.2.1 bt349.2.2.1).bind fun bt378 => ((impl_RingNew.f 3).bind fun bt386 => ((impl_RingNew.f 9).bind fun bt393 => ((impl_RingOk.f k bt349.1 bt349.2.1 bt349.2.2.1).bind fun t400 => ((spec_RingOk.f k bt349.1 bt349.2.1 bt349.2.2.1).bind fun t401 => (if (t400 == t401) = true then (if (bt356.2.2.2 == bt363.2.2.2) = true then (if (bt370.2.2.2.2 == bt378.2.2.2.2) = true then (if bt370.2.2.2.1.toList = bt378.2.2.2.1.toList then (if bt356.2.2.2 = true then (if bt370.2.2.2.2 = true then (if bt386.2.2.2 = true then (if bt393.2.2.2 = true then (some false) else (if (bt386.1.length : Int) = 3 then ((impl_HeldBy.f k bt349.1 bt349.2.1 bt349.2.2.1).bind fun t402 => ((spec_HeldBy.f k bt349.1 bt349.2.1 bt349.2.2.1).bind fun t403 => (some (t402 == t403)))) else (some false))) else (some false)) else (if bt370.2.2.1 = bt349.2.2.1 then (if bt386.2.2.2 = true then (if bt393.2.2.2 = true then (some false) else (if (bt386.1.length : Int) = 3 then ((impl_HeldBy.f k bt349.1 bt349.2.1 bt349.2.2.1).bind fun t404 => ((spec_HeldBy.f k bt349.1 bt349.2.1 bt349.2.2.1).bind fun t405 => (some (t404 == t405)))) else (some false))) else (some false)) else (some false))) else (if (bt356.1.length : Int) = (bt349.1.length : Int) then (if bt356.2.1 = bt349.2.1 then (if bt370.2.2.2.2 = true then (if bt386.2.2.2 = true then (if bt393.2.2.2 = true then (some false) else (if (bt386.1.length : Int) = 3 then ((impl_HeldBy.f k bt349.1 bt349.2.1 bt349.2.2.1).bind fun t406 => ((spec_HeldBy.f k bt349.1 bt349.2.1 bt349.2.2.1).bind fun t407 => (some (t406 == t407)))) else (some false))) else (some false)) else (if bt370.2.2.1 = bt349.2.2.1 then (if bt386.2.2.2 = true then (if bt393.2.2.2 = true then (some false) else (if (bt386.1.length : Int) = 3 then ((impl_HeldBy.f k bt349.1 bt349.2.1 bt349.2.2.1).bind fun t408 => ((spec_HeldBy.f k bt349.1 bt349.2.1 bt349.2.2.1).bind fun t409 => (some (t408 == t409)))) else (some false))) else (some false)) else (some false))) else (some false)) else (some false))) else (some false)) else (some false)) else (some false)) else (some false))))))))))))
theorem laws_FnRingsTold.mono : ∀ a0 k, LeO (laws_FnRingsTold.f k a0) (laws_FnRingsTold.f (k + 1) a0) := by
 intro a0 k
 unfold laws_FnRingsTold.f
 repeat' first
   | (with_reducible exact impl_HeldBy.mono _ _ _ _)
   | (with_reducible exact impl_PostRing.mono _ _ _ _ _)
   | (with_reducible exact impl_RingOk.mono _ _ _ _)
   | (with_reducible exact impl_TakeRing.mono _ _ _ _)
   | (with_reducible exact spec_DrawPostRing.mono _ _)
   | (with_reducible exact spec_HeldBy.mono _ _ _ _)
   | (with_reducible exact spec_PostRing.mono _ _ _ _ _)
   | (with_reducible exact spec_RingOk.mono _ _ _ _)
   | (with_reducible exact spec_TakeRing.mono _ _ _ _)
   | (with_reducible exact LeO.refl _)
   | (with_reducible exact LeO.none _)
   | (with_reducible refine LeO.ite ?_ ?_)
   | (with_reducible refine LeO.bind ?_ (fun _ => ?_))
   | exact impl_HeldBy.mono _ _ _ _
   | exact impl_PostRing.mono _ _ _ _ _
   | exact impl_RingOk.mono _ _ _ _
   | exact impl_TakeRing.mono _ _ _ _
   | exact spec_DrawPostRing.mono _ _
   | exact spec_HeldBy.mono _ _ _ _
   | exact spec_PostRing.mono _ _ _ _ _
   | exact spec_RingOk.mono _ _ _ _
   | exact spec_TakeRing.mono _ _ _ _
   | exact LeO.none _
   | refine LeO.ite ?_ ?_
   | refine LeO.bind ?_ (fun _ => ?_)
def laws_FnRingsTold.T10 : Bool × List (List Nat × List Nat) := (true, [([], []), ([0], [0]), ([], []), ([2, 1], [2]), ([1, 3], [1, 3]), ([4, 3], [4]), ([5], [5]), ([5], [5]), ([6, 7, 5], [5, 6, 7]), ([5, 8], [5, 8]), ([9, 5], [9]), ([10], [10]), ([10], [10]), ([11, 12, 10], [10, 11, 12]), ([10, 13], [10, 13]), ([14, 10], [14]), ([15], [15]), ([15], [15]), ([16, 17, 15], [15, 16, 17]), ([15, 18], [15, 18]), ([19, 15], [19]), ([20], [20]), ([21, 20, 20], [20, 21]), ([22], [22]), ([23, 22], [22, 23]), ([24, 22], [22, 24]), ([22], [22]), ([26, 22], [22, 26]), ([27, 22], [22, 27]), ([25, 28, 22], [22, 25, 28]), ([29, 22, 22], [22, 29]), ([30], [30]), ([31, 30], [30, 31]), ([30], [30]), ([33, 30], [30, 33]), ([32, 34, 30], [30, 32, 34]), ([30, 35, 22], [22, 30, 35]), ([22, 36, 20], [20, 22, 36]), ([20, 37], [20, 37]), ([38, 30], [38]), ([39], [39]), ([40, 39, 39], [39, 40]), ([41], [41]), ([42, 41], [41, 42]), ([41], [41]), ([44, 41], [41, 44]), ([43, 45, 41], [41, 43, 45]), ([41, 46, 39], [39, 41, 46]), ([39, 47], [39, 47]), ([48, 41], [48]), ([49], [49]), ([49, 50], [49, 50]), ([51, 49], [51]), ([52], [52]), ([53, 52], [52, 53]), ([52, 54], [52, 54]), ([55, 52], [55]), ([56], [56]), ([57, 56], [56, 57]), ([58, 56], [56, 58]), ([59, 56], [56, 59]), ([56, 60], [56, 60]), ([61, 56], [61]), ([62], [62]), ([63, 62, 62], [62, 63]), ([62], [62]), ([65, 64, 62], [62, 65]), ([64, 66, 62], [62, 64, 66]), ([62, 67], [62, 67]), ([68, 66, 0, 1, 2, 3, 4, 5, 6, 7, 8, 9, 10, 11, 12, 13, 14, 15, 16, 17, 18, 19, 20, 21, 22, 23, 24, 25, 26, 27, 28, 29, 30, 31, 32, 33, 34, 35, 36, 37, 38, 39, 40, 41, 42, 43, 44, 45, 46, 47, 48, 49, 50, 51, 52, 53, 54, 55, 56, 57, 58, 59, 60, 61, 62, 63, 64, 65, 66, 67, 68], [68])])
def laws_FnRingsTold.B10 : List Nat := [0, 1, 0, 7, 15, 31, 63, 63, 255, 511, 1023, 2047, 2047, 8191, 16383, 32767, 65535, 65535, 262143, 524287, 1048575, 2097151, 4194303, 8388607, 16777215, 33554431, 8388607, 75497471, 209715199, 536870911, 1073741823, 2147483647, 4294967295, 2147483647, 10737418239, 34359738367, 68719476735, 137438953471, 274877906943, 549755813887, 1099511627775, 2199023255551, 4398046511103, 8796093022207, 4398046511103, 21990232555519, 70368744177663, 140737488355327, 281474976710655, 562949953421311, 1125899906842623, 2251799813685247, 4503599627370495, 9007199254740991, 18014398509481983, 36028797018963967, 72057594037927935, 144115188075855871, 288230376151711743, 576460752303423487, 1152921504606846975, 2305843009213693951, 4611686018427387903, 9223372036854775807, 18446744073709551615, 9223372036854775807, 73786976294838206463, 147573952589676412927, 295147905179352825855, 590295810358705651711]
theorem laws_FnRingsTold.tab10 : rtab .any (opsOf Try.f5 10) = laws_FnRingsTold.T10 := by kernel_rfl
theorem laws_FnRingsTold.bits10 : waitsOk laws_FnRingsTold.T10.2 laws_FnRingsTold.B10 = true := by kernel_rfl
set_option maxHeartbeats 8000000 in
set_option maxRecDepth 100000 in
theorem laws_FnRingsTold.callsA (k : Nat) (A0 : Option Addr) (c0 : Nat) (l0 : List Int) (r : Bool) (w : World) (hr0 : Kd.C (Kd.int .u8) w A0 l0.length l0) (hc0 : l0.length ≤ c0) (h : laws_FnRingsTold.f k l0 = some r) (hr_ : Aside0 (r = true)) (hs : Aside0 (∀ t349 t352 t353 t354 t356 t359 t360 t361, spec_DrawPostRing.f k l0 = some (t349, t352, t353, t354) → impl_PostRing.f k t349 t352 t353 t354 = some (t356, t359, t360, t361) → t361 = true)) :
  Calls Try.prog 5 #[.slice A0 l0.length c0] w fun e w' => e = .returned (.bool r) ∧ Below w.heap.size w w' := by
 have hu45 := Try.underlying45
 have HR0 := Aside0.mk hr0
 have HC0 := Aside0.mk hc0
 clear hr0 hc0
 have HB := Aside0.mk (Below.refl w.heap.size w)
 have H : ((laws_big.f l0).bind fun t348 => (if t348 = true then (some true) else ((spec_DrawPostRing.f k l0).bind fun bt349 => ((impl_PostRing.f k bt349.1 bt349.2.1 bt349.2.2.1 bt349.2.2.2).bind fun bt356 => ((spec_PostRing.f k bt349.1 bt349.2.1 bt349.2.2.1 bt349.2.2.2).bind fun bt363 => ((impl_TakeRing.f k bt349.1 bt349.2.1 bt349.2.2.1).bind fun bt370 => ((spec_TakeRing.f k bt349.1 bt349.2.1 bt349.2.2.1).bind fun bt378 => ((impl_RingNew.f 3).bind fun bt386 => ((impl_RingNew.f 9).bind fun bt393 => ((impl_RingOk.f k bt349.1 bt349.2.1 bt349.2.2.1).bind fun t400 => ((spec_RingOk.f k bt349.1 bt349.2.1 bt349.2.2.1).bind fun t401 => (if (t400 == t401) = true then (if (bt356.2.2.2 == bt363.2.2.2) = true then (if (bt370.2.2.2.2 == bt378.2.2.2.2) = true then (if bt370.2.2.2.1.toList = bt378.2.2.2.1.toList then (if bt356.2.2.2 = true then (if bt370.2.2.2.2 = true then (if bt386.2.2.2 = true then (if bt393.2.2.2 = true then (some false) else (if (bt386.1.length : Int) = 3 then ((impl_HeldBy.f k bt349.1 bt349.2.1 bt349.2.2.1).bind fun t402 => ((spec_HeldBy.f k bt349.1 bt349.2.1 bt349.2.2.1).bind fun t403 => (some (t402 == t403)))) else (some false))) else (some false)) else (if bt370.2.2.1 = bt349.2.2.1 then (if bt386.2.2.2 = true then (if bt393.2.2.2 = true then (some false) else (if (bt386.1.length : Int) = 3 then ((impl_HeldBy.f k bt349.1 bt349.2.1 bt349.2.2.1).bind fun t404 => ((spec_HeldBy.f k bt349.1 bt349.2.1 bt349.2.2.1).bind fun t405 => (some (t404 == t405)))) else (some false))) else (some false)) else (some false))) else (if (bt356.1.length : Int) = (bt349.1.length : Int) then (if bt356.2.1 = bt349.2.1 then (if bt370.2.2.2.2 = true then (if bt386.2.2.2 = true then (if bt393.2.2.2 = true then (some false) else (if (bt386.1.length : Int) = 3 then ((impl_HeldBy.f k bt349.1 bt349.2.1 bt349.2.2.1).bind fun t406 => ((spec_HeldBy.f k bt349.1 bt349.2.1 bt349.2.2.1).bind fun t407 => (some (t406 == t407)))) else (some false))) else (some false)) else (if bt370.2.2.1 = bt349.2.2.1 then (if bt386.2.2.2 = true then (if bt393.2.2.2 = true then (some false) else (if (bt386.1.length : Int) = 3 then ((impl_HeldBy.f k bt349.1 bt349.2.1 bt349.2.2.1).bind fun t408 => ((spec_HeldBy.f k bt349.1 bt349.2.1 bt349.2.2.1).bind fun t409 => (some (t408 == t409)))) else (some false))) else (some false)) else (some false))) else (some false)) else (some false))) else (some false)) else (some false)) else (some false)) else (some false))))))))))))) = some r := h
 clear h
 replace H := Option.bind_eq_some_iff.mp H
 obtain ⟨t348, A20, H⟩ := H
 (try dsimp only at H)
 have A2 := Aside0.mk A20
 clear A20
 by_cases c3 : t348 = true
 ·subst c3
  rw [if_pos rfl] at H
  obtain rfl := Option.some.inj H
  go_enter Try.func5, Try.ntmps5
  go_wp2_with (first | ((with_reducible refine gate_callee (f := 23) rfl ?_); refine goesL_ (some 20) rfl rfl Try.func23 B8x54_ rfl #[.slice A0 l0.length c0] rfl B8x3_ ?_; (with_reducible refine (laws_big.calls _ _ l0 true _ ?side1 ?side2 A2.out).mono ?_); (case side1 => repeat (first | exact HR0.out | (with_reducible refine Kd.C_alloc ?_ _) | (with_reducible refine Kd.C_drewN ?_ _) | (with_reducible refine Kd.C_drew ?_))); (case side2 => exact HC0.out); rintro e w' ⟨rfl, ⟨nd, rfl⟩⟩; refine ⟨_, rfl, ?_⟩))
  go_ret
  exact ⟨by first | rfl | (simp [errW_none, errW_some] <;> rfl) | (simp [*, errW_none, errW_some] <;> rfl), by repeat (first | (with_reducible first | exact HB.out | apply below_alloc | apply pw_below_drewN | apply below_drew1) | exact HB.out)⟩
 ·replace c3 := Bool.eq_false_iff.mpr c3
  subst c3
  rw [if_neg (show ¬ (false = true) by decide)] at H
  replace H := Option.bind_eq_some_iff.mp H
  obtain ⟨⟨t349, t352, t353, t354⟩, A40, H⟩ := H
  (try dsimp only at H)
  have A4 := Aside0.mk A40
  clear A40
  replace H := Option.bind_eq_some_iff.mp H
  obtain ⟨⟨t356, t359, t360, t361⟩, A50, H⟩ := H
  (try dsimp only at H)
  have A5 := Aside0.mk A50
  clear A50
  replace H := Option.bind_eq_some_iff.mp H
  obtain ⟨⟨t363, t366, t367, t368⟩, A60, H⟩ := H
  (try dsimp only at H)
  have A6 := Aside0.mk A60
  clear A60
  replace H := Option.bind_eq_some_iff.mp H
  obtain ⟨⟨t370, t373, t374, t375, t376⟩, A70, H⟩ := H
  (try dsimp only at H)
  have A7 := Aside0.mk A70
  clear A70
  replace H := Option.bind_eq_some_iff.mp H
  obtain ⟨⟨t378, t381, t382, t383, t384⟩, A80, H⟩ := H
  (try dsimp only at H)
  have A8 := Aside0.mk A80
  clear A80
  replace H := Option.bind_eq_some_iff.mp H
  obtain ⟨⟨t386, t389, t390, t391⟩, A90, H⟩ := H
  (try dsimp only at H)
  have A9 := Aside0.mk A90
  clear A90
  replace H := Option.bind_eq_some_iff.mp H
  obtain ⟨⟨t393, t396, t397, t398⟩, A100, H⟩ := H
  (try dsimp only at H)
  have A10 := Aside0.mk A100
  clear A100
  replace H := Option.bind_eq_some_iff.mp H
  obtain ⟨t400, A110, H⟩ := H
  (try dsimp only at H)
  have A11 := Aside0.mk A110
  clear A110
  replace H := Option.bind_eq_some_iff.mp H
  obtain ⟨t401, A120, H⟩ := H
  (try dsimp only at H)
  have A12 := Aside0.mk A120
  clear A120
  by_cases c13 : (t400 == t401) = true
  ·rw [if_pos c13] at H
   have c13b0 : (t400 == t401) = true := c13
   (try (have c13b1 : decide (t400 = t401) = true := by simpa using c13))
   (try (have c13b2 : (t400 == t401) = true := by simpa using c13))
   clear c13
   by_cases c14 : (t361 == t368) = true
   ·rw [if_pos c14] at H
    have c14b0 : (t361 == t368) = true := c14
    (try (have c14b1 : decide (t361 = t368) = true := by simpa using c14))
    (try (have c14b2 : (t361 == t368) = true := by simpa using c14))
    clear c14
    by_cases c15 : (t376 == t384) = true
    ·rw [if_pos c15] at H
     have c15b0 : (t376 == t384) = true := c15
     (try (have c15b1 : decide (t376 = t384) = true := by simpa using c15))
     (try (have c15b2 : (t376 == t384) = true := by simpa using c15))
     clear c15
     by_cases c16 : t375.toList = t383.toList
     ·rw [if_pos c16] at H
      have c16b0 : (t375.toList == t383.toList) = true := beq_iff_eq.mpr c16
      have c16b1 : (t375.toList != t383.toList) = false := bne_eq_false_iff_eq.mpr c16
      clear c16
      by_cases c17 : t361 = true
      ·subst c17
       rw [if_pos rfl] at H
       by_cases c18 : t376 = true
       ·subst c18
        rw [if_pos rfl] at H
        by_cases c19 : t391 = true
        ·subst c19
         rw [if_pos rfl] at H
         by_cases c20 : t398 = true
         ·subst c20
          rw [if_pos rfl] at H
          exact absurd ((Option.some.inj H).trans hr_.out) (by decide)
         ·replace c20 := Bool.eq_false_iff.mpr c20
          subst c20
          rw [if_neg (show ¬ (false = true) by decide)] at H
          by_cases c21 : (t386.length : Int) = 3
          ·rw [if_pos c21] at H
           have c21b0 : ((t386.length : Int) == 3) = true := beq_iff_eq.mpr c21
           have c21b1 : ((t386.length : Int) != 3) = false := bne_eq_false_iff_eq.mpr c21
           clear c21
           replace H := Option.bind_eq_some_iff.mp H
           obtain ⟨t402, A220, H⟩ := H
           (try dsimp only at H)
           have A22 := Aside0.mk A220
           clear A220
           replace H := Option.bind_eq_some_iff.mp H
           obtain ⟨t403, A230, H⟩ := H
           (try dsimp only at H)
           have A23 := Aside0.mk A230
           clear A230
           obtain rfl := Option.some.inj H
           go_enter Try.func5, Try.ntmps5
           try go_wp2_with (first | ((with_reducible refine gate_callee (f := 23) rfl ?_); refine goesL_ (some 20) rfl rfl Try.func23 B8x54_ rfl #[.slice A0 l0.length c0] rfl B8x3_ ?_; (with_reducible refine (laws_big.calls _ _ l0 false _ ?side1 ?side2 A2.out).mono ?_); (case side1 => repeat (first | exact HR0.out | (with_reducible refine Kd.C_alloc ?_ _) | (with_reducible refine Kd.C_drewN ?_ _) | (with_reducible refine Kd.C_drew ?_))); (case side2 => exact HC0.out); rintro e w' ⟨rfl, ⟨nd, rfl⟩⟩; refine ⟨_, rfl, ?_⟩) | ((with_reducible refine gate_callee (f := 24) rfl ?_); refine goesL_ (some 23) rfl rfl Try.func24 B8x54_ rfl #[.slice A0 l0.length c0] rfl B8x3_ ?_; (with_reducible refine (spec_DrawPostRing.calls k _ _ l0 t349 t352 t353 t354 _ ?side1 ?side2 A4.out).mono ?_); (case side1 => repeat (first | exact HR0.out | (with_reducible refine Kd.C_alloc ?_ _) | (with_reducible refine Kd.C_drewN ?_ _) | (with_reducible refine Kd.C_drew ?_))); (case side2 => exact HC0.out); rintro e w24 ⟨v350, rfl, ho0, hb⟩; refine ⟨_, rfl, ?_⟩; have n0_ := Aside0.mk (Kd.R_lower ho0 (below_size B8x19_)); have n1_ := Aside0.mk (below_step B8x19_ hb); clear HB; have HO351 := n0_; have HB := n1_; clear n0_ n1_; (try clear hb); (try clear hb2); (try clear hk); (try clear hi); (try clear ho0)) | ((with_reducible refine gate_dst (N := 3) rfl ?_); (try (refine gate_guard (by rfl) ?_; dsimp only)); refine box_event ?hg (N := 3) ?hd (cs := #[.slice none 0 0, .int .i64 0, .int .i64 0]) (t := 45) ?hr ?_; (case hd => rfl); (case hg => rfl); (case hr => first | (go_simp; done) | (go_simp; rfl)); intro gb355 hg w25 hbox hb; have n0_ := Aside0.mk (Kd.R_below B8x10_ hb); have n1_ := Aside0.mk (below_step B8x19_ hb); have n2_ := Aside0.mk (hbox); have n3_ := Aside0.mk ((by rw [hg]; exact (below_size B8x19_) : w.heap.size ≤ gb355)); have n4_ := Aside0.mk ((by rw [hg]; exact (below_size B8x19_) : w.heap.size ≤ gb355)); clear HO351; clear HB; have HO351 := n0_; have HB := n1_; have BK355 := n2_; have GW355 := n3_; have GE355 := n4_; clear n0_ n1_ n2_ n3_ n4_; clear hb hbox hg; obtain ⟨Ao26, co26, eo26⟩ := Kd.R_slice HO351.out; subst eo26; obtain ⟨hcz27_0, hcz27_1, hcz27_2⟩ := cl3 BK355.out; obtain ⟨hfz27_0, hfz27_1, hfz27_2⟩ := fr3 BK355.out) | ((with_reducible refine gate_callee (f := 25) rfl ?_); refine goesL_ (some 29) rfl rfl Try.func25 B8x54_ rfl #[.agg #[.slice Ao26 t349.length co26, .int .i64 t352, .int .i64 t353], .string t354] rfl B8x3_ ?_; (with_reducible refine (impl_PostRing.calls k _ _ t349 t352 t353 t354 t356 t359 t360 true _ ?side1 ?side2 A5.out).mono ?_); (case side1 => refine (Kd.R_reads' (e := 105) (base := w.heap.size) (ok := fun k_ => True) (n := t349.length) (c := co26) ?_).2.2; exact B8x48_); (case side2 => exact (Kd.R_reads' HO351.out).2.1); rintro e w28 ⟨v357, rfl, ho0, hb⟩; refine ⟨_, rfl, ?_⟩; have n0_ := Aside0.mk (Kd.R_elder' B8x48_ (Kd.R_base ho0) hb); have n1_ := Aside0.mk (Kd.R_lower (Kd.R_new' ho0 (Kd.R_lt B8x48_)) (below_size B8x17_)); have n2_ := Aside0.mk (blk_below (g := gb355) (o := .cells #[.slice Ao26 t349.length co26, .int .i64 t352, .int .i64 t353] 45 (0, 0)) (by (with_reducible repeat (first | refine blk_drewN ?_ _ | refine blk_drew ?_ | refine blk_alloc ?_ _)); refine blk_put (cs := #[.slice Ao26 t349.length co26, .int .i64 t352, .int .i64 0]) ?_ 2 _ rfl; (with_reducible repeat (first | refine blk_drewN ?_ _ | refine blk_drew ?_ | refine blk_alloc ?_ _)); refine blk_put (cs := #[.slice Ao26 t349.length co26, .int .i64 0, .int .i64 0]) ?_ 1 _ rfl; (with_reducible repeat (first | refine blk_drewN ?_ _ | refine blk_drew ?_ | refine blk_alloc ?_ _)); refine blk_put (cs := #[.slice none 0 0, .int .i64 0, .int .i64 0]) ?_ 0 _ rfl; (with_reducible repeat (first | refine blk_drewN ?_ _ | refine blk_drew ?_ | refine blk_alloc ?_ _)); exact BK355.out) hb); have n3_ := Aside0.mk (below_step B8x17_ hb); clear HO351; clear BK355; clear HB; have HO351 := n0_; have HO358 := n1_; have BK355 := n2_; have HB := n3_; clear n0_ n1_ n2_ n3_; (try clear hb); (try clear hb2); (try clear hk); (try clear hi); (try clear ho0)) | ((with_reducible refine gate_dst (N := 5) rfl ?_); (try (refine gate_guard (by rfl) ?_; dsimp only)); refine box_event ?hg (N := 5) ?hd (cs := #[.slice none 0 0, .int .i64 0, .int .i64 0]) (t := 45) ?hr ?_; (case hd => rfl); (case hg => rfl); (case hr => first | (go_simp; done) | (go_simp; rfl)); intro gb362 hg w29 hbox hb; have n0_ := Aside0.mk (Kd.R_below B8x10_ hb); have n1_ := Aside0.mk (Kd.R_below B8x12_ hb); have n2_ := Aside0.mk (blk_below (g := gb355) (o := .cells #[.slice Ao26 t349.length co26, .int .i64 t352, .int .i64 t353] 45 (0, 0)) B8x0_ hb); have n3_ := Aside0.mk (below_step B8x17_ hb); have n4_ := Aside0.mk (hbox); have n5_ := Aside0.mk ((by rw [hg]; exact (below_size B8x17_) : w.heap.size ≤ gb362)); have n6_ := Aside0.mk ((by rw [hg]; exact (below_size B8x17_) : w.heap.size ≤ gb362)); have n7_ := Aside0.mk ((by rw [hg]; exact Nat.ne_of_lt (blk_lt (g := gb355) (o := .cells #[.slice Ao26 t349.length co26, .int .i64 t352, .int .i64 t353] 45 (0, 0)) B8x0_) : gb355 ≠ gb362)); have n8_ := Aside0.mk ((by rw [hg]; exact Nat.ne_of_gt (blk_lt (g := gb355) (o := .cells #[.slice Ao26 t349.length co26, .int .i64 t352, .int .i64 t353] 45 (0, 0)) B8x0_) : gb362 ≠ gb355)); clear HO351; clear HO358; clear BK355; clear HB; have HO351 := n0_; have HO358 := n1_; have BK355 := n2_; have HB := n3_; have BK362 := n4_; have GW362 := n5_; have GE362 := n6_; have NB355_362 := n7_; have NB362_355 := n8_; clear n0_ n1_ n2_ n3_ n4_ n5_ n6_ n7_ n8_; clear hb hbox hg; obtain ⟨Ao30, co30, eo30⟩ := Kd.R_slice HO358.out; subst eo30; have hnb31 := NB362_355.out; have hnc31 := NB355_362.out; obtain ⟨hcz32_0, hcz32_1, hcz32_2⟩ := cl3 BK362.out; obtain ⟨hfz32_0, hfz32_1, hfz32_2⟩ := fr3 BK362.out; obtain ⟨hcz33_0, hcz33_1, hcz33_2⟩ := cl3 BK355.out; obtain ⟨hfz33_0, hfz33_1, hfz33_2⟩ := fr3 BK355.out) | ((with_reducible refine gate_callee (f := 26) rfl ?_); refine goesL_ (some 35) rfl rfl Try.func26 B8x54_ rfl #[.agg #[.slice Ao26 t349.length co26, .int .i64 t352, .int .i64 t353], .string t354] rfl B8x3_ ?_; (with_reducible refine (spec_PostRing.calls k _ _ t349 t352 t353 t354 t363 t366 t367 t368 _ ?side1 ?side2 A6.out).mono ?_); (case side1 => refine (Kd.R_reads' (e := 105) (base := w.heap.size) (ok := fun k_ => (True ∧ some k_ ≠ (.slice Ao30 t356.length co30 : Value).ownBlock)) (n := t349.length) (c := co26) ?_).2.2; exact B8x50_); (case side2 => exact (Kd.R_reads' HO351.out).2.1); rintro e w34 ⟨v364, rfl, ho0, hb⟩; refine ⟨_, rfl, ?_⟩; have n0_ := Aside0.mk (Kd.R_elder' B8x50_ (Kd.R_base ho0) hb); have n1_ := Aside0.mk (Kd.R_elder' B8x105_ (Kd.R_base ho0) hb); have n2_ := Aside0.mk (Kd.R_lower (Kd.R_new' (Kd.R_new' ho0 (Kd.R_lt B8x50_)) (Kd.R_lt B8x105_)) (below_size B8x13_)); have n3_ := Aside0.mk (blk_below (g := gb355) (o := .cells #[.slice Ao26 t349.length co26, .int .i64 t352, .int .i64 t353] 45 (0, 0)) B8x23_ hb); have n4_ := Aside0.mk (blk_below (g := gb362) (o := .cells #[.slice Ao30 t356.length co30, .int .i64 t359, .int .i64 t360] 45 (0, 0)) (by (with_reducible repeat (first | refine blk_drewN ?_ _ | refine blk_drew ?_ | refine blk_alloc ?_ _)); refine blk_put (cs := #[.slice Ao30 t356.length co30, .int .i64 t359, .int .i64 0]) ?_ 2 _ rfl; (with_reducible repeat (first | refine blk_drewN ?_ _ | refine blk_drew ?_ | refine blk_alloc ?_ _)); refine blk_put (cs := #[.slice Ao30 t356.length co30, .int .i64 0, .int .i64 0]) ?_ 1 _ rfl; (with_reducible repeat (first | refine blk_drewN ?_ _ | refine blk_drew ?_ | refine blk_alloc ?_ _)); refine blk_put (cs := #[.slice none 0 0, .int .i64 0, .int .i64 0]) ?_ 0 _ rfl; (with_reducible repeat (first | refine blk_drewN ?_ _ | refine blk_drew ?_ | refine blk_alloc ?_ _)); exact BK362.out) hb); have n5_ := Aside0.mk (below_step B8x13_ hb); clear HO351; clear HO358; clear BK355; clear BK362; clear HB; have HO351 := n0_; have HO358 := n1_; have HO365 := n2_; have BK355 := n3_; have BK362 := n4_; have HB := n5_; clear n0_ n1_ n2_ n3_ n4_ n5_; (try clear hb); (try clear hb2); (try clear hk); (try clear hi); (try clear ho0)) | ((with_reducible refine gate_dst (N := 7) rfl ?_); (try (refine gate_guard (by rfl) ?_; dsimp only)); refine box_event ?hg (N := 7) ?hd (cs := #[.slice none 0 0, .int .i64 0, .int .i64 0]) (t := 45) ?hr ?_; (case hd => rfl); (case hg => rfl); (case hr => first | (go_simp; done) | (go_simp; rfl)); intro gb369 hg w35 hbox hb; have n0_ := Aside0.mk (Kd.R_below B8x10_ hb); have n1_ := Aside0.mk (Kd.R_below B8x12_ hb); have n2_ := Aside0.mk (Kd.R_below B8x14_ hb); have n3_ := Aside0.mk (blk_below (g := gb355) (o := .cells #[.slice Ao26 t349.length co26, .int .i64 t352, .int .i64 t353] 45 (0, 0)) B8x0_ hb); have n4_ := Aside0.mk (blk_below (g := gb362) (o := .cells #[.slice Ao30 t356.length co30, .int .i64 t359, .int .i64 t360] 45 (0, 0)) B8x1_ hb); have n5_ := Aside0.mk (below_step B8x13_ hb); have n6_ := Aside0.mk (hbox); have n7_ := Aside0.mk ((by rw [hg]; exact (below_size B8x13_) : w.heap.size ≤ gb369)); have n8_ := Aside0.mk ((by rw [hg]; exact (below_size B8x13_) : w.heap.size ≤ gb369)); have n9_ := Aside0.mk ((by rw [hg]; exact Nat.ne_of_lt (blk_lt (g := gb355) (o := .cells #[.slice Ao26 t349.length co26, .int .i64 t352, .int .i64 t353] 45 (0, 0)) B8x0_) : gb355 ≠ gb369)); have n10_ := Aside0.mk ((by rw [hg]; exact Nat.ne_of_gt (blk_lt (g := gb355) (o := .cells #[.slice Ao26 t349.length co26, .int .i64 t352, .int .i64 t353] 45 (0, 0)) B8x0_) : gb369 ≠ gb355)); have n11_ := Aside0.mk ((by rw [hg]; exact Nat.ne_of_lt (blk_lt (g := gb362) (o := .cells #[.slice Ao30 t356.length co30, .int .i64 t359, .int .i64 t360] 45 (0, 0)) B8x1_) : gb362 ≠ gb369)); have n12_ := Aside0.mk ((by rw [hg]; exact Nat.ne_of_gt (blk_lt (g := gb362) (o := .cells #[.slice Ao30 t356.length co30, .int .i64 t359, .int .i64 t360] 45 (0, 0)) B8x1_) : gb369 ≠ gb362)); clear HO351; clear HO358; clear HO365; clear BK355; clear BK362; clear HB; have HO351 := n0_; have HO358 := n1_; have HO365 := n2_; have BK355 := n3_; have BK362 := n4_; have HB := n5_; have BK369 := n6_; have GW369 := n7_; have GE369 := n8_; have NB355_369 := n9_; have NB369_355 := n10_; have NB362_369 := n11_; have NB369_362 := n12_; clear n0_ n1_ n2_ n3_ n4_ n5_ n6_ n7_ n8_ n9_ n10_ n11_ n12_; clear hb hbox hg; obtain ⟨Ao36, co36, eo36⟩ := Kd.R_slice HO365.out; subst eo36; have hnb37 := NB369_355.out; have hnc37 := NB355_369.out; have hnb38 := NB369_362.out; have hnc38 := NB362_369.out; obtain ⟨hcz39_0, hcz39_1, hcz39_2⟩ := cl3 BK369.out; obtain ⟨hfz39_0, hfz39_1, hfz39_2⟩ := fr3 BK369.out; obtain ⟨hcz40_0, hcz40_1, hcz40_2⟩ := cl3 BK355.out; obtain ⟨hfz40_0, hfz40_1, hfz40_2⟩ := fr3 BK355.out) | ((with_reducible refine gate_callee (f := 27) rfl ?_); refine goesL_ (some 40) rfl rfl Try.func27 B8x54_ rfl #[.agg #[.slice Ao26 t349.length co26, .int .i64 t352, .int .i64 t353]] rfl B8x3_ ?_; (with_reducible refine (impl_TakeRing.calls k _ _ t349 t352 t353 t370 t373 t374 t375 true _ ?side1 ?side2 A7.out).mono ?_); (case side1 => refine (Kd.R_reads' (e := 105) (base := w.heap.size) (ok := fun k_ => ((True ∧ some k_ ≠ (.slice Ao30 t356.length co30 : Value).ownBlock) ∧ some k_ ≠ (.slice Ao36 t363.length co36 : Value).ownBlock)) (n := t349.length) (c := co26) ?_).2.2; exact B8x52_); (case side2 => exact (Kd.R_reads' HO351.out).2.1); rintro e w41 ⟨v371, rfl, ho0, hb⟩; refine ⟨_, rfl, ?_⟩; have n0_ := Aside0.mk (Kd.R_elder' B8x52_ (Kd.R_base ho0) hb); have n1_ := Aside0.mk (Kd.R_elder' B8x107_ (Kd.R_base ho0) hb); have n2_ := Aside0.mk (Kd.R_elder' B8x108_ (Kd.R_base ho0) hb); have n3_ := Aside0.mk (Kd.R_lower (Kd.R_new' (Kd.R_new' (Kd.R_new' ho0 (Kd.R_lt B8x52_)) (Kd.R_lt B8x107_)) (Kd.R_lt B8x108_)) (below_size B8x11_)); have n4_ := Aside0.mk (blk_below (g := gb355) (o := .cells #[.slice Ao26 t349.length co26, .int .i64 t352, .int .i64 t353] 45 (0, 0)) B8x24_ hb); have n5_ := Aside0.mk (blk_below (g := gb362) (o := .cells #[.slice Ao30 t356.length co30, .int .i64 t359, .int .i64 t360] 45 (0, 0)) B8x28_ hb); have n6_ := Aside0.mk (blk_below (g := gb369) (o := .cells #[.slice Ao36 t363.length co36, .int .i64 t366, .int .i64 t367] 45 (0, 0)) (by (with_reducible repeat (first | refine blk_drewN ?_ _ | refine blk_drew ?_ | refine blk_alloc ?_ _)); refine blk_put (cs := #[.slice Ao36 t363.length co36, .int .i64 t366, .int .i64 0]) ?_ 2 _ rfl; (with_reducible repeat (first | refine blk_drewN ?_ _ | refine blk_drew ?_ | refine blk_alloc ?_ _)); refine blk_put (cs := #[.slice Ao36 t363.length co36, .int .i64 0, .int .i64 0]) ?_ 1 _ rfl; (with_reducible repeat (first | refine blk_drewN ?_ _ | refine blk_drew ?_ | refine blk_alloc ?_ _)); refine blk_put (cs := #[.slice none 0 0, .int .i64 0, .int .i64 0]) ?_ 0 _ rfl; (with_reducible repeat (first | refine blk_drewN ?_ _ | refine blk_drew ?_ | refine blk_alloc ?_ _)); exact BK369.out) hb); have n7_ := Aside0.mk (below_step B8x11_ hb); clear HO351; clear HO358; clear HO365; clear BK355; clear BK362; clear BK369; clear HB; have HO351 := n0_; have HO358 := n1_; have HO365 := n2_; have HO372 := n3_; have BK355 := n4_; have BK362 := n5_; have BK369 := n6_; have HB := n7_; clear n0_ n1_ n2_ n3_ n4_ n5_ n6_ n7_; (try clear hb); (try clear hb2); (try clear hk); (try clear hi); (try clear ho0)) | ((with_reducible refine gate_dst (N := 9) rfl ?_); (try (refine gate_guard (by rfl) ?_; dsimp only)); refine box_event ?hg (N := 9) ?hd (cs := #[.slice none 0 0, .int .i64 0, .int .i64 0]) (t := 45) ?hr ?_; (case hd => rfl); (case hg => rfl); (case hr => first | (go_simp; done) | (go_simp; rfl)); intro gb377 hg w42 hbox hb; have n0_ := Aside0.mk (Kd.R_below B8x10_ hb); have n1_ := Aside0.mk (Kd.R_below B8x12_ hb); have n2_ := Aside0.mk (Kd.R_below B8x14_ hb); have n3_ := Aside0.mk (Kd.R_below B8x15_ hb); have n4_ := Aside0.mk (blk_below (g := gb355) (o := .cells #[.slice Ao26 t349.length co26, .int .i64 t352, .int .i64 t353] 45 (0, 0)) B8x0_ hb); have n5_ := Aside0.mk (blk_below (g := gb362) (o := .cells #[.slice Ao30 t356.length co30, .int .i64 t359, .int .i64 t360] 45 (0, 0)) B8x1_ hb); have n6_ := Aside0.mk (blk_below (g := gb369) (o := .cells #[.slice Ao36 t363.length co36, .int .i64 t366, .int .i64 t367] 45 (0, 0)) B8x2_ hb); have n7_ := Aside0.mk (below_step B8x11_ hb); have n8_ := Aside0.mk (hbox); have n9_ := Aside0.mk ((by rw [hg]; exact (below_size B8x11_) : w.heap.size ≤ gb377)); have n10_ := Aside0.mk ((by rw [hg]; exact (below_size B8x11_) : w.heap.size ≤ gb377)); have n11_ := Aside0.mk ((by rw [hg]; exact Nat.ne_of_lt (blk_lt (g := gb355) (o := .cells #[.slice Ao26 t349.length co26, .int .i64 t352, .int .i64 t353] 45 (0, 0)) B8x0_) : gb355 ≠ gb377)); have n12_ := Aside0.mk ((by rw [hg]; exact Nat.ne_of_gt (blk_lt (g := gb355) (o := .cells #[.slice Ao26 t349.length co26, .int .i64 t352, .int .i64 t353] 45 (0, 0)) B8x0_) : gb377 ≠ gb355)); have n13_ := Aside0.mk ((by rw [hg]; exact Nat.ne_of_lt (blk_lt (g := gb362) (o := .cells #[.slice Ao30 t356.length co30, .int .i64 t359, .int .i64 t360] 45 (0, 0)) B8x1_) : gb362 ≠ gb377)); have n14_ := Aside0.mk ((by rw [hg]; exact Nat.ne_of_gt (blk_lt (g := gb362) (o := .cells #[.slice Ao30 t356.length co30, .int .i64 t359, .int .i64 t360] 45 (0, 0)) B8x1_) : gb377 ≠ gb362)); have n15_ := Aside0.mk ((by rw [hg]; exact Nat.ne_of_lt (blk_lt (g := gb369) (o := .cells #[.slice Ao36 t363.length co36, .int .i64 t366, .int .i64 t367] 45 (0, 0)) B8x2_) : gb369 ≠ gb377)); have n16_ := Aside0.mk ((by rw [hg]; exact Nat.ne_of_gt (blk_lt (g := gb369) (o := .cells #[.slice Ao36 t363.length co36, .int .i64 t366, .int .i64 t367] 45 (0, 0)) B8x2_) : gb377 ≠ gb369)); clear HO351; clear HO358; clear HO365; clear HO372; clear BK355; clear BK362; clear BK369; clear HB; have HO351 := n0_; have HO358 := n1_; have HO365 := n2_; have HO372 := n3_; have BK355 := n4_; have BK362 := n5_; have BK369 := n6_; have HB := n7_; have BK377 := n8_; have GW377 := n9_; have GE377 := n10_; have NB355_377 := n11_; have NB377_355 := n12_; have NB362_377 := n13_; have NB377_362 := n14_; have NB369_377 := n15_; have NB377_369 := n16_; clear n0_ n1_ n2_ n3_ n4_ n5_ n6_ n7_ n8_ n9_ n10_ n11_ n12_ n13_ n14_ n15_ n16_; clear hb hbox hg; obtain ⟨Ao43, co43, eo43⟩ := Kd.R_slice HO372.out; subst eo43; have hnb44 := NB377_355.out; have hnc44 := NB355_377.out; have hnb45 := NB377_362.out; have hnc45 := NB362_377.out; have hnb46 := NB377_369.out; have hnc46 := NB369_377.out; obtain ⟨hcz47_0, hcz47_1, hcz47_2⟩ := cl3 BK377.out; obtain ⟨hfz47_0, hfz47_1, hfz47_2⟩ := fr3 BK377.out; obtain ⟨hcz48_0, hcz48_1, hcz48_2⟩ := cl3 BK355.out; obtain ⟨hfz48_0, hfz48_1, hfz48_2⟩ := fr3 BK355.out) | ((with_reducible refine gate_callee (f := 28) rfl ?_); refine goesL_ (some 46) rfl rfl Try.func28 B8x54_ rfl #[.agg #[.slice Ao26 t349.length co26, .int .i64 t352, .int .i64 t353]] rfl B8x3_ ?_; (with_reducible refine (spec_TakeRing.calls k _ _ t349 t352 t353 t378 t381 t382 t383 t384 _ ?side1 ?side2 A8.out).mono ?_); (case side1 => refine (Kd.R_reads' (e := 105) (base := w.heap.size) (ok := fun k_ => (((True ∧ some k_ ≠ (.slice Ao30 t356.length co30 : Value).ownBlock) ∧ some k_ ≠ (.slice Ao36 t363.length co36 : Value).ownBlock) ∧ some k_ ≠ (.slice Ao43 t370.length co43 : Value).ownBlock)) (n := t349.length) (c := co26) ?_).2.2; exact B8x53_); (case side2 => exact (Kd.R_reads' HO351.out).2.1); rintro e w49 ⟨v379, rfl, ho0, hb⟩; refine ⟨_, rfl, ?_⟩; have n0_ := Aside0.mk (Kd.R_elder' B8x53_ (Kd.R_base ho0) hb); have n1_ := Aside0.mk (Kd.R_elder' B8x109_ (Kd.R_base ho0) hb); have n2_ := Aside0.mk (Kd.R_elder' B8x110_ (Kd.R_base ho0) hb); have n3_ := Aside0.mk (Kd.R_elder' B8x111_ (Kd.R_base ho0) hb); have n4_ := Aside0.mk (Kd.R_lower (Kd.R_new' (Kd.R_new' (Kd.R_new' (Kd.R_new' ho0 (Kd.R_lt B8x53_)) (Kd.R_lt B8x109_)) (Kd.R_lt B8x110_)) (Kd.R_lt B8x111_)) (below_size B8x8_)); have n5_ := Aside0.mk (blk_below (g := gb355) (o := .cells #[.slice Ao26 t349.length co26, .int .i64 t352, .int .i64 t353] 45 (0, 0)) B8x25_ hb); have n6_ := Aside0.mk (blk_below (g := gb362) (o := .cells #[.slice Ao30 t356.length co30, .int .i64 t359, .int .i64 t360] 45 (0, 0)) B8x29_ hb); have n7_ := Aside0.mk (blk_below (g := gb369) (o := .cells #[.slice Ao36 t363.length co36, .int .i64 t366, .int .i64 t367] 45 (0, 0)) B8x32_ hb); have n8_ := Aside0.mk (blk_below (g := gb377) (o := .cells #[.slice Ao43 t370.length co43, .int .i64 t373, .int .i64 t374] 45 (0, 0)) (by (with_reducible repeat (first | refine blk_drewN ?_ _ | refine blk_drew ?_ | refine blk_alloc ?_ _)); refine blk_put (cs := #[.slice Ao43 t370.length co43, .int .i64 t373, .int .i64 0]) ?_ 2 _ rfl; (with_reducible repeat (first | refine blk_drewN ?_ _ | refine blk_drew ?_ | refine blk_alloc ?_ _)); refine blk_put (cs := #[.slice Ao43 t370.length co43, .int .i64 0, .int .i64 0]) ?_ 1 _ rfl; (with_reducible repeat (first | refine blk_drewN ?_ _ | refine blk_drew ?_ | refine blk_alloc ?_ _)); refine blk_put (cs := #[.slice none 0 0, .int .i64 0, .int .i64 0]) ?_ 0 _ rfl; (with_reducible repeat (first | refine blk_drewN ?_ _ | refine blk_drew ?_ | refine blk_alloc ?_ _)); exact BK377.out) hb); have n9_ := Aside0.mk (below_step B8x8_ hb); clear HO351; clear HO358; clear HO365; clear HO372; clear BK355; clear BK362; clear BK369; clear BK377; clear HB; have HO351 := n0_; have HO358 := n1_; have HO365 := n2_; have HO372 := n3_; have HO380 := n4_; have BK355 := n5_; have BK362 := n6_; have BK369 := n7_; have BK377 := n8_; have HB := n9_; clear n0_ n1_ n2_ n3_ n4_ n5_ n6_ n7_ n8_ n9_; (try clear hb); (try clear hb2); (try clear hk); (try clear hi); (try clear ho0)) | ((with_reducible refine gate_dst (N := 12) rfl ?_); (try (refine gate_guard (by rfl) ?_; dsimp only)); refine box_event ?hg (N := 12) ?hd (cs := #[.slice none 0 0, .int .i64 0, .int .i64 0]) (t := 45) ?hr ?_; (case hd => rfl); (case hg => rfl); (case hr => first | (go_simp; done) | (go_simp; rfl)); intro gb385 hg w50 hbox hb; have n0_ := Aside0.mk (Kd.R_below B8x10_ hb); have n1_ := Aside0.mk (Kd.R_below B8x12_ hb); have n2_ := Aside0.mk (Kd.R_below B8x14_ hb); have n3_ := Aside0.mk (Kd.R_below B8x15_ hb); have n4_ := Aside0.mk (Kd.R_below B8x18_ hb); have n5_ := Aside0.mk (blk_below (g := gb355) (o := .cells #[.slice Ao26 t349.length co26, .int .i64 t352, .int .i64 t353] 45 (0, 0)) B8x0_ hb); have n6_ := Aside0.mk (blk_below (g := gb362) (o := .cells #[.slice Ao30 t356.length co30, .int .i64 t359, .int .i64 t360] 45 (0, 0)) B8x1_ hb); have n7_ := Aside0.mk (blk_below (g := gb369) (o := .cells #[.slice Ao36 t363.length co36, .int .i64 t366, .int .i64 t367] 45 (0, 0)) B8x2_ hb); have n8_ := Aside0.mk (blk_below (g := gb377) (o := .cells #[.slice Ao43 t370.length co43, .int .i64 t373, .int .i64 t374] 45 (0, 0)) B8x5_ hb); have n9_ := Aside0.mk (below_step B8x8_ hb); have n10_ := Aside0.mk (hbox); have n11_ := Aside0.mk ((by rw [hg]; exact (below_size B8x8_) : w.heap.size ≤ gb385)); have n12_ := Aside0.mk ((by rw [hg]; exact (below_size B8x8_) : w.heap.size ≤ gb385)); have n13_ := Aside0.mk ((by rw [hg]; exact Nat.ne_of_lt (blk_lt (g := gb355) (o := .cells #[.slice Ao26 t349.length co26, .int .i64 t352, .int .i64 t353] 45 (0, 0)) B8x0_) : gb355 ≠ gb385)); have n14_ := Aside0.mk ((by rw [hg]; exact Nat.ne_of_gt (blk_lt (g := gb355) (o := .cells #[.slice Ao26 t349.length co26, .int .i64 t352, .int .i64 t353] 45 (0, 0)) B8x0_) : gb385 ≠ gb355)); have n15_ := Aside0.mk ((by rw [hg]; exact Nat.ne_of_lt (blk_lt (g := gb362) (o := .cells #[.slice Ao30 t356.length co30, .int .i64 t359, .int .i64 t360] 45 (0, 0)) B8x1_) : gb362 ≠ gb385)); have n16_ := Aside0.mk ((by rw [hg]; exact Nat.ne_of_gt (blk_lt (g := gb362) (o := .cells #[.slice Ao30 t356.length co30, .int .i64 t359, .int .i64 t360] 45 (0, 0)) B8x1_) : gb385 ≠ gb362)); have n17_ := Aside0.mk ((by rw [hg]; exact Nat.ne_of_lt (blk_lt (g := gb369) (o := .cells #[.slice Ao36 t363.length co36, .int .i64 t366, .int .i64 t367] 45 (0, 0)) B8x2_) : gb369 ≠ gb385)); have n18_ := Aside0.mk ((by rw [hg]; exact Nat.ne_of_gt (blk_lt (g := gb369) (o := .cells #[.slice Ao36 t363.length co36, .int .i64 t366, .int .i64 t367] 45 (0, 0)) B8x2_) : gb385 ≠ gb369)); have n19_ := Aside0.mk ((by rw [hg]; exact Nat.ne_of_lt (blk_lt (g := gb377) (o := .cells #[.slice Ao43 t370.length co43, .int .i64 t373, .int .i64 t374] 45 (0, 0)) B8x5_) : gb377 ≠ gb385)); have n20_ := Aside0.mk ((by rw [hg]; exact Nat.ne_of_gt (blk_lt (g := gb377) (o := .cells #[.slice Ao43 t370.length co43, .int .i64 t373, .int .i64 t374] 45 (0, 0)) B8x5_) : gb385 ≠ gb377)); clear HO351; clear HO358; clear HO365; clear HO372; clear HO380; clear BK355; clear BK362; clear BK369; clear BK377; clear HB; have HO351 := n0_; have HO358 := n1_; have HO365 := n2_; have HO372 := n3_; have HO380 := n4_; have BK355 := n5_; have BK362 := n6_; have BK369 := n7_; have BK377 := n8_; have HB := n9_; have BK385 := n10_; have GW385 := n11_; have GE385 := n12_; have NB355_385 := n13_; have NB385_355 := n14_; have NB362_385 := n15_; have NB385_362 := n16_; have NB369_385 := n17_; have NB385_369 := n18_; have NB377_385 := n19_; have NB385_377 := n20_; clear n0_ n1_ n2_ n3_ n4_ n5_ n6_ n7_ n8_ n9_ n10_ n11_ n12_ n13_ n14_ n15_ n16_ n17_ n18_ n19_ n20_; clear hb hbox hg; obtain ⟨Ao51, co51, eo51⟩ := Kd.R_slice HO380.out; subst eo51; have hnb52 := NB385_355.out; have hnc52 := NB355_385.out; have hnb53 := NB385_362.out; have hnc53 := NB362_385.out; have hnb54 := NB385_369.out; have hnc54 := NB369_385.out; have hnb55 := NB385_377.out; have hnc55 := NB377_385.out; obtain ⟨hcz56_0, hcz56_1, hcz56_2⟩ := cl3 BK385.out; obtain ⟨hfz56_0, hfz56_1, hfz56_2⟩ := fr3 BK385.out) | ((with_reducible refine gate_callee (f := 29) rfl ?_); refine goesL_ (some 51) rfl rfl Try.func29 B8x54_ rfl #[.int .i64 3] rfl B8x3_ ?_; (with_reducible refine (impl_RingNew.calls 3 t386 t389 t390 true _ A9.out).mono ?_); rintro e w57 ⟨v387, rfl, ho0, hb⟩; refine ⟨_, rfl, ?_⟩; have n0_ := Aside0.mk (Kd.R_elder' B8x112_ (Kd.R_base ho0) hb); have n1_ := Aside0.mk (Kd.R_elder' B8x113_ (Kd.R_base ho0) hb); have n2_ := Aside0.mk (Kd.R_elder' B8x114_ (Kd.R_base ho0) hb); have n3_ := Aside0.mk (Kd.R_elder' B8x115_ (Kd.R_base ho0) hb); have n4_ := Aside0.mk (Kd.R_elder' B8x116_ (Kd.R_base ho0) hb); have n5_ := Aside0.mk (Kd.R_lower (Kd.R_new' (Kd.R_new' (Kd.R_new' (Kd.R_new' (Kd.R_new' ho0 (Kd.R_lt B8x112_)) (Kd.R_lt B8x113_)) (Kd.R_lt B8x114_)) (Kd.R_lt B8x115_)) (Kd.R_lt B8x116_)) (below_size B8x6_)); have n6_ := Aside0.mk (blk_below (g := gb355) (o := .cells #[.slice Ao26 t349.length co26, .int .i64 t352, .int .i64 t353] 45 (0, 0)) B8x26_ hb); have n7_ := Aside0.mk (blk_below (g := gb362) (o := .cells #[.slice Ao30 t356.length co30, .int .i64 t359, .int .i64 t360] 45 (0, 0)) B8x30_ hb); have n8_ := Aside0.mk (blk_below (g := gb369) (o := .cells #[.slice Ao36 t363.length co36, .int .i64 t366, .int .i64 t367] 45 (0, 0)) B8x33_ hb); have n9_ := Aside0.mk (blk_below (g := gb377) (o := .cells #[.slice Ao43 t370.length co43, .int .i64 t373, .int .i64 t374] 45 (0, 0)) B8x35_ hb); have n10_ := Aside0.mk (blk_below (g := gb385) (o := .cells #[.slice Ao51 t378.length co51, .int .i64 t381, .int .i64 t382] 45 (0, 0)) (by (with_reducible repeat (first | refine blk_drewN ?_ _ | refine blk_drew ?_ | refine blk_alloc ?_ _)); refine blk_put (cs := #[.slice Ao51 t378.length co51, .int .i64 t381, .int .i64 0]) ?_ 2 _ rfl; (with_reducible repeat (first | refine blk_drewN ?_ _ | refine blk_drew ?_ | refine blk_alloc ?_ _)); refine blk_put (cs := #[.slice Ao51 t378.length co51, .int .i64 0, .int .i64 0]) ?_ 1 _ rfl; (with_reducible repeat (first | refine blk_drewN ?_ _ | refine blk_drew ?_ | refine blk_alloc ?_ _)); refine blk_put (cs := #[.slice none 0 0, .int .i64 0, .int .i64 0]) ?_ 0 _ rfl; (with_reducible repeat (first | refine blk_drewN ?_ _ | refine blk_drew ?_ | refine blk_alloc ?_ _)); exact BK385.out) hb); have n11_ := Aside0.mk (below_step B8x6_ hb); clear HO351; clear HO358; clear HO365; clear HO372; clear HO380; clear BK355; clear BK362; clear BK369; clear BK377; clear BK385; clear HB; have HO351 := n0_; have HO358 := n1_; have HO365 := n2_; have HO372 := n3_; have HO380 := n4_; have HO388 := n5_; have BK355 := n6_; have BK362 := n7_; have BK369 := n8_; have BK377 := n9_; have BK385 := n10_; have HB := n11_; clear n0_ n1_ n2_ n3_ n4_ n5_ n6_ n7_ n8_ n9_ n10_ n11_; (try clear hb); (try clear hb2); (try clear hk); (try clear hi); (try clear ho0)) | ((with_reducible refine gate_dst (N := 15) rfl ?_); (try (refine gate_guard (by rfl) ?_; dsimp only)); refine box_event ?hg (N := 15) ?hd (cs := #[.slice none 0 0, .int .i64 0, .int .i64 0]) (t := 45) ?hr ?_; (case hd => rfl); (case hg => rfl); (case hr => first | (go_simp; done) | (go_simp; rfl)); intro gb392 hg w58 hbox hb; have n0_ := Aside0.mk (Kd.R_below B8x10_ hb); have n1_ := Aside0.mk (Kd.R_below B8x12_ hb); have n2_ := Aside0.mk (Kd.R_below B8x14_ hb); have n3_ := Aside0.mk (Kd.R_below B8x15_ hb); have n4_ := Aside0.mk (Kd.R_below B8x18_ hb); have n5_ := Aside0.mk (Kd.R_below B8x20_ hb); have n6_ := Aside0.mk (blk_below (g := gb355) (o := .cells #[.slice Ao26 t349.length co26, .int .i64 t352, .int .i64 t353] 45 (0, 0)) B8x0_ hb); have n7_ := Aside0.mk (blk_below (g := gb362) (o := .cells #[.slice Ao30 t356.length co30, .int .i64 t359, .int .i64 t360] 45 (0, 0)) B8x1_ hb); have n8_ := Aside0.mk (blk_below (g := gb369) (o := .cells #[.slice Ao36 t363.length co36, .int .i64 t366, .int .i64 t367] 45 (0, 0)) B8x2_ hb); have n9_ := Aside0.mk (blk_below (g := gb377) (o := .cells #[.slice Ao43 t370.length co43, .int .i64 t373, .int .i64 t374] 45 (0, 0)) B8x5_ hb); have n10_ := Aside0.mk (blk_below (g := gb385) (o := .cells #[.slice Ao51 t378.length co51, .int .i64 t381, .int .i64 t382] 45 (0, 0)) B8x9_ hb); have n11_ := Aside0.mk (below_step B8x6_ hb); have n12_ := Aside0.mk (hbox); have n13_ := Aside0.mk ((by rw [hg]; exact (below_size B8x6_) : w.heap.size ≤ gb392)); have n14_ := Aside0.mk ((by rw [hg]; exact (below_size B8x6_) : w.heap.size ≤ gb392)); have n15_ := Aside0.mk ((by rw [hg]; exact Nat.ne_of_lt (blk_lt (g := gb355) (o := .cells #[.slice Ao26 t349.length co26, .int .i64 t352, .int .i64 t353] 45 (0, 0)) B8x0_) : gb355 ≠ gb392)); have n16_ := Aside0.mk ((by rw [hg]; exact Nat.ne_of_gt (blk_lt (g := gb355) (o := .cells #[.slice Ao26 t349.length co26, .int .i64 t352, .int .i64 t353] 45 (0, 0)) B8x0_) : gb392 ≠ gb355)); have n17_ := Aside0.mk ((by rw [hg]; exact Nat.ne_of_lt (blk_lt (g := gb362) (o := .cells #[.slice Ao30 t356.length co30, .int .i64 t359, .int .i64 t360] 45 (0, 0)) B8x1_) : gb362 ≠ gb392)); have n18_ := Aside0.mk ((by rw [hg]; exact Nat.ne_of_gt (blk_lt (g := gb362) (o := .cells #[.slice Ao30 t356.length co30, .int .i64 t359, .int .i64 t360] 45 (0, 0)) B8x1_) : gb392 ≠ gb362)); have n19_ := Aside0.mk ((by rw [hg]; exact Nat.ne_of_lt (blk_lt (g := gb369) (o := .cells #[.slice Ao36 t363.length co36, .int .i64 t366, .int .i64 t367] 45 (0, 0)) B8x2_) : gb369 ≠ gb392)); have n20_ := Aside0.mk ((by rw [hg]; exact Nat.ne_of_gt (blk_lt (g := gb369) (o := .cells #[.slice Ao36 t363.length co36, .int .i64 t366, .int .i64 t367] 45 (0, 0)) B8x2_) : gb392 ≠ gb369)); have n21_ := Aside0.mk ((by rw [hg]; exact Nat.ne_of_lt (blk_lt (g := gb377) (o := .cells #[.slice Ao43 t370.length co43, .int .i64 t373, .int .i64 t374] 45 (0, 0)) B8x5_) : gb377 ≠ gb392)); have n22_ := Aside0.mk ((by rw [hg]; exact Nat.ne_of_gt (blk_lt (g := gb377) (o := .cells #[.slice Ao43 t370.length co43, .int .i64 t373, .int .i64 t374] 45 (0, 0)) B8x5_) : gb392 ≠ gb377)); have n23_ := Aside0.mk ((by rw [hg]; exact Nat.ne_of_lt (blk_lt (g := gb385) (o := .cells #[.slice Ao51 t378.length co51, .int .i64 t381, .int .i64 t382] 45 (0, 0)) B8x9_) : gb385 ≠ gb392)); have n24_ := Aside0.mk ((by rw [hg]; exact Nat.ne_of_gt (blk_lt (g := gb385) (o := .cells #[.slice Ao51 t378.length co51, .int .i64 t381, .int .i64 t382] 45 (0, 0)) B8x9_) : gb392 ≠ gb385)); clear HO351; clear HO358; clear HO365; clear HO372; clear HO380; clear HO388; clear BK355; clear BK362; clear BK369; clear BK377; clear BK385; clear HB; have HO351 := n0_; have HO358 := n1_; have HO365 := n2_; have HO372 := n3_; have HO380 := n4_; have HO388 := n5_; have BK355 := n6_; have BK362 := n7_; have BK369 := n8_; have BK377 := n9_; have BK385 := n10_; have HB := n11_; have BK392 := n12_; have GW392 := n13_; have GE392 := n14_; have NB355_392 := n15_; have NB392_355 := n16_; have NB362_392 := n17_; have NB392_362 := n18_; have NB369_392 := n19_; have NB392_369 := n20_; have NB377_392 := n21_; have NB392_377 := n22_; have NB385_392 := n23_; have NB392_385 := n24_; clear n0_ n1_ n2_ n3_ n4_ n5_ n6_ n7_ n8_ n9_ n10_ n11_ n12_ n13_ n14_ n15_ n16_ n17_ n18_ n19_ n20_ n21_ n22_ n23_ n24_; clear hb hbox hg; obtain ⟨Ao59, co59, eo59⟩ := Kd.R_slice HO388.out; subst eo59; have hnb60 := NB392_355.out; have hnc60 := NB355_392.out; have hnb61 := NB392_362.out; have hnc61 := NB362_392.out; have hnb62 := NB392_369.out; have hnc62 := NB369_392.out; have hnb63 := NB392_377.out; have hnc63 := NB377_392.out; have hnb64 := NB392_385.out; have hnc64 := NB385_392.out; obtain ⟨hcz65_0, hcz65_1, hcz65_2⟩ := cl3 BK392.out; obtain ⟨hfz65_0, hfz65_1, hfz65_2⟩ := fr3 BK392.out) | ((with_reducible refine gate_callee (f := 29) rfl ?_); refine goesL_ (some 55) rfl rfl Try.func29 B8x54_ rfl #[.int .i64 9] rfl B8x3_ ?_; (with_reducible refine (impl_RingNew.calls 9 t393 t396 t397 false _ A10.out).mono ?_); rintro e w66 ⟨v394, rfl, ho0, hb⟩; refine ⟨_, rfl, ?_⟩; have n0_ := Aside0.mk (Kd.R_elder' B8x117_ (Kd.R_base ho0) hb); have n1_ := Aside0.mk (Kd.R_elder' B8x118_ (Kd.R_base ho0) hb); have n2_ := Aside0.mk (Kd.R_elder' B8x119_ (Kd.R_base ho0) hb); have n3_ := Aside0.mk (Kd.R_elder' B8x120_ (Kd.R_base ho0) hb); have n4_ := Aside0.mk (Kd.R_elder' B8x121_ (Kd.R_base ho0) hb); have n5_ := Aside0.mk (Kd.R_elder' B8x122_ (Kd.R_base ho0) hb); have n6_ := Aside0.mk (Kd.R_lower (Kd.R_new' (Kd.R_new' (Kd.R_new' (Kd.R_new' (Kd.R_new' (Kd.R_new' ho0 (Kd.R_lt B8x117_)) (Kd.R_lt B8x118_)) (Kd.R_lt B8x119_)) (Kd.R_lt B8x120_)) (Kd.R_lt B8x121_)) (Kd.R_lt B8x122_)) (below_size B8x4_)); have n7_ := Aside0.mk (blk_below (g := gb355) (o := .cells #[.slice Ao26 t349.length co26, .int .i64 t352, .int .i64 t353] 45 (0, 0)) B8x27_ hb); have n8_ := Aside0.mk (blk_below (g := gb362) (o := .cells #[.slice Ao30 t356.length co30, .int .i64 t359, .int .i64 t360] 45 (0, 0)) B8x31_ hb); have n9_ := Aside0.mk (blk_below (g := gb369) (o := .cells #[.slice Ao36 t363.length co36, .int .i64 t366, .int .i64 t367] 45 (0, 0)) B8x34_ hb); have n10_ := Aside0.mk (blk_below (g := gb377) (o := .cells #[.slice Ao43 t370.length co43, .int .i64 t373, .int .i64 t374] 45 (0, 0)) B8x36_ hb); have n11_ := Aside0.mk (blk_below (g := gb385) (o := .cells #[.slice Ao51 t378.length co51, .int .i64 t381, .int .i64 t382] 45 (0, 0)) B8x37_ hb); have n12_ := Aside0.mk (blk_below (g := gb392) (o := .cells #[.slice Ao59 t386.length co59, .int .i64 t389, .int .i64 t390] 45 (0, 0)) (by (with_reducible repeat (first | refine blk_drewN ?_ _ | refine blk_drew ?_ | refine blk_alloc ?_ _)); refine blk_put (cs := #[.slice Ao59 t386.length co59, .int .i64 t389, .int .i64 0]) ?_ 2 _ rfl; (with_reducible repeat (first | refine blk_drewN ?_ _ | refine blk_drew ?_ | refine blk_alloc ?_ _)); refine blk_put (cs := #[.slice Ao59 t386.length co59, .int .i64 0, .int .i64 0]) ?_ 1 _ rfl; (with_reducible repeat (first | refine blk_drewN ?_ _ | refine blk_drew ?_ | refine blk_alloc ?_ _)); refine blk_put (cs := #[.slice none 0 0, .int .i64 0, .int .i64 0]) ?_ 0 _ rfl; (with_reducible repeat (first | refine blk_drewN ?_ _ | refine blk_drew ?_ | refine blk_alloc ?_ _)); exact BK392.out) hb); have n13_ := Aside0.mk (below_step B8x4_ hb); clear HO351; clear HO358; clear HO365; clear HO372; clear HO380; clear HO388; clear BK355; clear BK362; clear BK369; clear BK377; clear BK385; clear BK392; clear HB; have HO351 := n0_; have HO358 := n1_; have HO365 := n2_; have HO372 := n3_; have HO380 := n4_; have HO388 := n5_; have HO395 := n6_; have BK355 := n7_; have BK362 := n8_; have BK369 := n9_; have BK377 := n10_; have BK385 := n11_; have BK392 := n12_; have HB := n13_; clear n0_ n1_ n2_ n3_ n4_ n5_ n6_ n7_ n8_ n9_ n10_ n11_ n12_ n13_; (try clear hb); (try clear hb2); (try clear hk); (try clear hi); (try clear ho0)) | ((with_reducible refine gate_dst (N := 17) rfl ?_); (try (refine gate_guard (by rfl) ?_; dsimp only)); refine box_event ?hg (N := 17) ?hd (cs := #[.slice none 0 0, .int .i64 0, .int .i64 0]) (t := 45) ?hr ?_; (case hd => rfl); (case hg => rfl); (case hr => first | (go_simp; done) | (go_simp; rfl)); intro gb399 hg w67 hbox hb; have n0_ := Aside0.mk (Kd.R_below B8x10_ hb); have n1_ := Aside0.mk (Kd.R_below B8x12_ hb); have n2_ := Aside0.mk (Kd.R_below B8x14_ hb); have n3_ := Aside0.mk (Kd.R_below B8x15_ hb); have n4_ := Aside0.mk (Kd.R_below B8x18_ hb); have n5_ := Aside0.mk (Kd.R_below B8x20_ hb); have n6_ := Aside0.mk (Kd.R_below B8x21_ hb); have n7_ := Aside0.mk (blk_below (g := gb355) (o := .cells #[.slice Ao26 t349.length co26, .int .i64 t352, .int .i64 t353] 45 (0, 0)) B8x0_ hb); have n8_ := Aside0.mk (blk_below (g := gb362) (o := .cells #[.slice Ao30 t356.length co30, .int .i64 t359, .int .i64 t360] 45 (0, 0)) B8x1_ hb); have n9_ := Aside0.mk (blk_below (g := gb369) (o := .cells #[.slice Ao36 t363.length co36, .int .i64 t366, .int .i64 t367] 45 (0, 0)) B8x2_ hb); have n10_ := Aside0.mk (blk_below (g := gb377) (o := .cells #[.slice Ao43 t370.length co43, .int .i64 t373, .int .i64 t374] 45 (0, 0)) B8x5_ hb); have n11_ := Aside0.mk (blk_below (g := gb385) (o := .cells #[.slice Ao51 t378.length co51, .int .i64 t381, .int .i64 t382] 45 (0, 0)) B8x9_ hb); have n12_ := Aside0.mk (blk_below (g := gb392) (o := .cells #[.slice Ao59 t386.length co59, .int .i64 t389, .int .i64 t390] 45 (0, 0)) B8x16_ hb); have n13_ := Aside0.mk (below_step B8x4_ hb); have n14_ := Aside0.mk (hbox); have n15_ := Aside0.mk ((by rw [hg]; exact (below_size B8x4_) : w.heap.size ≤ gb399)); have n16_ := Aside0.mk ((by rw [hg]; exact (below_size B8x4_) : w.heap.size ≤ gb399)); have n17_ := Aside0.mk ((by rw [hg]; exact Nat.ne_of_lt (blk_lt (g := gb355) (o := .cells #[.slice Ao26 t349.length co26, .int .i64 t352, .int .i64 t353] 45 (0, 0)) B8x0_) : gb355 ≠ gb399)); have n18_ := Aside0.mk ((by rw [hg]; exact Nat.ne_of_gt (blk_lt (g := gb355) (o := .cells #[.slice Ao26 t349.length co26, .int .i64 t352, .int .i64 t353] 45 (0, 0)) B8x0_) : gb399 ≠ gb355)); have n19_ := Aside0.mk ((by rw [hg]; exact Nat.ne_of_lt (blk_lt (g := gb362) (o := .cells #[.slice Ao30 t356.length co30, .int .i64 t359, .int .i64 t360] 45 (0, 0)) B8x1_) : gb362 ≠ gb399)); have n20_ := Aside0.mk ((by rw [hg]; exact Nat.ne_of_gt (blk_lt (g := gb362) (o := .cells #[.slice Ao30 t356.length co30, .int .i64 t359, .int .i64 t360] 45 (0, 0)) B8x1_) : gb399 ≠ gb362)); have n21_ := Aside0.mk ((by rw [hg]; exact Nat.ne_of_lt (blk_lt (g := gb369) (o := .cells #[.slice Ao36 t363.length co36, .int .i64 t366, .int .i64 t367] 45 (0, 0)) B8x2_) : gb369 ≠ gb399)); have n22_ := Aside0.mk ((by rw [hg]; exact Nat.ne_of_gt (blk_lt (g := gb369) (o := .cells #[.slice Ao36 t363.length co36, .int .i64 t366, .int .i64 t367] 45 (0, 0)) B8x2_) : gb399 ≠ gb369)); have n23_ := Aside0.mk ((by rw [hg]; exact Nat.ne_of_lt (blk_lt (g := gb377) (o := .cells #[.slice Ao43 t370.length co43, .int .i64 t373, .int .i64 t374] 45 (0, 0)) B8x5_) : gb377 ≠ gb399)); have n24_ := Aside0.mk ((by rw [hg]; exact Nat.ne_of_gt (blk_lt (g := gb377) (o := .cells #[.slice Ao43 t370.length co43, .int .i64 t373, .int .i64 t374] 45 (0, 0)) B8x5_) : gb399 ≠ gb377)); have n25_ := Aside0.mk ((by rw [hg]; exact Nat.ne_of_lt (blk_lt (g := gb385) (o := .cells #[.slice Ao51 t378.length co51, .int .i64 t381, .int .i64 t382] 45 (0, 0)) B8x9_) : gb385 ≠ gb399)); have n26_ := Aside0.mk ((by rw [hg]; exact Nat.ne_of_gt (blk_lt (g := gb385) (o := .cells #[.slice Ao51 t378.length co51, .int .i64 t381, .int .i64 t382] 45 (0, 0)) B8x9_) : gb399 ≠ gb385)); have n27_ := Aside0.mk ((by rw [hg]; exact Nat.ne_of_lt (blk_lt (g := gb392) (o := .cells #[.slice Ao59 t386.length co59, .int .i64 t389, .int .i64 t390] 45 (0, 0)) B8x16_) : gb392 ≠ gb399)); have n28_ := Aside0.mk ((by rw [hg]; exact Nat.ne_of_gt (blk_lt (g := gb392) (o := .cells #[.slice Ao59 t386.length co59, .int .i64 t389, .int .i64 t390] 45 (0, 0)) B8x16_) : gb399 ≠ gb392)); clear HO351; clear HO358; clear HO365; clear HO372; clear HO380; clear HO388; clear HO395; clear BK355; clear BK362; clear BK369; clear BK377; clear BK385; clear BK392; clear HB; have HO351 := n0_; have HO358 := n1_; have HO365 := n2_; have HO372 := n3_; have HO380 := n4_; have HO388 := n5_; have HO395 := n6_; have BK355 := n7_; have BK362 := n8_; have BK369 := n9_; have BK377 := n10_; have BK385 := n11_; have BK392 := n12_; have HB := n13_; have BK399 := n14_; have GW399 := n15_; have GE399 := n16_; have NB355_399 := n17_; have NB399_355 := n18_; have NB362_399 := n19_; have NB399_362 := n20_; have NB369_399 := n21_; have NB399_369 := n22_; have NB377_399 := n23_; have NB399_377 := n24_; have NB385_399 := n25_; have NB399_385 := n26_; have NB392_399 := n27_; have NB399_392 := n28_; clear n0_ n1_ n2_ n3_ n4_ n5_ n6_ n7_ n8_ n9_ n10_ n11_ n12_ n13_ n14_ n15_ n16_ n17_ n18_ n19_ n20_ n21_ n22_ n23_ n24_ n25_ n26_ n27_ n28_; clear hb hbox hg; obtain ⟨Ao68, co68, eo68⟩ := Kd.R_slice HO395.out; subst eo68; have hnb69 := NB399_355.out; have hnc69 := NB355_399.out; have hnb70 := NB399_362.out; have hnc70 := NB362_399.out; have hnb71 := NB399_369.out; have hnc71 := NB369_399.out; have hnb72 := NB399_377.out; have hnc72 := NB377_399.out; have hnb73 := NB399_385.out; have hnc73 := NB385_399.out; have hnb74 := NB399_392.out; have hnc74 := NB392_399.out; obtain ⟨hcz75_0, hcz75_1, hcz75_2⟩ := cl3 BK399.out; obtain ⟨hfz75_0, hfz75_1, hfz75_2⟩ := fr3 BK399.out))
           have n0_ : Aside0 (Kd.R k105 105 (((w67.setCell ⟨gb399, 0, none⟩ (.slice Ao68 t393.length co68)).setCell ⟨gb399, 1, none⟩ (.int .i64 t396)).setCell ⟨gb399, 2, none⟩ (.int .i64 t397)) w.heap.size (fun k_ => some k_ ≠ (.slice Ao30 t356.length co30 : Value).ownBlock ∧ some k_ ≠ (.slice Ao36 t363.length co36 : Value).ownBlock ∧ some k_ ≠ (.slice Ao43 t370.length co43 : Value).ownBlock ∧ some k_ ≠ (.slice Ao51 t378.length co51 : Value).ownBlock ∧ some k_ ≠ (.slice Ao59 t386.length co59 : Value).ownBlock ∧ some k_ ≠ (.slice Ao68 t393.length co68 : Value).ownBlock) (.slice Ao26 t349.length co26) t349) := ⟨by (with_reducible repeat (first | apply Kd.R_alloc | apply Kd.R_drewN | apply Kd.R_drew)); exact Kd.R_mono (Kd.R_far (p := ⟨gb399, 2, none⟩) (Kd.R_far (p := ⟨gb399, 1, none⟩) (Kd.R_far (p := ⟨gb399, 0, none⟩) (Kd.R_types HO351.out BK399.out (by decide)) (fun _ hk => hk.2) (.slice Ao68 t393.length co68)) (fun _ hk => hk.2) (.int .i64 t396)) (fun _ hk => hk.2) (.int .i64 t397)) (fun _ hk => ⟨hk.1.1.1.1.1.1.2, ⟨hk.1.1.1.1.1.2, ⟨hk.1.1.1.1.2, ⟨hk.1.1.1.2, ⟨hk.1.1.2, hk.1.2⟩⟩⟩⟩⟩)⟩
           have n1_ : Aside0 (Kd.R k105 105 (((w67.setCell ⟨gb399, 0, none⟩ (.slice Ao68 t393.length co68)).setCell ⟨gb399, 1, none⟩ (.int .i64 t396)).setCell ⟨gb399, 2, none⟩ (.int .i64 t397)) w.heap.size (fun k_ => some k_ ≠ (.slice Ao26 t349.length co26 : Value).ownBlock ∧ some k_ ≠ (.slice Ao36 t363.length co36 : Value).ownBlock ∧ some k_ ≠ (.slice Ao43 t370.length co43 : Value).ownBlock ∧ some k_ ≠ (.slice Ao51 t378.length co51 : Value).ownBlock ∧ some k_ ≠ (.slice Ao59 t386.length co59 : Value).ownBlock ∧ some k_ ≠ (.slice Ao68 t393.length co68 : Value).ownBlock) (.slice Ao30 t356.length co30) t356) := ⟨by (with_reducible repeat (first | apply Kd.R_alloc | apply Kd.R_drewN | apply Kd.R_drew)); exact Kd.R_mono (Kd.R_far (p := ⟨gb399, 2, none⟩) (Kd.R_far (p := ⟨gb399, 1, none⟩) (Kd.R_far (p := ⟨gb399, 0, none⟩) (Kd.R_types HO358.out BK399.out (by decide)) (fun _ hk => hk.2) (.slice Ao68 t393.length co68)) (fun _ hk => hk.2) (.int .i64 t396)) (fun _ hk => hk.2) (.int .i64 t397)) (fun _ hk => ⟨hk.1.1.1.1.1.1.2, ⟨hk.1.1.1.1.1.2, ⟨hk.1.1.1.1.2, ⟨hk.1.1.1.2, ⟨hk.1.1.2, hk.1.2⟩⟩⟩⟩⟩)⟩
           have n2_ : Aside0 (Kd.R k105 105 (((w67.setCell ⟨gb399, 0, none⟩ (.slice Ao68 t393.length co68)).setCell ⟨gb399, 1, none⟩ (.int .i64 t396)).setCell ⟨gb399, 2, none⟩ (.int .i64 t397)) w.heap.size (fun k_ => some k_ ≠ (.slice Ao26 t349.length co26 : Value).ownBlock ∧ some k_ ≠ (.slice Ao30 t356.length co30 : Value).ownBlock ∧ some k_ ≠ (.slice Ao43 t370.length co43 : Value).ownBlock ∧ some k_ ≠ (.slice Ao51 t378.length co51 : Value).ownBlock ∧ some k_ ≠ (.slice Ao59 t386.length co59 : Value).ownBlock ∧ some k_ ≠ (.slice Ao68 t393.length co68 : Value).ownBlock) (.slice Ao36 t363.length co36) t363) := ⟨by (with_reducible repeat (first | apply Kd.R_alloc | apply Kd.R_drewN | apply Kd.R_drew)); exact Kd.R_mono (Kd.R_far (p := ⟨gb399, 2, none⟩) (Kd.R_far (p := ⟨gb399, 1, none⟩) (Kd.R_far (p := ⟨gb399, 0, none⟩) (Kd.R_types HO365.out BK399.out (by decide)) (fun _ hk => hk.2) (.slice Ao68 t393.length co68)) (fun _ hk => hk.2) (.int .i64 t396)) (fun _ hk => hk.2) (.int .i64 t397)) (fun _ hk => ⟨hk.1.1.1.1.1.1.2, ⟨hk.1.1.1.1.1.2, ⟨hk.1.1.1.1.2, ⟨hk.1.1.1.2, ⟨hk.1.1.2, hk.1.2⟩⟩⟩⟩⟩)⟩
           have n3_ : Aside0 (Kd.R k105 105 (((w67.setCell ⟨gb399, 0, none⟩ (.slice Ao68 t393.length co68)).setCell ⟨gb399, 1, none⟩ (.int .i64 t396)).setCell ⟨gb399, 2, none⟩ (.int .i64 t397)) w.heap.size (fun k_ => some k_ ≠ (.slice Ao26 t349.length co26 : Value).ownBlock ∧ some k_ ≠ (.slice Ao30 t356.length co30 : Value).ownBlock ∧ some k_ ≠ (.slice Ao36 t363.length co36 : Value).ownBlock ∧ some k_ ≠ (.slice Ao51 t378.length co51 : Value).ownBlock ∧ some k_ ≠ (.slice Ao59 t386.length co59 : Value).ownBlock ∧ some k_ ≠ (.slice Ao68 t393.length co68 : Value).ownBlock) (.slice Ao43 t370.length co43) t370) := ⟨by (with_reducible repeat (first | apply Kd.R_alloc | apply Kd.R_drewN | apply Kd.R_drew)); exact Kd.R_mono (Kd.R_far (p := ⟨gb399, 2, none⟩) (Kd.R_far (p := ⟨gb399, 1, none⟩) (Kd.R_far (p := ⟨gb399, 0, none⟩) (Kd.R_types HO372.out BK399.out (by decide)) (fun _ hk => hk.2) (.slice Ao68 t393.length co68)) (fun _ hk => hk.2) (.int .i64 t396)) (fun _ hk => hk.2) (.int .i64 t397)) (fun _ hk => ⟨hk.1.1.1.1.1.1.2, ⟨hk.1.1.1.1.1.2, ⟨hk.1.1.1.1.2, ⟨hk.1.1.1.2, ⟨hk.1.1.2, hk.1.2⟩⟩⟩⟩⟩)⟩
           have n4_ : Aside0 (Kd.R k105 105 (((w67.setCell ⟨gb399, 0, none⟩ (.slice Ao68 t393.length co68)).setCell ⟨gb399, 1, none⟩ (.int .i64 t396)).setCell ⟨gb399, 2, none⟩ (.int .i64 t397)) w.heap.size (fun k_ => some k_ ≠ (.slice Ao26 t349.length co26 : Value).ownBlock ∧ some k_ ≠ (.slice Ao30 t356.length co30 : Value).ownBlock ∧ some k_ ≠ (.slice Ao36 t363.length co36 : Value).ownBlock ∧ some k_ ≠ (.slice Ao43 t370.length co43 : Value).ownBlock ∧ some k_ ≠ (.slice Ao59 t386.length co59 : Value).ownBlock ∧ some k_ ≠ (.slice Ao68 t393.length co68 : Value).ownBlock) (.slice Ao51 t378.length co51) t378) := ⟨by (with_reducible repeat (first | apply Kd.R_alloc | apply Kd.R_drewN | apply Kd.R_drew)); exact Kd.R_mono (Kd.R_far (p := ⟨gb399, 2, none⟩) (Kd.R_far (p := ⟨gb399, 1, none⟩) (Kd.R_far (p := ⟨gb399, 0, none⟩) (Kd.R_types HO380.out BK399.out (by decide)) (fun _ hk => hk.2) (.slice Ao68 t393.length co68)) (fun _ hk => hk.2) (.int .i64 t396)) (fun _ hk => hk.2) (.int .i64 t397)) (fun _ hk => ⟨hk.1.1.1.1.1.1.2, ⟨hk.1.1.1.1.1.2, ⟨hk.1.1.1.1.2, ⟨hk.1.1.1.2, ⟨hk.1.1.2, hk.1.2⟩⟩⟩⟩⟩)⟩
           have n5_ : Aside0 (Kd.R k105 105 (((w67.setCell ⟨gb399, 0, none⟩ (.slice Ao68 t393.length co68)).setCell ⟨gb399, 1, none⟩ (.int .i64 t396)).setCell ⟨gb399, 2, none⟩ (.int .i64 t397)) w.heap.size (fun k_ => some k_ ≠ (.slice Ao26 t349.length co26 : Value).ownBlock ∧ some k_ ≠ (.slice Ao30 t356.length co30 : Value).ownBlock ∧ some k_ ≠ (.slice Ao36 t363.length co36 : Value).ownBlock ∧ some k_ ≠ (.slice Ao43 t370.length co43 : Value).ownBlock ∧ some k_ ≠ (.slice Ao51 t378.length co51 : Value).ownBlock ∧ some k_ ≠ (.slice Ao68 t393.length co68 : Value).ownBlock) (.slice Ao59 t386.length co59) t386) := ⟨by (with_reducible repeat (first | apply Kd.R_alloc | apply Kd.R_drewN | apply Kd.R_drew)); exact Kd.R_mono (Kd.R_far (p := ⟨gb399, 2, none⟩) (Kd.R_far (p := ⟨gb399, 1, none⟩) (Kd.R_far (p := ⟨gb399, 0, none⟩) (Kd.R_types HO388.out BK399.out (by decide)) (fun _ hk => hk.2) (.slice Ao68 t393.length co68)) (fun _ hk => hk.2) (.int .i64 t396)) (fun _ hk => hk.2) (.int .i64 t397)) (fun _ hk => ⟨hk.1.1.1.1.1.1.2, ⟨hk.1.1.1.1.1.2, ⟨hk.1.1.1.1.2, ⟨hk.1.1.1.2, ⟨hk.1.1.2, hk.1.2⟩⟩⟩⟩⟩)⟩
           have n6_ : Aside0 (Kd.R k105 105 (((w67.setCell ⟨gb399, 0, none⟩ (.slice Ao68 t393.length co68)).setCell ⟨gb399, 1, none⟩ (.int .i64 t396)).setCell ⟨gb399, 2, none⟩ (.int .i64 t397)) w.heap.size (fun k_ => some k_ ≠ (.slice Ao26 t349.length co26 : Value).ownBlock ∧ some k_ ≠ (.slice Ao30 t356.length co30 : Value).ownBlock ∧ some k_ ≠ (.slice Ao36 t363.length co36 : Value).ownBlock ∧ some k_ ≠ (.slice Ao43 t370.length co43 : Value).ownBlock ∧ some k_ ≠ (.slice Ao51 t378.length co51 : Value).ownBlock ∧ some k_ ≠ (.slice Ao59 t386.length co59 : Value).ownBlock) (.slice Ao68 t393.length co68) t393) := ⟨by (with_reducible repeat (first | apply Kd.R_alloc | apply Kd.R_drewN | apply Kd.R_drew)); exact Kd.R_mono (Kd.R_far (p := ⟨gb399, 2, none⟩) (Kd.R_far (p := ⟨gb399, 1, none⟩) (Kd.R_far (p := ⟨gb399, 0, none⟩) (Kd.R_types HO395.out BK399.out (by decide)) (fun _ hk => hk.2) (.slice Ao68 t393.length co68)) (fun _ hk => hk.2) (.int .i64 t396)) (fun _ hk => hk.2) (.int .i64 t397)) (fun _ hk => ⟨hk.1.1.1.1.1.1.2, ⟨hk.1.1.1.1.1.2, ⟨hk.1.1.1.1.2, ⟨hk.1.1.1.2, ⟨hk.1.1.2, hk.1.2⟩⟩⟩⟩⟩)⟩
           have n7_ : Aside0 ((((w67.setCell ⟨gb399, 0, none⟩ (.slice Ao68 t393.length co68)).setCell ⟨gb399, 1, none⟩ (.int .i64 t396)).setCell ⟨gb399, 2, none⟩ (.int .i64 t397)).heap[gb355]? = some (.cells #[.slice Ao26 t349.length co26, .int .i64 t352, .int .i64 t353] 45 (0, 0))) := ⟨by (with_reducible repeat (first | refine blk_drewN ?_ _ | refine blk_drew ?_ | refine blk_alloc ?_ _)); refine blk_far ?_ NB355_399.out _; (with_reducible repeat (first | refine blk_drewN ?_ _ | refine blk_drew ?_ | refine blk_alloc ?_ _)); refine blk_far ?_ NB355_399.out _; (with_reducible repeat (first | refine blk_drewN ?_ _ | refine blk_drew ?_ | refine blk_alloc ?_ _)); refine blk_far ?_ NB355_399.out _; (with_reducible repeat (first | refine blk_drewN ?_ _ | refine blk_drew ?_ | refine blk_alloc ?_ _)); exact BK355.out⟩
           have n8_ : Aside0 ((((w67.setCell ⟨gb399, 0, none⟩ (.slice Ao68 t393.length co68)).setCell ⟨gb399, 1, none⟩ (.int .i64 t396)).setCell ⟨gb399, 2, none⟩ (.int .i64 t397)).heap[gb362]? = some (.cells #[.slice Ao30 t356.length co30, .int .i64 t359, .int .i64 t360] 45 (0, 0))) := ⟨by (with_reducible repeat (first | refine blk_drewN ?_ _ | refine blk_drew ?_ | refine blk_alloc ?_ _)); refine blk_far ?_ NB362_399.out _; (with_reducible repeat (first | refine blk_drewN ?_ _ | refine blk_drew ?_ | refine blk_alloc ?_ _)); refine blk_far ?_ NB362_399.out _; (with_reducible repeat (first | refine blk_drewN ?_ _ | refine blk_drew ?_ | refine blk_alloc ?_ _)); refine blk_far ?_ NB362_399.out _; (with_reducible repeat (first | refine blk_drewN ?_ _ | refine blk_drew ?_ | refine blk_alloc ?_ _)); exact BK362.out⟩
           have n9_ : Aside0 ((((w67.setCell ⟨gb399, 0, none⟩ (.slice Ao68 t393.length co68)).setCell ⟨gb399, 1, none⟩ (.int .i64 t396)).setCell ⟨gb399, 2, none⟩ (.int .i64 t397)).heap[gb369]? = some (.cells #[.slice Ao36 t363.length co36, .int .i64 t366, .int .i64 t367] 45 (0, 0))) := ⟨by (with_reducible repeat (first | refine blk_drewN ?_ _ | refine blk_drew ?_ | refine blk_alloc ?_ _)); refine blk_far ?_ NB369_399.out _; (with_reducible repeat (first | refine blk_drewN ?_ _ | refine blk_drew ?_ | refine blk_alloc ?_ _)); refine blk_far ?_ NB369_399.out _; (with_reducible repeat (first | refine blk_drewN ?_ _ | refine blk_drew ?_ | refine blk_alloc ?_ _)); refine blk_far ?_ NB369_399.out _; (with_reducible repeat (first | refine blk_drewN ?_ _ | refine blk_drew ?_ | refine blk_alloc ?_ _)); exact BK369.out⟩
           have n10_ : Aside0 ((((w67.setCell ⟨gb399, 0, none⟩ (.slice Ao68 t393.length co68)).setCell ⟨gb399, 1, none⟩ (.int .i64 t396)).setCell ⟨gb399, 2, none⟩ (.int .i64 t397)).heap[gb377]? = some (.cells #[.slice Ao43 t370.length co43, .int .i64 t373, .int .i64 t374] 45 (0, 0))) := ⟨by (with_reducible repeat (first | refine blk_drewN ?_ _ | refine blk_drew ?_ | refine blk_alloc ?_ _)); refine blk_far ?_ NB377_399.out _; (with_reducible repeat (first | refine blk_drewN ?_ _ | refine blk_drew ?_ | refine blk_alloc ?_ _)); refine blk_far ?_ NB377_399.out _; (with_reducible repeat (first | refine blk_drewN ?_ _ | refine blk_drew ?_ | refine blk_alloc ?_ _)); refine blk_far ?_ NB377_399.out _; (with_reducible repeat (first | refine blk_drewN ?_ _ | refine blk_drew ?_ | refine blk_alloc ?_ _)); exact BK377.out⟩
           have n11_ : Aside0 ((((w67.setCell ⟨gb399, 0, none⟩ (.slice Ao68 t393.length co68)).setCell ⟨gb399, 1, none⟩ (.int .i64 t396)).setCell ⟨gb399, 2, none⟩ (.int .i64 t397)).heap[gb385]? = some (.cells #[.slice Ao51 t378.length co51, .int .i64 t381, .int .i64 t382] 45 (0, 0))) := ⟨by (with_reducible repeat (first | refine blk_drewN ?_ _ | refine blk_drew ?_ | refine blk_alloc ?_ _)); refine blk_far ?_ NB385_399.out _; (with_reducible repeat (first | refine blk_drewN ?_ _ | refine blk_drew ?_ | refine blk_alloc ?_ _)); refine blk_far ?_ NB385_399.out _; (with_reducible repeat (first | refine blk_drewN ?_ _ | refine blk_drew ?_ | refine blk_alloc ?_ _)); refine blk_far ?_ NB385_399.out _; (with_reducible repeat (first | refine blk_drewN ?_ _ | refine blk_drew ?_ | refine blk_alloc ?_ _)); exact BK385.out⟩
           have n12_ : Aside0 ((((w67.setCell ⟨gb399, 0, none⟩ (.slice Ao68 t393.length co68)).setCell ⟨gb399, 1, none⟩ (.int .i64 t396)).setCell ⟨gb399, 2, none⟩ (.int .i64 t397)).heap[gb392]? = some (.cells #[.slice Ao59 t386.length co59, .int .i64 t389, .int .i64 t390] 45 (0, 0))) := ⟨by (with_reducible repeat (first | refine blk_drewN ?_ _ | refine blk_drew ?_ | refine blk_alloc ?_ _)); refine blk_far ?_ NB392_399.out _; (with_reducible repeat (first | refine blk_drewN ?_ _ | refine blk_drew ?_ | refine blk_alloc ?_ _)); refine blk_far ?_ NB392_399.out _; (with_reducible repeat (first | refine blk_drewN ?_ _ | refine blk_drew ?_ | refine blk_alloc ?_ _)); refine blk_far ?_ NB392_399.out _; (with_reducible repeat (first | refine blk_drewN ?_ _ | refine blk_drew ?_ | refine blk_alloc ?_ _)); exact BK392.out⟩
           have n13_ : Aside0 ((((w67.setCell ⟨gb399, 0, none⟩ (.slice Ao68 t393.length co68)).setCell ⟨gb399, 1, none⟩ (.int .i64 t396)).setCell ⟨gb399, 2, none⟩ (.int .i64 t397)).heap[gb399]? = some (.cells #[.slice Ao68 t393.length co68, .int .i64 t396, .int .i64 t397] 45 (0, 0))) := ⟨by (with_reducible repeat (first | refine blk_drewN ?_ _ | refine blk_drew ?_ | refine blk_alloc ?_ _)); refine blk_put (cs := #[.slice Ao68 t393.length co68, .int .i64 t396, .int .i64 0]) ?_ 2 _ rfl; (with_reducible repeat (first | refine blk_drewN ?_ _ | refine blk_drew ?_ | refine blk_alloc ?_ _)); refine blk_put (cs := #[.slice Ao68 t393.length co68, .int .i64 0, .int .i64 0]) ?_ 1 _ rfl; (with_reducible repeat (first | refine blk_drewN ?_ _ | refine blk_drew ?_ | refine blk_alloc ?_ _)); refine blk_put (cs := #[.slice none 0 0, .int .i64 0, .int .i64 0]) ?_ 0 _ rfl; (with_reducible repeat (first | refine blk_drewN ?_ _ | refine blk_drew ?_ | refine blk_alloc ?_ _)); exact BK399.out⟩
           have n14_ : Aside0 (Below w.heap.size w (((w67.setCell ⟨gb399, 0, none⟩ (.slice Ao68 t393.length co68)).setCell ⟨gb399, 1, none⟩ (.int .i64 t396)).setCell ⟨gb399, 2, none⟩ (.int .i64 t397))) := ⟨by repeat (first | (with_reducible first | exact HB.out | apply below_alloc | apply pw_below_drewN | apply below_drew1 | refine below_set ?_ GE355.out | refine below_set ?_ GE362.out | refine below_set ?_ GE369.out | refine below_set ?_ GE377.out | refine below_set ?_ GE385.out | refine below_set ?_ GE392.out | refine below_set ?_ GE399.out) | exact HB.out)⟩
           (try clear HO351)
           (try clear HO358)
           (try clear HO365)
           (try clear HO372)
           (try clear HO380)
           (try clear HO388)
           (try clear HO395)
           (try clear BK355)
           (try clear BK362)
           (try clear BK369)
           (try clear BK377)
           (try clear BK385)
           (try clear BK392)
           (try clear BK399)
           (try clear HB)
           generalize (((w67.setCell ⟨gb399, 0, none⟩ (.slice Ao68 t393.length co68)).setCell ⟨gb399, 1, none⟩ (.int .i64 t396)).setCell ⟨gb399, 2, none⟩ (.int .i64 t397)) = w76 at n0_ n1_ n2_ n3_ n4_ n5_ n6_ n7_ n8_ n9_ n10_ n11_ n12_ n13_ n14_ ⊢
           have HO351 := n0_
           have HO358 := n1_
           have HO365 := n2_
           have HO372 := n3_
           have HO380 := n4_
           have HO388 := n5_
           have HO395 := n6_
           have BK355 := n7_
           have BK362 := n8_
           have BK369 := n9_
           have BK377 := n10_
           have BK385 := n11_
           have BK392 := n12_
           have BK399 := n13_
           have HB := n14_
           clear n0_ n1_ n2_ n3_ n4_ n5_ n6_ n7_ n8_ n9_ n10_ n11_ n12_ n13_ n14_
           have n0_ := Aside0.mk (Kd.R_drew HO351.out)
           have n1_ := Aside0.mk (Kd.R_drew HO358.out)
           have n2_ := Aside0.mk (Kd.R_drew HO365.out)
           have n3_ := Aside0.mk (Kd.R_drew HO372.out)
           have n4_ := Aside0.mk (Kd.R_drew HO380.out)
           have n5_ := Aside0.mk (Kd.R_drew HO388.out)
           have n6_ := Aside0.mk (Kd.R_drew HO395.out)
           have n7_ := Aside0.mk (blk_drew BK355.out)
           have n8_ := Aside0.mk (blk_drew BK362.out)
           have n9_ := Aside0.mk (blk_drew BK369.out)
           have n10_ := Aside0.mk (blk_drew BK377.out)
           have n11_ := Aside0.mk (blk_drew BK385.out)
           have n12_ := Aside0.mk (blk_drew BK392.out)
           have n13_ := Aside0.mk (blk_drew BK399.out)
           have n14_ := Aside0.mk (below_drew1 HB.out)
           clear HO351
           clear HO358
           clear HO365
           clear HO372
           clear HO380
           clear HO388
           clear HO395
           clear BK355
           clear BK362
           clear BK369
           clear BK377
           clear BK385
           clear BK392
           clear BK399
           clear HB
           have HO351 := n0_
           have HO358 := n1_
           have HO365 := n2_
           have HO372 := n3_
           have HO380 := n4_
           have HO388 := n5_
           have HO395 := n6_
           have BK355 := n7_
           have BK362 := n8_
           have BK369 := n9_
           have BK377 := n10_
           have BK385 := n11_
           have BK392 := n12_
           have BK399 := n13_
           have HB := n14_
           clear n0_ n1_ n2_ n3_ n4_ n5_ n6_ n7_ n8_ n9_ n10_ n11_ n12_ n13_ n14_
           refine start_ (n := 70) (S := fun w' => w'.cell? ⟨gb355, 0, none⟩ = some (.slice Ao26 t349.length co26) ∧ w'.cell? ⟨gb355, 1, none⟩ = some (.int .i64 t352) ∧ w'.cell? ⟨gb355, 2, none⟩ = some (.int .i64 t353) ∧ w'.cell? ⟨gb392, 0, none⟩ = some (.slice Ao59 t386.length co59) ∧ w'.cell? ⟨gb392, 1, none⟩ = some (.int .i64 t389) ∧ w'.cell? ⟨gb392, 2, none⟩ = some (.int .i64 t390)) (ds := []) #[false, false, false, false, false, false, false, false, false, false, false, false, false, false, false, false, false, false, false, false, false, false, false, false, false, false, false, false, false, false, false, false, false, false, false, false, false, false, false, false, false, false, false, false, false, false, false, false, false, false, false, false, false, false, false, false, false, false, false, false, false, false, false, false, false, false, false, false, false, false] B8x54_ rfl rfl ⟨(blk_cell BK355.out 0).trans rfl, (blk_cell BK355.out 1).trans rfl, (blk_cell BK355.out 2).trans rfl, (blk_cell BK392.out 0).trans rfl, (blk_cell BK392.out 1).trans rfl, (blk_cell BK392.out 2).trans rfl⟩ (fun hHeld => ?_); refine with_tabW laws_FnRingsTold.tab10 laws_FnRingsTold.bits10 (fun HT_ HW_ => ?_)
           generalize w76.drew = w77 at HO351 HO358 HO365 HO372 HO380 HO388 HO395 BK355 BK362 BK369 BK377 BK385 BK392 BK399 HB hHeld ⊢
           refine ta_ 0 58 HT_ HW_ hHeld ?_
           refine ta_ 2 60 HT_ HW_ hHeld ?_
           refine one_ (i := 1) (N := some 59) #[true, true, true, false, false, false, false, false, false, false, false, false, false, false, false, false, false, false, false, false, false, false, false, false, false, false, false, false, false, false, false, false, false, false, false, false, false, false, false, false, false, false, false, false, false, false, false, false, false, false, false, false, false, false, false, false, false, false, false, false, false, false, false, false, false, false, false, false, false, false] rfl rfl (one_of HT_.out B8x54_) (by decide) (fun K hK => ?_)
           refine goes_ Try.func30 B8x54_ rfl #[.agg #[.slice Ao26 t349.length co26, .int .i64 t352, .int .i64 t353]] (by rfl) rfl rfl B8x3_ ?_
           with_reducible refine (impl_RingOk.calls k _ _ t349 t352 t353 t400 _ ?side1 ?side2 A11.out).mono ?_
           (case side1 => repeat (first | exact (Kd.R_reads' HO351.out).2.2 | (with_reducible refine Kd.C_alloc ?_ _) | (with_reducible refine Kd.C_drewN ?_ _) | (with_reducible refine Kd.C_drew ?_)))
           (case side2 => exact (Kd.R_reads' HO351.out).2.1)
           rintro e w78 ⟨rfl, hb⟩
           refine ⟨_, rfl, ?_⟩
           have n0_ := Aside0.mk (Kd.R_below B8x10_ hb)
           have n1_ := Aside0.mk (Kd.R_below B8x12_ hb)
           have n2_ := Aside0.mk (Kd.R_below B8x14_ hb)
           have n3_ := Aside0.mk (Kd.R_below B8x15_ hb)
           have n4_ := Aside0.mk (Kd.R_below B8x18_ hb)
           have n5_ := Aside0.mk (Kd.R_below B8x20_ hb)
           have n6_ := Aside0.mk (Kd.R_below B8x21_ hb)
           have n7_ := Aside0.mk (blk_below (g := gb355) (o := .cells #[.slice Ao26 t349.length co26, .int .i64 t352, .int .i64 t353] 45 (0, 0)) B8x0_ hb)
           have n8_ := Aside0.mk (blk_below (g := gb362) (o := .cells #[.slice Ao30 t356.length co30, .int .i64 t359, .int .i64 t360] 45 (0, 0)) B8x1_ hb)
           have n9_ := Aside0.mk (blk_below (g := gb369) (o := .cells #[.slice Ao36 t363.length co36, .int .i64 t366, .int .i64 t367] 45 (0, 0)) B8x2_ hb)
           have n10_ := Aside0.mk (blk_below (g := gb377) (o := .cells #[.slice Ao43 t370.length co43, .int .i64 t373, .int .i64 t374] 45 (0, 0)) B8x5_ hb)
           have n11_ := Aside0.mk (blk_below (g := gb385) (o := .cells #[.slice Ao51 t378.length co51, .int .i64 t381, .int .i64 t382] 45 (0, 0)) B8x9_ hb)
           have n12_ := Aside0.mk (blk_below (g := gb392) (o := .cells #[.slice Ao59 t386.length co59, .int .i64 t389, .int .i64 t390] 45 (0, 0)) B8x16_ hb)
           have n13_ := Aside0.mk (blk_below (g := gb399) (o := .cells #[.slice Ao68 t393.length co68, .int .i64 t396, .int .i64 t397] 45 (0, 0)) B8x22_ hb)
           have n14_ := Aside0.mk (below_step B8x7_ hb)
           clear HO351
           clear HO358
           clear HO365
           clear HO372
           clear HO380
           clear HO388
           clear HO395
           clear BK355
           clear BK362
           clear BK369
           clear BK377
           clear BK385
           clear BK392
           clear BK399
           clear HB
           have HO351 := n0_
           have HO358 := n1_
           have HO365 := n2_
           have HO372 := n3_
           have HO380 := n4_
           have HO388 := n5_
           have HO395 := n6_
           have BK355 := n7_
           have BK362 := n8_
           have BK369 := n9_
           have BK377 := n10_
           have BK385 := n11_
           have BK392 := n12_
           have BK399 := n13_
           have HB := n14_
           clear n0_ n1_ n2_ n3_ n4_ n5_ n6_ n7_ n8_ n9_ n10_ n11_ n12_ n13_ n14_
           (try clear hb)
           (try clear hb2)
           (try clear hk)
           (try clear hi)
           refine hK.out _ _ ⟨(blk_cell BK355.out 0).trans rfl, (blk_cell BK355.out 1).trans rfl, (blk_cell BK355.out 2).trans rfl, (blk_cell BK392.out 0).trans rfl, (blk_cell BK392.out 1).trans rfl, (blk_cell BK392.out 2).trans rfl⟩ (fun hHeld => ?_)
           clear hK K
           refine norm_ (a' := ?_) ?_ ?_
           rotate_left
           ·show Act.put _ (some 59) _ = _
            simp only [Act.put, List.setIfInBounds_toArray, List.set_cons_zero, List.set_cons_succ, i64_w, i32_w]
            rfl
           refine one_ (i := 3) (N := some 61) #[true, true, true, true, false, false, false, false, false, false, false, false, false, false, false, false, false, false, false, false, false, false, false, false, false, false, false, false, false, false, false, false, false, false, false, false, false, false, false, false, false, false, false, false, false, false, false, false, false, false, false, false, false, false, false, false, false, false, false, false, false, false, false, false, false, false, false, false, false, false] rfl rfl (one_of HT_.out B8x54_) (by decide) (fun K hK => ?_)
           refine goes_ Try.func31 B8x54_ rfl #[.agg #[.slice Ao26 t349.length co26, .int .i64 t352, .int .i64 t353]] (by rfl) rfl rfl B8x3_ ?_
           with_reducible refine (spec_RingOk.calls k _ _ t349 t352 t353 t401 _ ?side1 ?side2 A12.out).mono ?_
           (case side1 => repeat (first | exact (Kd.R_reads' HO351.out).2.2 | (with_reducible refine Kd.C_alloc ?_ _) | (with_reducible refine Kd.C_drewN ?_ _) | (with_reducible refine Kd.C_drew ?_)))
           (case side2 => exact (Kd.R_reads' HO351.out).2.1)
           rintro e w79 ⟨rfl, hb⟩
           refine ⟨_, rfl, ?_⟩
           have n0_ := Aside0.mk (Kd.R_below B8x10_ hb)
           have n1_ := Aside0.mk (Kd.R_below B8x12_ hb)
           have n2_ := Aside0.mk (Kd.R_below B8x14_ hb)
           have n3_ := Aside0.mk (Kd.R_below B8x15_ hb)
           have n4_ := Aside0.mk (Kd.R_below B8x18_ hb)
           have n5_ := Aside0.mk (Kd.R_below B8x20_ hb)
           have n6_ := Aside0.mk (Kd.R_below B8x21_ hb)
           have n7_ := Aside0.mk (blk_below (g := gb355) (o := .cells #[.slice Ao26 t349.length co26, .int .i64 t352, .int .i64 t353] 45 (0, 0)) B8x0_ hb)
           have n8_ := Aside0.mk (blk_below (g := gb362) (o := .cells #[.slice Ao30 t356.length co30, .int .i64 t359, .int .i64 t360] 45 (0, 0)) B8x1_ hb)
           have n9_ := Aside0.mk (blk_below (g := gb369) (o := .cells #[.slice Ao36 t363.length co36, .int .i64 t366, .int .i64 t367] 45 (0, 0)) B8x2_ hb)
           have n10_ := Aside0.mk (blk_below (g := gb377) (o := .cells #[.slice Ao43 t370.length co43, .int .i64 t373, .int .i64 t374] 45 (0, 0)) B8x5_ hb)
           have n11_ := Aside0.mk (blk_below (g := gb385) (o := .cells #[.slice Ao51 t378.length co51, .int .i64 t381, .int .i64 t382] 45 (0, 0)) B8x9_ hb)
           have n12_ := Aside0.mk (blk_below (g := gb392) (o := .cells #[.slice Ao59 t386.length co59, .int .i64 t389, .int .i64 t390] 45 (0, 0)) B8x16_ hb)
           have n13_ := Aside0.mk (blk_below (g := gb399) (o := .cells #[.slice Ao68 t393.length co68, .int .i64 t396, .int .i64 t397] 45 (0, 0)) B8x22_ hb)
           have n14_ := Aside0.mk (below_step B8x7_ hb)
           clear HO351
           clear HO358
           clear HO365
           clear HO372
           clear HO380
           clear HO388
           clear HO395
           clear BK355
           clear BK362
           clear BK369
           clear BK377
           clear BK385
           clear BK392
           clear BK399
           clear HB
           have HO351 := n0_
           have HO358 := n1_
           have HO365 := n2_
           have HO372 := n3_
           have HO380 := n4_
           have HO388 := n5_
           have HO395 := n6_
           have BK355 := n7_
           have BK362 := n8_
           have BK369 := n9_
           have BK377 := n10_
           have BK385 := n11_
           have BK392 := n12_
           have BK399 := n13_
           have HB := n14_
           clear n0_ n1_ n2_ n3_ n4_ n5_ n6_ n7_ n8_ n9_ n10_ n11_ n12_ n13_ n14_
           (try clear hb)
           (try clear hb2)
           (try clear hk)
           (try clear hi)
           refine hK.out _ _ ⟨(blk_cell BK355.out 0).trans rfl, (blk_cell BK355.out 1).trans rfl, (blk_cell BK355.out 2).trans rfl, (blk_cell BK392.out 0).trans rfl, (blk_cell BK392.out 1).trans rfl, (blk_cell BK392.out 2).trans rfl⟩ (fun hHeld => ?_)
           clear hK K
           refine norm_ (a' := ?_) ?_ ?_
           rotate_left
           ·show Act.put _ (some 61) _ = _
            simp only [Act.put, List.setIfInBounds_toArray, List.set_cons_zero, List.set_cons_succ, i64_w, i32_w]
            rfl
           refine pu_ 4 62 HT_ ?_
           refine pu_ 5 63 HT_ ?_
           refine pu_ 6 64 HT_ ?_
           refine pu_ 7 65 HT_ ?_
           refine pu_ 8 66 HT_ ?_
           refine pu_ 9 67 HT_ ?_
           refine pu_ 10 68 HT_ ?_
           refine pu_ 11 69 HT_ ?_
           refine pu_ 12 70 HT_ ?_
           refine pu_ 13 71 HT_ ?_
           refine pu_ 14 72 HT_ ?_
           refine pu_ 15 73 HT_ ?_
           refine pu_ 16 74 HT_ ?_
           refine pu_ 17 75 HT_ ?_
           refine pu_ 18 76 HT_ ?_
           refine pu_ 19 77 HT_ ?_
           refine pu_ 20 78 HT_ ?_
           refine pu_ 21 79 HT_ ?_
           refine pu_ 22 80 HT_ ?_
           refine of_ 23 81 HT_ ?_
           refine of_ 24 82 HT_ ?_
           refine of_ 25 83 HT_ ?_
           refine of_ 26 84 HT_ ?_
           refine of_ 27 85 HT_ ?_
           refine of_ 28 86 HT_ ?_
           refine of_ 29 87 HT_ ?_
           refine of_ 30 88 HT_ ?_
           refine of_ 31 89 HT_ ?_
           refine of_ 32 90 HT_ ?_
           refine of_ 33 91 HT_ ?_
           refine of_ 34 92 HT_ ?_
           refine of_ 35 93 HT_ ?_
           refine of_ 36 94 HT_ ?_
           refine pu_ 37 95 HT_ ?_
           refine pu_ 38 96 HT_ ?_
           refine pu_ 39 97 HT_ ?_
           refine pu_ 40 98 HT_ ?_
           refine pu_ 41 99 HT_ ?_
           refine of_ 42 100 HT_ ?_
           refine of_ 43 101 HT_ ?_
           refine of_ 44 102 HT_ ?_
           refine of_ 45 103 HT_ ?_
           refine of_ 46 104 HT_ ?_
           refine pu_ 47 105 HT_ ?_
           refine pu_ 48 106 HT_ ?_
           refine pu_ 49 107 HT_ ?_
           refine pu_ 50 108 HT_ ?_
           refine pu_ 51 109 HT_ ?_
           refine pu_ 52 110 HT_ ?_
           refine pu_ 53 111 HT_ ?_
           refine pu_ 54 112 HT_ ?_
           refine pu_ 55 113 HT_ ?_
           refine pu_ 56 114 HT_ ?_
           refine pu_ 57 115 HT_ ?_
           refine ta_ 58 116 HT_ HW_ hHeld ?_
           refine pu_ 59 117 HT_ ?_
           refine pu_ 60 118 HT_ ?_
           refine pu_ 61 119 HT_ ?_
           refine pu_ 62 120 HT_ ?_
           refine ta_ 63 121 HT_ HW_ hHeld ?_
           refine ta_ 65 123 HT_ HW_ hHeld ?_
           refine one_ (i := 64) (N := some 122) #[true, true, true, true, true, true, true, true, true, true, true, true, true, true, true, true, true, true, true, true, true, true, true, true, true, true, true, true, true, true, true, true, true, true, true, true, true, true, true, true, true, true, true, true, true, true, true, true, true, true, true, true, true, true, true, true, true, true, true, true, true, true, true, true, true, true, false, false, false, false] rfl rfl (one_of HT_.out B8x54_) (by decide) (fun K hK => ?_)
           refine goes_ Try.func32 B8x54_ rfl #[.agg #[.slice Ao26 t349.length co26, .int .i64 t352, .int .i64 t353]] (by rfl) rfl rfl B8x3_ ?_
           with_reducible refine (impl_HeldBy.calls k _ _ t349 t352 t353 t402 _ ?side1 ?side2 A22.out).mono ?_
           (case side1 => repeat (first | exact (Kd.R_reads' HO351.out).2.2 | (with_reducible refine Kd.C_alloc ?_ _) | (with_reducible refine Kd.C_drewN ?_ _) | (with_reducible refine Kd.C_drew ?_)))
           (case side2 => exact (Kd.R_reads' HO351.out).2.1)
           rintro e w80 ⟨rfl, hb⟩
           refine ⟨_, rfl, ?_⟩
           have n0_ := Aside0.mk (Kd.R_below B8x10_ hb)
           have n1_ := Aside0.mk (Kd.R_below B8x12_ hb)
           have n2_ := Aside0.mk (Kd.R_below B8x14_ hb)
           have n3_ := Aside0.mk (Kd.R_below B8x15_ hb)
           have n4_ := Aside0.mk (Kd.R_below B8x18_ hb)
           have n5_ := Aside0.mk (Kd.R_below B8x20_ hb)
           have n6_ := Aside0.mk (Kd.R_below B8x21_ hb)
           have n7_ := Aside0.mk (blk_below (g := gb355) (o := .cells #[.slice Ao26 t349.length co26, .int .i64 t352, .int .i64 t353] 45 (0, 0)) B8x0_ hb)
           have n8_ := Aside0.mk (blk_below (g := gb362) (o := .cells #[.slice Ao30 t356.length co30, .int .i64 t359, .int .i64 t360] 45 (0, 0)) B8x1_ hb)
           have n9_ := Aside0.mk (blk_below (g := gb369) (o := .cells #[.slice Ao36 t363.length co36, .int .i64 t366, .int .i64 t367] 45 (0, 0)) B8x2_ hb)
           have n10_ := Aside0.mk (blk_below (g := gb377) (o := .cells #[.slice Ao43 t370.length co43, .int .i64 t373, .int .i64 t374] 45 (0, 0)) B8x5_ hb)
           have n11_ := Aside0.mk (blk_below (g := gb385) (o := .cells #[.slice Ao51 t378.length co51, .int .i64 t381, .int .i64 t382] 45 (0, 0)) B8x9_ hb)
           have n12_ := Aside0.mk (blk_below (g := gb392) (o := .cells #[.slice Ao59 t386.length co59, .int .i64 t389, .int .i64 t390] 45 (0, 0)) B8x16_ hb)
           have n13_ := Aside0.mk (blk_below (g := gb399) (o := .cells #[.slice Ao68 t393.length co68, .int .i64 t396, .int .i64 t397] 45 (0, 0)) B8x22_ hb)
           have n14_ := Aside0.mk (below_step B8x7_ hb)
           clear HO351
           clear HO358
           clear HO365
           clear HO372
           clear HO380
           clear HO388
           clear HO395
           clear BK355
           clear BK362
           clear BK369
           clear BK377
           clear BK385
           clear BK392
           clear BK399
           clear HB
           have HO351 := n0_
           have HO358 := n1_
           have HO365 := n2_
           have HO372 := n3_
           have HO380 := n4_
           have HO388 := n5_
           have HO395 := n6_
           have BK355 := n7_
           have BK362 := n8_
           have BK369 := n9_
           have BK377 := n10_
           have BK385 := n11_
           have BK392 := n12_
           have BK399 := n13_
           have HB := n14_
           clear n0_ n1_ n2_ n3_ n4_ n5_ n6_ n7_ n8_ n9_ n10_ n11_ n12_ n13_ n14_
           (try clear hb)
           (try clear hb2)
           (try clear hk)
           (try clear hi)
           refine hK.out _ _ ⟨(blk_cell BK355.out 0).trans rfl, (blk_cell BK355.out 1).trans rfl, (blk_cell BK355.out 2).trans rfl, (blk_cell BK392.out 0).trans rfl, (blk_cell BK392.out 1).trans rfl, (blk_cell BK392.out 2).trans rfl⟩ (fun hHeld => ?_)
           clear hK K
           refine norm_ (a' := ?_) ?_ ?_
           rotate_left
           ·show Act.put _ (some 122) _ = _
            simp only [Act.put, List.setIfInBounds_toArray, List.set_cons_zero, List.set_cons_succ, i64_w, i32_w]
            rfl
           refine one_ (i := 66) (N := some 124) #[true, true, true, true, true, true, true, true, true, true, true, true, true, true, true, true, true, true, true, true, true, true, true, true, true, true, true, true, true, true, true, true, true, true, true, true, true, true, true, true, true, true, true, true, true, true, true, true, true, true, true, true, true, true, true, true, true, true, true, true, true, true, true, true, true, true, true, false, false, false] rfl rfl (one_of HT_.out B8x54_) (by decide) (fun K hK => ?_)
           refine goes_ Try.func33 B8x54_ rfl #[.agg #[.slice Ao26 t349.length co26, .int .i64 t352, .int .i64 t353]] (by rfl) rfl rfl B8x3_ ?_
           with_reducible refine (spec_HeldBy.calls k _ _ t349 t352 t353 t403 _ ?side1 ?side2 A23.out).mono ?_
           (case side1 => repeat (first | exact (Kd.R_reads' HO351.out).2.2 | (with_reducible refine Kd.C_alloc ?_ _) | (with_reducible refine Kd.C_drewN ?_ _) | (with_reducible refine Kd.C_drew ?_)))
           (case side2 => exact (Kd.R_reads' HO351.out).2.1)
           rintro e w81 ⟨rfl, hb⟩
           refine ⟨_, rfl, ?_⟩
           have n0_ := Aside0.mk (Kd.R_below B8x10_ hb)
           have n1_ := Aside0.mk (Kd.R_below B8x12_ hb)
           have n2_ := Aside0.mk (Kd.R_below B8x14_ hb)
           have n3_ := Aside0.mk (Kd.R_below B8x15_ hb)
           have n4_ := Aside0.mk (Kd.R_below B8x18_ hb)
           have n5_ := Aside0.mk (Kd.R_below B8x20_ hb)
           have n6_ := Aside0.mk (Kd.R_below B8x21_ hb)
           have n7_ := Aside0.mk (blk_below (g := gb355) (o := .cells #[.slice Ao26 t349.length co26, .int .i64 t352, .int .i64 t353] 45 (0, 0)) B8x0_ hb)
           have n8_ := Aside0.mk (blk_below (g := gb362) (o := .cells #[.slice Ao30 t356.length co30, .int .i64 t359, .int .i64 t360] 45 (0, 0)) B8x1_ hb)
           have n9_ := Aside0.mk (blk_below (g := gb369) (o := .cells #[.slice Ao36 t363.length co36, .int .i64 t366, .int .i64 t367] 45 (0, 0)) B8x2_ hb)
           have n10_ := Aside0.mk (blk_below (g := gb377) (o := .cells #[.slice Ao43 t370.length co43, .int .i64 t373, .int .i64 t374] 45 (0, 0)) B8x5_ hb)
           have n11_ := Aside0.mk (blk_below (g := gb385) (o := .cells #[.slice Ao51 t378.length co51, .int .i64 t381, .int .i64 t382] 45 (0, 0)) B8x9_ hb)
           have n12_ := Aside0.mk (blk_below (g := gb392) (o := .cells #[.slice Ao59 t386.length co59, .int .i64 t389, .int .i64 t390] 45 (0, 0)) B8x16_ hb)
           have n13_ := Aside0.mk (blk_below (g := gb399) (o := .cells #[.slice Ao68 t393.length co68, .int .i64 t396, .int .i64 t397] 45 (0, 0)) B8x22_ hb)
           have n14_ := Aside0.mk (below_step B8x7_ hb)
           clear HO351
           clear HO358
           clear HO365
           clear HO372
           clear HO380
           clear HO388
           clear HO395
           clear BK355
           clear BK362
           clear BK369
           clear BK377
           clear BK385
           clear BK392
           clear BK399
           clear HB
           have HO351 := n0_
           have HO358 := n1_
           have HO365 := n2_
           have HO372 := n3_
           have HO380 := n4_
           have HO388 := n5_
           have HO395 := n6_
           have BK355 := n7_
           have BK362 := n8_
           have BK369 := n9_
           have BK377 := n10_
           have BK385 := n11_
           have BK392 := n12_
           have BK399 := n13_
           have HB := n14_
           clear n0_ n1_ n2_ n3_ n4_ n5_ n6_ n7_ n8_ n9_ n10_ n11_ n12_ n13_ n14_
           (try clear hb)
           (try clear hb2)
           (try clear hk)
           (try clear hi)
           refine hK.out _ _ ⟨(blk_cell BK355.out 0).trans rfl, (blk_cell BK355.out 1).trans rfl, (blk_cell BK355.out 2).trans rfl, (blk_cell BK392.out 0).trans rfl, (blk_cell BK392.out 1).trans rfl, (blk_cell BK392.out 2).trans rfl⟩ (fun hHeld => ?_)
           clear hK K
           refine norm_ (a' := ?_) ?_ ?_
           rotate_left
           ·show Act.put _ (some 124) _ = _
            simp only [Act.put, List.setIfInBounds_toArray, List.set_cons_zero, List.set_cons_succ, i64_w, i32_w]
            rfl
           refine pu_ 67 125 HT_ ?_
           refine pu_ 68 126 HT_ ?_
           refine pu_ 69 2 HT_ ?_
           refine done_ (done_of HT_.out B8x54_) ?_
           try go_wp2
           go_ret
           exact ⟨by first | rfl | (simp [errW_none, errW_some] <;> rfl) | (simp [*, errW_none, errW_some] <;> rfl), by repeat (first | (with_reducible first | exact HB.out | apply below_alloc | apply pw_below_drewN | apply below_drew1 | refine below_set ?_ GE355.out | refine below_set ?_ GE362.out | refine below_set ?_ GE369.out | refine below_set ?_ GE377.out | refine below_set ?_ GE385.out | refine below_set ?_ GE392.out | refine below_set ?_ GE399.out) | exact HB.out)⟩
          ·rw [if_neg c21] at H
           have c21b0 : ((t386.length : Int) == 3) = false := beq_eq_false_iff_ne.mpr c21
           have c21b1 : ((t386.length : Int) != 3) = true := bne_iff_ne.mpr c21
           exact absurd ((Option.some.inj H).trans hr_.out) (by decide)
        ·replace c19 := Bool.eq_false_iff.mpr c19
         subst c19
         rw [if_neg (show ¬ (false = true) by decide)] at H
         exact absurd ((Option.some.inj H).trans hr_.out) (by decide)
       ·replace c18 := Bool.eq_false_iff.mpr c18
        subst c18
        rw [if_neg (show ¬ (false = true) by decide)] at H
        by_cases c82 : t374 = t353
        ·rw [if_pos c82] at H
         have c82b0 : (t374 == t353) = true := beq_iff_eq.mpr c82
         have c82b1 : (t374 != t353) = false := bne_eq_false_iff_eq.mpr c82
         clear c82
         by_cases c83 : t391 = true
         ·subst c83
          rw [if_pos rfl] at H
          by_cases c84 : t398 = true
          ·subst c84
           rw [if_pos rfl] at H
           exact absurd ((Option.some.inj H).trans hr_.out) (by decide)
          ·replace c84 := Bool.eq_false_iff.mpr c84
           subst c84
           rw [if_neg (show ¬ (false = true) by decide)] at H
           by_cases c85 : (t386.length : Int) = 3
           ·rw [if_pos c85] at H
            have c85b0 : ((t386.length : Int) == 3) = true := beq_iff_eq.mpr c85
            have c85b1 : ((t386.length : Int) != 3) = false := bne_eq_false_iff_eq.mpr c85
            clear c85
            replace H := Option.bind_eq_some_iff.mp H
            obtain ⟨t404, A860, H⟩ := H
            (try dsimp only at H)
            have A86 := Aside0.mk A860
            clear A860
            replace H := Option.bind_eq_some_iff.mp H
            obtain ⟨t405, A870, H⟩ := H
            (try dsimp only at H)
            have A87 := Aside0.mk A870
            clear A870
            obtain rfl := Option.some.inj H
            go_enter Try.func5, Try.ntmps5
            try go_wp2_with (first | ((with_reducible refine gate_callee (f := 23) rfl ?_); refine goesL_ (some 20) rfl rfl Try.func23 B8x54_ rfl #[.slice A0 l0.length c0] rfl B8x3_ ?_; (with_reducible refine (laws_big.calls _ _ l0 false _ ?side1 ?side2 A2.out).mono ?_); (case side1 => repeat (first | exact HR0.out | (with_reducible refine Kd.C_alloc ?_ _) | (with_reducible refine Kd.C_drewN ?_ _) | (with_reducible refine Kd.C_drew ?_))); (case side2 => exact HC0.out); rintro e w' ⟨rfl, ⟨nd, rfl⟩⟩; refine ⟨_, rfl, ?_⟩) | ((with_reducible refine gate_callee (f := 24) rfl ?_); refine goesL_ (some 23) rfl rfl Try.func24 B8x54_ rfl #[.slice A0 l0.length c0] rfl B8x3_ ?_; (with_reducible refine (spec_DrawPostRing.calls k _ _ l0 t349 t352 t353 t354 _ ?side1 ?side2 A4.out).mono ?_); (case side1 => repeat (first | exact HR0.out | (with_reducible refine Kd.C_alloc ?_ _) | (with_reducible refine Kd.C_drewN ?_ _) | (with_reducible refine Kd.C_drew ?_))); (case side2 => exact HC0.out); rintro e w88 ⟨v350, rfl, ho0, hb⟩; refine ⟨_, rfl, ?_⟩; have n0_ := Aside0.mk (Kd.R_lower ho0 (below_size B8x19_)); have n1_ := Aside0.mk (below_step B8x19_ hb); clear HB; have HO351 := n0_; have HB := n1_; clear n0_ n1_; (try clear hb); (try clear hb2); (try clear hk); (try clear hi); (try clear ho0)) | ((with_reducible refine gate_dst (N := 3) rfl ?_); (try (refine gate_guard (by rfl) ?_; dsimp only)); refine box_event ?hg (N := 3) ?hd (cs := #[.slice none 0 0, .int .i64 0, .int .i64 0]) (t := 45) ?hr ?_; (case hd => rfl); (case hg => rfl); (case hr => first | (go_simp; done) | (go_simp; rfl)); intro gb355 hg w89 hbox hb; have n0_ := Aside0.mk (Kd.R_below B8x10_ hb); have n1_ := Aside0.mk (below_step B8x19_ hb); have n2_ := Aside0.mk (hbox); have n3_ := Aside0.mk ((by rw [hg]; exact (below_size B8x19_) : w.heap.size ≤ gb355)); have n4_ := Aside0.mk ((by rw [hg]; exact (below_size B8x19_) : w.heap.size ≤ gb355)); clear HO351; clear HB; have HO351 := n0_; have HB := n1_; have BK355 := n2_; have GW355 := n3_; have GE355 := n4_; clear n0_ n1_ n2_ n3_ n4_; clear hb hbox hg; obtain ⟨Ao90, co90, eo90⟩ := Kd.R_slice HO351.out; subst eo90; obtain ⟨hcz91_0, hcz91_1, hcz91_2⟩ := cl3 BK355.out; obtain ⟨hfz91_0, hfz91_1, hfz91_2⟩ := fr3 BK355.out) | ((with_reducible refine gate_callee (f := 25) rfl ?_); refine goesL_ (some 29) rfl rfl Try.func25 B8x54_ rfl #[.agg #[.slice Ao90 t349.length co90, .int .i64 t352, .int .i64 t353], .string t354] rfl B8x3_ ?_; (with_reducible refine (impl_PostRing.calls k _ _ t349 t352 t353 t354 t356 t359 t360 true _ ?side1 ?side2 A5.out).mono ?_); (case side1 => refine (Kd.R_reads' (e := 105) (base := w.heap.size) (ok := fun k_ => True) (n := t349.length) (c := co90) ?_).2.2; exact B8x49_); (case side2 => exact (Kd.R_reads' HO351.out).2.1); rintro e w92 ⟨v357, rfl, ho0, hb⟩; refine ⟨_, rfl, ?_⟩; have n0_ := Aside0.mk (Kd.R_elder' B8x49_ (Kd.R_base ho0) hb); have n1_ := Aside0.mk (Kd.R_lower (Kd.R_new' ho0 (Kd.R_lt B8x49_)) (below_size B8x17_)); have n2_ := Aside0.mk (blk_below (g := gb355) (o := .cells #[.slice Ao90 t349.length co90, .int .i64 t352, .int .i64 t353] 45 (0, 0)) (by (with_reducible repeat (first | refine blk_drewN ?_ _ | refine blk_drew ?_ | refine blk_alloc ?_ _)); refine blk_put (cs := #[.slice Ao90 t349.length co90, .int .i64 t352, .int .i64 0]) ?_ 2 _ rfl; (with_reducible repeat (first | refine blk_drewN ?_ _ | refine blk_drew ?_ | refine blk_alloc ?_ _)); refine blk_put (cs := #[.slice Ao90 t349.length co90, .int .i64 0, .int .i64 0]) ?_ 1 _ rfl; (with_reducible repeat (first | refine blk_drewN ?_ _ | refine blk_drew ?_ | refine blk_alloc ?_ _)); refine blk_put (cs := #[.slice none 0 0, .int .i64 0, .int .i64 0]) ?_ 0 _ rfl; (with_reducible repeat (first | refine blk_drewN ?_ _ | refine blk_drew ?_ | refine blk_alloc ?_ _)); exact BK355.out) hb); have n3_ := Aside0.mk (below_step B8x17_ hb); clear HO351; clear BK355; clear HB; have HO351 := n0_; have HO358 := n1_; have BK355 := n2_; have HB := n3_; clear n0_ n1_ n2_ n3_; (try clear hb); (try clear hb2); (try clear hk); (try clear hi); (try clear ho0)) | ((with_reducible refine gate_dst (N := 5) rfl ?_); (try (refine gate_guard (by rfl) ?_; dsimp only)); refine box_event ?hg (N := 5) ?hd (cs := #[.slice none 0 0, .int .i64 0, .int .i64 0]) (t := 45) ?hr ?_; (case hd => rfl); (case hg => rfl); (case hr => first | (go_simp; done) | (go_simp; rfl)); intro gb362 hg w93 hbox hb; have n0_ := Aside0.mk (Kd.R_below B8x10_ hb); have n1_ := Aside0.mk (Kd.R_below B8x12_ hb); have n2_ := Aside0.mk (blk_below (g := gb355) (o := .cells #[.slice Ao90 t349.length co90, .int .i64 t352, .int .i64 t353] 45 (0, 0)) B8x0_ hb); have n3_ := Aside0.mk (below_step B8x17_ hb); have n4_ := Aside0.mk (hbox); have n5_ := Aside0.mk ((by rw [hg]; exact (below_size B8x17_) : w.heap.size ≤ gb362)); have n6_ := Aside0.mk ((by rw [hg]; exact (below_size B8x17_) : w.heap.size ≤ gb362)); have n7_ := Aside0.mk ((by rw [hg]; exact Nat.ne_of_lt (blk_lt (g := gb355) (o := .cells #[.slice Ao90 t349.length co90, .int .i64 t352, .int .i64 t353] 45 (0, 0)) B8x0_) : gb355 ≠ gb362)); have n8_ := Aside0.mk ((by rw [hg]; exact Nat.ne_of_gt (blk_lt (g := gb355) (o := .cells #[.slice Ao90 t349.length co90, .int .i64 t352, .int .i64 t353] 45 (0, 0)) B8x0_) : gb362 ≠ gb355)); clear HO351; clear HO358; clear BK355; clear HB; have HO351 := n0_; have HO358 := n1_; have BK355 := n2_; have HB := n3_; have BK362 := n4_; have GW362 := n5_; have GE362 := n6_; have NB355_362 := n7_; have NB362_355 := n8_; clear n0_ n1_ n2_ n3_ n4_ n5_ n6_ n7_ n8_; clear hb hbox hg; obtain ⟨Ao94, co94, eo94⟩ := Kd.R_slice HO358.out; subst eo94; have hnb95 := NB362_355.out; have hnc95 := NB355_362.out; obtain ⟨hcz96_0, hcz96_1, hcz96_2⟩ := cl3 BK362.out; obtain ⟨hfz96_0, hfz96_1, hfz96_2⟩ := fr3 BK362.out; obtain ⟨hcz97_0, hcz97_1, hcz97_2⟩ := cl3 BK355.out; obtain ⟨hfz97_0, hfz97_1, hfz97_2⟩ := fr3 BK355.out) | ((with_reducible refine gate_callee (f := 26) rfl ?_); refine goesL_ (some 35) rfl rfl Try.func26 B8x54_ rfl #[.agg #[.slice Ao90 t349.length co90, .int .i64 t352, .int .i64 t353], .string t354] rfl B8x3_ ?_; (with_reducible refine (spec_PostRing.calls k _ _ t349 t352 t353 t354 t363 t366 t367 t368 _ ?side1 ?side2 A6.out).mono ?_); (case side1 => refine (Kd.R_reads' (e := 105) (base := w.heap.size) (ok := fun k_ => (True ∧ some k_ ≠ (.slice Ao94 t356.length co94 : Value).ownBlock)) (n := t349.length) (c := co90) ?_).2.2; exact B8x51_); (case side2 => exact (Kd.R_reads' HO351.out).2.1); rintro e w98 ⟨v364, rfl, ho0, hb⟩; refine ⟨_, rfl, ?_⟩; have n0_ := Aside0.mk (Kd.R_elder' B8x51_ (Kd.R_base ho0) hb); have n1_ := Aside0.mk (Kd.R_elder' B8x106_ (Kd.R_base ho0) hb); have n2_ := Aside0.mk (Kd.R_lower (Kd.R_new' (Kd.R_new' ho0 (Kd.R_lt B8x51_)) (Kd.R_lt B8x106_)) (below_size B8x13_)); have n3_ := Aside0.mk (blk_below (g := gb355) (o := .cells #[.slice Ao90 t349.length co90, .int .i64 t352, .int .i64 t353] 45 (0, 0)) B8x23_ hb); have n4_ := Aside0.mk (blk_below (g := gb362) (o := .cells #[.slice Ao94 t356.length co94, .int .i64 t359, .int .i64 t360] 45 (0, 0)) (by (with_reducible repeat (first | refine blk_drewN ?_ _ | refine blk_drew ?_ | refine blk_alloc ?_ _)); refine blk_put (cs := #[.slice Ao94 t356.length co94, .int .i64 t359, .int .i64 0]) ?_ 2 _ rfl; (with_reducible repeat (first | refine blk_drewN ?_ _ | refine blk_drew ?_ | refine blk_alloc ?_ _)); refine blk_put (cs := #[.slice Ao94 t356.length co94, .int .i64 0, .int .i64 0]) ?_ 1 _ rfl; (with_reducible repeat (first | refine blk_drewN ?_ _ | refine blk_drew ?_ | refine blk_alloc ?_ _)); refine blk_put (cs := #[.slice none 0 0, .int .i64 0, .int .i64 0]) ?_ 0 _ rfl; (with_reducible repeat (first | refine blk_drewN ?_ _ | refine blk_drew ?_ | refine blk_alloc ?_ _)); exact BK362.out) hb); have n5_ := Aside0.mk (below_step B8x13_ hb); clear HO351; clear HO358; clear BK355; clear BK362; clear HB; have HO351 := n0_; have HO358 := n1_; have HO365 := n2_; have BK355 := n3_; have BK362 := n4_; have HB := n5_; clear n0_ n1_ n2_ n3_ n4_ n5_; (try clear hb); (try clear hb2); (try clear hk); (try clear hi); (try clear ho0)) | ((with_reducible refine gate_dst (N := 7) rfl ?_); (try (refine gate_guard (by rfl) ?_; dsimp only)); refine box_event ?hg (N := 7) ?hd (cs := #[.slice none 0 0, .int .i64 0, .int .i64 0]) (t := 45) ?hr ?_; (case hd => rfl); (case hg => rfl); (case hr => first | (go_simp; done) | (go_simp; rfl)); intro gb369 hg w99 hbox hb; have n0_ := Aside0.mk (Kd.R_below B8x10_ hb); have n1_ := Aside0.mk (Kd.R_below B8x12_ hb); have n2_ := Aside0.mk (Kd.R_below B8x14_ hb); have n3_ := Aside0.mk (blk_below (g := gb355) (o := .cells #[.slice Ao90 t349.length co90, .int .i64 t352, .int .i64 t353] 45 (0, 0)) B8x0_ hb); have n4_ := Aside0.mk (blk_below (g := gb362) (o := .cells #[.slice Ao94 t356.length co94, .int .i64 t359, .int .i64 t360] 45 (0, 0)) B8x1_ hb); have n5_ := Aside0.mk (below_step B8x13_ hb); have n6_ := Aside0.mk (hbox); have n7_ := Aside0.mk ((by rw [hg]; exact (below_size B8x13_) : w.heap.size ≤ gb369)); have n8_ := Aside0.mk ((by rw [hg]; exact (below_size B8x13_) : w.heap.size ≤ gb369)); have n9_ := Aside0.mk ((by rw [hg]; exact Nat.ne_of_lt (blk_lt (g := gb355) (o := .cells #[.slice Ao90 t349.length co90, .int .i64 t352, .int .i64 t353] 45 (0, 0)) B8x0_) : gb355 ≠ gb369)); have n10_ := Aside0.mk ((by rw [hg]; exact Nat.ne_of_gt (blk_lt (g := gb355) (o := .cells #[.slice Ao90 t349.length co90, .int .i64 t352, .int .i64 t353] 45 (0, 0)) B8x0_) : gb369 ≠ gb355)); have n11_ := Aside0.mk ((by rw [hg]; exact Nat.ne_of_lt (blk_lt (g := gb362) (o := .cells #[.slice Ao94 t356.length co94, .int .i64 t359, .int .i64 t360] 45 (0, 0)) B8x1_) : gb362 ≠ gb369)); have n12_ := Aside0.mk ((by rw [hg]; exact Nat.ne_of_gt (blk_lt (g := gb362) (o := .cells #[.slice Ao94 t356.length co94, .int .i64 t359, .int .i64 t360] 45 (0, 0)) B8x1_) : gb369 ≠ gb362)); clear HO351; clear HO358; clear HO365; clear BK355; clear BK362; clear HB; have HO351 := n0_; have HO358 := n1_; have HO365 := n2_; have BK355 := n3_; have BK362 := n4_; have HB := n5_; have BK369 := n6_; have GW369 := n7_; have GE369 := n8_; have NB355_369 := n9_; have NB369_355 := n10_; have NB362_369 := n11_; have NB369_362 := n12_; clear n0_ n1_ n2_ n3_ n4_ n5_ n6_ n7_ n8_ n9_ n10_ n11_ n12_; clear hb hbox hg; obtain ⟨Ao100, co100, eo100⟩ := Kd.R_slice HO365.out; subst eo100; have hnb101 := NB369_355.out; have hnc101 := NB355_369.out; have hnb102 := NB369_362.out; have hnc102 := NB362_369.out; obtain ⟨hcz103_0, hcz103_1, hcz103_2⟩ := cl3 BK369.out; obtain ⟨hfz103_0, hfz103_1, hfz103_2⟩ := fr3 BK369.out; obtain ⟨hcz104_0, hcz104_1, hcz104_2⟩ := cl3 BK355.out; obtain ⟨hfz104_0, hfz104_1, hfz104_2⟩ := fr3 BK355.out) | ((with_reducible refine gate_callee (f := 27) rfl ?_); refine goesL_ (some 40) rfl rfl Try.func27 B8x54_ rfl #[.agg #[.slice Ao90 t349.length co90, .int .i64 t352, .int .i64 t353]] rfl B8x3_ ?_; (with_reducible refine (impl_TakeRing.calls k _ _ t349 t352 t353 t370 t373 t374 t375 false _ ?side1 ?side2 A7.out).mono ?_); (case side1 => refine (Kd.R_reads' (e := 105) (base := w.heap.size) (ok := fun k_ => ((True ∧ some k_ ≠ (.slice Ao94 t356.length co94 : Value).ownBlock) ∧ some k_ ≠ (.slice Ao100 t363.length co100 : Value).ownBlock)) (n := t349.length) (c := co90) ?_).2.2; exact B8x42_); (case side2 => exact (Kd.R_reads' HO351.out).2.1); rintro e w105 ⟨v371, rfl, ho0, hb⟩; refine ⟨_, rfl, ?_⟩; have n0_ := Aside0.mk (Kd.R_elder' B8x42_ (Kd.R_base ho0) hb); have n1_ := Aside0.mk (Kd.R_elder' B8x57_ (Kd.R_base ho0) hb); have n2_ := Aside0.mk (Kd.R_elder' B8x60_ (Kd.R_base ho0) hb); have n3_ := Aside0.mk (Kd.R_lower (Kd.R_new' (Kd.R_new' (Kd.R_new' ho0 (Kd.R_lt B8x42_)) (Kd.R_lt B8x57_)) (Kd.R_lt B8x60_)) (below_size B8x11_)); have n4_ := Aside0.mk (blk_below (g := gb355) (o := .cells #[.slice Ao90 t349.length co90, .int .i64 t352, .int .i64 t353] 45 (0, 0)) B8x24_ hb); have n5_ := Aside0.mk (blk_below (g := gb362) (o := .cells #[.slice Ao94 t356.length co94, .int .i64 t359, .int .i64 t360] 45 (0, 0)) B8x28_ hb); have n6_ := Aside0.mk (blk_below (g := gb369) (o := .cells #[.slice Ao100 t363.length co100, .int .i64 t366, .int .i64 t367] 45 (0, 0)) (by (with_reducible repeat (first | refine blk_drewN ?_ _ | refine blk_drew ?_ | refine blk_alloc ?_ _)); refine blk_put (cs := #[.slice Ao100 t363.length co100, .int .i64 t366, .int .i64 0]) ?_ 2 _ rfl; (with_reducible repeat (first | refine blk_drewN ?_ _ | refine blk_drew ?_ | refine blk_alloc ?_ _)); refine blk_put (cs := #[.slice Ao100 t363.length co100, .int .i64 0, .int .i64 0]) ?_ 1 _ rfl; (with_reducible repeat (first | refine blk_drewN ?_ _ | refine blk_drew ?_ | refine blk_alloc ?_ _)); refine blk_put (cs := #[.slice none 0 0, .int .i64 0, .int .i64 0]) ?_ 0 _ rfl; (with_reducible repeat (first | refine blk_drewN ?_ _ | refine blk_drew ?_ | refine blk_alloc ?_ _)); exact BK369.out) hb); have n7_ := Aside0.mk (below_step B8x11_ hb); clear HO351; clear HO358; clear HO365; clear BK355; clear BK362; clear BK369; clear HB; have HO351 := n0_; have HO358 := n1_; have HO365 := n2_; have HO372 := n3_; have BK355 := n4_; have BK362 := n5_; have BK369 := n6_; have HB := n7_; clear n0_ n1_ n2_ n3_ n4_ n5_ n6_ n7_; (try clear hb); (try clear hb2); (try clear hk); (try clear hi); (try clear ho0)) | ((with_reducible refine gate_dst (N := 9) rfl ?_); (try (refine gate_guard (by rfl) ?_; dsimp only)); refine box_event ?hg (N := 9) ?hd (cs := #[.slice none 0 0, .int .i64 0, .int .i64 0]) (t := 45) ?hr ?_; (case hd => rfl); (case hg => rfl); (case hr => first | (go_simp; done) | (go_simp; rfl)); intro gb377 hg w106 hbox hb; have n0_ := Aside0.mk (Kd.R_below B8x10_ hb); have n1_ := Aside0.mk (Kd.R_below B8x12_ hb); have n2_ := Aside0.mk (Kd.R_below B8x14_ hb); have n3_ := Aside0.mk (Kd.R_below B8x15_ hb); have n4_ := Aside0.mk (blk_below (g := gb355) (o := .cells #[.slice Ao90 t349.length co90, .int .i64 t352, .int .i64 t353] 45 (0, 0)) B8x0_ hb); have n5_ := Aside0.mk (blk_below (g := gb362) (o := .cells #[.slice Ao94 t356.length co94, .int .i64 t359, .int .i64 t360] 45 (0, 0)) B8x1_ hb); have n6_ := Aside0.mk (blk_below (g := gb369) (o := .cells #[.slice Ao100 t363.length co100, .int .i64 t366, .int .i64 t367] 45 (0, 0)) B8x2_ hb); have n7_ := Aside0.mk (below_step B8x11_ hb); have n8_ := Aside0.mk (hbox); have n9_ := Aside0.mk ((by rw [hg]; exact (below_size B8x11_) : w.heap.size ≤ gb377)); have n10_ := Aside0.mk ((by rw [hg]; exact (below_size B8x11_) : w.heap.size ≤ gb377)); have n11_ := Aside0.mk ((by rw [hg]; exact Nat.ne_of_lt (blk_lt (g := gb355) (o := .cells #[.slice Ao90 t349.length co90, .int .i64 t352, .int .i64 t353] 45 (0, 0)) B8x0_) : gb355 ≠ gb377)); have n12_ := Aside0.mk ((by rw [hg]; exact Nat.ne_of_gt (blk_lt (g := gb355) (o := .cells #[.slice Ao90 t349.length co90, .int .i64 t352, .int .i64 t353] 45 (0, 0)) B8x0_) : gb377 ≠ gb355)); have n13_ := Aside0.mk ((by rw [hg]; exact Nat.ne_of_lt (blk_lt (g := gb362) (o := .cells #[.slice Ao94 t356.length co94, .int .i64 t359, .int .i64 t360] 45 (0, 0)) B8x1_) : gb362 ≠ gb377)); have n14_ := Aside0.mk ((by rw [hg]; exact Nat.ne_of_gt (blk_lt (g := gb362) (o := .cells #[.slice Ao94 t356.length co94, .int .i64 t359, .int .i64 t360] 45 (0, 0)) B8x1_) : gb377 ≠ gb362)); have n15_ := Aside0.mk ((by rw [hg]; exact Nat.ne_of_lt (blk_lt (g := gb369) (o := .cells #[.slice Ao100 t363.length co100, .int .i64 t366, .int .i64 t367] 45 (0, 0)) B8x2_) : gb369 ≠ gb377)); have n16_ := Aside0.mk ((by rw [hg]; exact Nat.ne_of_gt (blk_lt (g := gb369) (o := .cells #[.slice Ao100 t363.length co100, .int .i64 t366, .int .i64 t367] 45 (0, 0)) B8x2_) : gb377 ≠ gb369)); clear HO351; clear HO358; clear HO365; clear HO372; clear BK355; clear BK362; clear BK369; clear HB; have HO351 := n0_; have HO358 := n1_; have HO365 := n2_; have HO372 := n3_; have BK355 := n4_; have BK362 := n5_; have BK369 := n6_; have HB := n7_; have BK377 := n8_; have GW377 := n9_; have GE377 := n10_; have NB355_377 := n11_; have NB377_355 := n12_; have NB362_377 := n13_; have NB377_362 := n14_; have NB369_377 := n15_; have NB377_369 := n16_; clear n0_ n1_ n2_ n3_ n4_ n5_ n6_ n7_ n8_ n9_ n10_ n11_ n12_ n13_ n14_ n15_ n16_; clear hb hbox hg; obtain ⟨Ao107, co107, eo107⟩ := Kd.R_slice HO372.out; subst eo107; have hnb108 := NB377_355.out; have hnc108 := NB355_377.out; have hnb109 := NB377_362.out; have hnc109 := NB362_377.out; have hnb110 := NB377_369.out; have hnc110 := NB369_377.out; obtain ⟨hcz111_0, hcz111_1, hcz111_2⟩ := cl3 BK377.out; obtain ⟨hfz111_0, hfz111_1, hfz111_2⟩ := fr3 BK377.out; obtain ⟨hcz112_0, hcz112_1, hcz112_2⟩ := cl3 BK355.out; obtain ⟨hfz112_0, hfz112_1, hfz112_2⟩ := fr3 BK355.out) | ((with_reducible refine gate_callee (f := 28) rfl ?_); refine goesL_ (some 46) rfl rfl Try.func28 B8x54_ rfl #[.agg #[.slice Ao90 t349.length co90, .int .i64 t352, .int .i64 t353]] rfl B8x3_ ?_; (with_reducible refine (spec_TakeRing.calls k _ _ t349 t352 t353 t378 t381 t382 t383 t384 _ ?side1 ?side2 A8.out).mono ?_); (case side1 => refine (Kd.R_reads' (e := 105) (base := w.heap.size) (ok := fun k_ => (((True ∧ some k_ ≠ (.slice Ao94 t356.length co94 : Value).ownBlock) ∧ some k_ ≠ (.slice Ao100 t363.length co100 : Value).ownBlock) ∧ some k_ ≠ (.slice Ao107 t370.length co107 : Value).ownBlock)) (n := t349.length) (c := co90) ?_).2.2; exact B8x45_); (case side2 => exact (Kd.R_reads' HO351.out).2.1); rintro e w113 ⟨v379, rfl, ho0, hb⟩; refine ⟨_, rfl, ?_⟩; have n0_ := Aside0.mk (Kd.R_elder' B8x45_ (Kd.R_base ho0) hb); have n1_ := Aside0.mk (Kd.R_elder' B8x63_ (Kd.R_base ho0) hb); have n2_ := Aside0.mk (Kd.R_elder' B8x66_ (Kd.R_base ho0) hb); have n3_ := Aside0.mk (Kd.R_elder' B8x69_ (Kd.R_base ho0) hb); have n4_ := Aside0.mk (Kd.R_lower (Kd.R_new' (Kd.R_new' (Kd.R_new' (Kd.R_new' ho0 (Kd.R_lt B8x45_)) (Kd.R_lt B8x63_)) (Kd.R_lt B8x66_)) (Kd.R_lt B8x69_)) (below_size B8x8_)); have n5_ := Aside0.mk (blk_below (g := gb355) (o := .cells #[.slice Ao90 t349.length co90, .int .i64 t352, .int .i64 t353] 45 (0, 0)) B8x25_ hb); have n6_ := Aside0.mk (blk_below (g := gb362) (o := .cells #[.slice Ao94 t356.length co94, .int .i64 t359, .int .i64 t360] 45 (0, 0)) B8x29_ hb); have n7_ := Aside0.mk (blk_below (g := gb369) (o := .cells #[.slice Ao100 t363.length co100, .int .i64 t366, .int .i64 t367] 45 (0, 0)) B8x32_ hb); have n8_ := Aside0.mk (blk_below (g := gb377) (o := .cells #[.slice Ao107 t370.length co107, .int .i64 t373, .int .i64 t374] 45 (0, 0)) (by (with_reducible repeat (first | refine blk_drewN ?_ _ | refine blk_drew ?_ | refine blk_alloc ?_ _)); refine blk_put (cs := #[.slice Ao107 t370.length co107, .int .i64 t373, .int .i64 0]) ?_ 2 _ rfl; (with_reducible repeat (first | refine blk_drewN ?_ _ | refine blk_drew ?_ | refine blk_alloc ?_ _)); refine blk_put (cs := #[.slice Ao107 t370.length co107, .int .i64 0, .int .i64 0]) ?_ 1 _ rfl; (with_reducible repeat (first | refine blk_drewN ?_ _ | refine blk_drew ?_ | refine blk_alloc ?_ _)); refine blk_put (cs := #[.slice none 0 0, .int .i64 0, .int .i64 0]) ?_ 0 _ rfl; (with_reducible repeat (first | refine blk_drewN ?_ _ | refine blk_drew ?_ | refine blk_alloc ?_ _)); exact BK377.out) hb); have n9_ := Aside0.mk (below_step B8x8_ hb); clear HO351; clear HO358; clear HO365; clear HO372; clear BK355; clear BK362; clear BK369; clear BK377; clear HB; have HO351 := n0_; have HO358 := n1_; have HO365 := n2_; have HO372 := n3_; have HO380 := n4_; have BK355 := n5_; have BK362 := n6_; have BK369 := n7_; have BK377 := n8_; have HB := n9_; clear n0_ n1_ n2_ n3_ n4_ n5_ n6_ n7_ n8_ n9_; (try clear hb); (try clear hb2); (try clear hk); (try clear hi); (try clear ho0)) | ((with_reducible refine gate_dst (N := 12) rfl ?_); (try (refine gate_guard (by rfl) ?_; dsimp only)); refine box_event ?hg (N := 12) ?hd (cs := #[.slice none 0 0, .int .i64 0, .int .i64 0]) (t := 45) ?hr ?_; (case hd => rfl); (case hg => rfl); (case hr => first | (go_simp; done) | (go_simp; rfl)); intro gb385 hg w114 hbox hb; have n0_ := Aside0.mk (Kd.R_below B8x10_ hb); have n1_ := Aside0.mk (Kd.R_below B8x12_ hb); have n2_ := Aside0.mk (Kd.R_below B8x14_ hb); have n3_ := Aside0.mk (Kd.R_below B8x15_ hb); have n4_ := Aside0.mk (Kd.R_below B8x18_ hb); have n5_ := Aside0.mk (blk_below (g := gb355) (o := .cells #[.slice Ao90 t349.length co90, .int .i64 t352, .int .i64 t353] 45 (0, 0)) B8x0_ hb); have n6_ := Aside0.mk (blk_below (g := gb362) (o := .cells #[.slice Ao94 t356.length co94, .int .i64 t359, .int .i64 t360] 45 (0, 0)) B8x1_ hb); have n7_ := Aside0.mk (blk_below (g := gb369) (o := .cells #[.slice Ao100 t363.length co100, .int .i64 t366, .int .i64 t367] 45 (0, 0)) B8x2_ hb); have n8_ := Aside0.mk (blk_below (g := gb377) (o := .cells #[.slice Ao107 t370.length co107, .int .i64 t373, .int .i64 t374] 45 (0, 0)) B8x5_ hb); have n9_ := Aside0.mk (below_step B8x8_ hb); have n10_ := Aside0.mk (hbox); have n11_ := Aside0.mk ((by rw [hg]; exact (below_size B8x8_) : w.heap.size ≤ gb385)); have n12_ := Aside0.mk ((by rw [hg]; exact (below_size B8x8_) : w.heap.size ≤ gb385)); have n13_ := Aside0.mk ((by rw [hg]; exact Nat.ne_of_lt (blk_lt (g := gb355) (o := .cells #[.slice Ao90 t349.length co90, .int .i64 t352, .int .i64 t353] 45 (0, 0)) B8x0_) : gb355 ≠ gb385)); have n14_ := Aside0.mk ((by rw [hg]; exact Nat.ne_of_gt (blk_lt (g := gb355) (o := .cells #[.slice Ao90 t349.length co90, .int .i64 t352, .int .i64 t353] 45 (0, 0)) B8x0_) : gb385 ≠ gb355)); have n15_ := Aside0.mk ((by rw [hg]; exact Nat.ne_of_lt (blk_lt (g := gb362) (o := .cells #[.slice Ao94 t356.length co94, .int .i64 t359, .int .i64 t360] 45 (0, 0)) B8x1_) : gb362 ≠ gb385)); have n16_ := Aside0.mk ((by rw [hg]; exact Nat.ne_of_gt (blk_lt (g := gb362) (o := .cells #[.slice Ao94 t356.length co94, .int .i64 t359, .int .i64 t360] 45 (0, 0)) B8x1_) : gb385 ≠ gb362)); have n17_ := Aside0.mk ((by rw [hg]; exact Nat.ne_of_lt (blk_lt (g := gb369) (o := .cells #[.slice Ao100 t363.length co100, .int .i64 t366, .int .i64 t367] 45 (0, 0)) B8x2_) : gb369 ≠ gb385)); have n18_ := Aside0.mk ((by rw [hg]; exact Nat.ne_of_gt (blk_lt (g := gb369) (o := .cells #[.slice Ao100 t363.length co100, .int .i64 t366, .int .i64 t367] 45 (0, 0)) B8x2_) : gb385 ≠ gb369)); have n19_ := Aside0.mk ((by rw [hg]; exact Nat.ne_of_lt (blk_lt (g := gb377) (o := .cells #[.slice Ao107 t370.length co107, .int .i64 t373, .int .i64 t374] 45 (0, 0)) B8x5_) : gb377 ≠ gb385)); have n20_ := Aside0.mk ((by rw [hg]; exact Nat.ne_of_gt (blk_lt (g := gb377) (o := .cells #[.slice Ao107 t370.length co107, .int .i64 t373, .int .i64 t374] 45 (0, 0)) B8x5_) : gb385 ≠ gb377)); clear HO351; clear HO358; clear HO365; clear HO372; clear HO380; clear BK355; clear BK362; clear BK369; clear BK377; clear HB; have HO351 := n0_; have HO358 := n1_; have HO365 := n2_; have HO372 := n3_; have HO380 := n4_; have BK355 := n5_; have BK362 := n6_; have BK369 := n7_; have BK377 := n8_; have HB := n9_; have BK385 := n10_; have GW385 := n11_; have GE385 := n12_; have NB355_385 := n13_; have NB385_355 := n14_; have NB362_385 := n15_; have NB385_362 := n16_; have NB369_385 := n17_; have NB385_369 := n18_; have NB377_385 := n19_; have NB385_377 := n20_; clear n0_ n1_ n2_ n3_ n4_ n5_ n6_ n7_ n8_ n9_ n10_ n11_ n12_ n13_ n14_ n15_ n16_ n17_ n18_ n19_ n20_; clear hb hbox hg; obtain ⟨Ao115, co115, eo115⟩ := Kd.R_slice HO380.out; subst eo115; have hnb116 := NB385_355.out; have hnc116 := NB355_385.out; have hnb117 := NB385_362.out; have hnc117 := NB362_385.out; have hnb118 := NB385_369.out; have hnc118 := NB369_385.out; have hnb119 := NB385_377.out; have hnc119 := NB377_385.out; obtain ⟨hcz120_0, hcz120_1, hcz120_2⟩ := cl3 BK385.out; obtain ⟨hfz120_0, hfz120_1, hfz120_2⟩ := fr3 BK385.out) | ((with_reducible refine gate_callee (f := 29) rfl ?_); refine goesL_ (some 51) rfl rfl Try.func29 B8x54_ rfl #[.int .i64 3] rfl B8x3_ ?_; (with_reducible refine (impl_RingNew.calls 3 t386 t389 t390 true _ A9.out).mono ?_); rintro e w121 ⟨v387, rfl, ho0, hb⟩; refine ⟨_, rfl, ?_⟩; have n0_ := Aside0.mk (Kd.R_elder' B8x72_ (Kd.R_base ho0) hb); have n1_ := Aside0.mk (Kd.R_elder' B8x75_ (Kd.R_base ho0) hb); have n2_ := Aside0.mk (Kd.R_elder' B8x78_ (Kd.R_base ho0) hb); have n3_ := Aside0.mk (Kd.R_elder' B8x81_ (Kd.R_base ho0) hb); have n4_ := Aside0.mk (Kd.R_elder' B8x84_ (Kd.R_base ho0) hb); have n5_ := Aside0.mk (Kd.R_lower (Kd.R_new' (Kd.R_new' (Kd.R_new' (Kd.R_new' (Kd.R_new' ho0 (Kd.R_lt B8x72_)) (Kd.R_lt B8x75_)) (Kd.R_lt B8x78_)) (Kd.R_lt B8x81_)) (Kd.R_lt B8x84_)) (below_size B8x6_)); have n6_ := Aside0.mk (blk_below (g := gb355) (o := .cells #[.slice Ao90 t349.length co90, .int .i64 t352, .int .i64 t353] 45 (0, 0)) B8x26_ hb); have n7_ := Aside0.mk (blk_below (g := gb362) (o := .cells #[.slice Ao94 t356.length co94, .int .i64 t359, .int .i64 t360] 45 (0, 0)) B8x30_ hb); have n8_ := Aside0.mk (blk_below (g := gb369) (o := .cells #[.slice Ao100 t363.length co100, .int .i64 t366, .int .i64 t367] 45 (0, 0)) B8x33_ hb); have n9_ := Aside0.mk (blk_below (g := gb377) (o := .cells #[.slice Ao107 t370.length co107, .int .i64 t373, .int .i64 t374] 45 (0, 0)) B8x35_ hb); have n10_ := Aside0.mk (blk_below (g := gb385) (o := .cells #[.slice Ao115 t378.length co115, .int .i64 t381, .int .i64 t382] 45 (0, 0)) (by (with_reducible repeat (first | refine blk_drewN ?_ _ | refine blk_drew ?_ | refine blk_alloc ?_ _)); refine blk_put (cs := #[.slice Ao115 t378.length co115, .int .i64 t381, .int .i64 0]) ?_ 2 _ rfl; (with_reducible repeat (first | refine blk_drewN ?_ _ | refine blk_drew ?_ | refine blk_alloc ?_ _)); refine blk_put (cs := #[.slice Ao115 t378.length co115, .int .i64 0, .int .i64 0]) ?_ 1 _ rfl; (with_reducible repeat (first | refine blk_drewN ?_ _ | refine blk_drew ?_ | refine blk_alloc ?_ _)); refine blk_put (cs := #[.slice none 0 0, .int .i64 0, .int .i64 0]) ?_ 0 _ rfl; (with_reducible repeat (first | refine blk_drewN ?_ _ | refine blk_drew ?_ | refine blk_alloc ?_ _)); exact BK385.out) hb); have n11_ := Aside0.mk (below_step B8x6_ hb); clear HO351; clear HO358; clear HO365; clear HO372; clear HO380; clear BK355; clear BK362; clear BK369; clear BK377; clear BK385; clear HB; have HO351 := n0_; have HO358 := n1_; have HO365 := n2_; have HO372 := n3_; have HO380 := n4_; have HO388 := n5_; have BK355 := n6_; have BK362 := n7_; have BK369 := n8_; have BK377 := n9_; have BK385 := n10_; have HB := n11_; clear n0_ n1_ n2_ n3_ n4_ n5_ n6_ n7_ n8_ n9_ n10_ n11_; (try clear hb); (try clear hb2); (try clear hk); (try clear hi); (try clear ho0)) | ((with_reducible refine gate_dst (N := 15) rfl ?_); (try (refine gate_guard (by rfl) ?_; dsimp only)); refine box_event ?hg (N := 15) ?hd (cs := #[.slice none 0 0, .int .i64 0, .int .i64 0]) (t := 45) ?hr ?_; (case hd => rfl); (case hg => rfl); (case hr => first | (go_simp; done) | (go_simp; rfl)); intro gb392 hg w122 hbox hb; have n0_ := Aside0.mk (Kd.R_below B8x10_ hb); have n1_ := Aside0.mk (Kd.R_below B8x12_ hb); have n2_ := Aside0.mk (Kd.R_below B8x14_ hb); have n3_ := Aside0.mk (Kd.R_below B8x15_ hb); have n4_ := Aside0.mk (Kd.R_below B8x18_ hb); have n5_ := Aside0.mk (Kd.R_below B8x20_ hb); have n6_ := Aside0.mk (blk_below (g := gb355) (o := .cells #[.slice Ao90 t349.length co90, .int .i64 t352, .int .i64 t353] 45 (0, 0)) B8x0_ hb); have n7_ := Aside0.mk (blk_below (g := gb362) (o := .cells #[.slice Ao94 t356.length co94, .int .i64 t359, .int .i64 t360] 45 (0, 0)) B8x1_ hb); have n8_ := Aside0.mk (blk_below (g := gb369) (o := .cells #[.slice Ao100 t363.length co100, .int .i64 t366, .int .i64 t367] 45 (0, 0)) B8x2_ hb); have n9_ := Aside0.mk (blk_below (g := gb377) (o := .cells #[.slice Ao107 t370.length co107, .int .i64 t373, .int .i64 t374] 45 (0, 0)) B8x5_ hb); have n10_ := Aside0.mk (blk_below (g := gb385) (o := .cells #[.slice Ao115 t378.length co115, .int .i64 t381, .int .i64 t382] 45 (0, 0)) B8x9_ hb); have n11_ := Aside0.mk (below_step B8x6_ hb); have n12_ := Aside0.mk (hbox); have n13_ := Aside0.mk ((by rw [hg]; exact (below_size B8x6_) : w.heap.size ≤ gb392)); have n14_ := Aside0.mk ((by rw [hg]; exact (below_size B8x6_) : w.heap.size ≤ gb392)); have n15_ := Aside0.mk ((by rw [hg]; exact Nat.ne_of_lt (blk_lt (g := gb355) (o := .cells #[.slice Ao90 t349.length co90, .int .i64 t352, .int .i64 t353] 45 (0, 0)) B8x0_) : gb355 ≠ gb392)); have n16_ := Aside0.mk ((by rw [hg]; exact Nat.ne_of_gt (blk_lt (g := gb355) (o := .cells #[.slice Ao90 t349.length co90, .int .i64 t352, .int .i64 t353] 45 (0, 0)) B8x0_) : gb392 ≠ gb355)); have n17_ := Aside0.mk ((by rw [hg]; exact Nat.ne_of_lt (blk_lt (g := gb362) (o := .cells #[.slice Ao94 t356.length co94, .int .i64 t359, .int .i64 t360] 45 (0, 0)) B8x1_) : gb362 ≠ gb392)); have n18_ := Aside0.mk ((by rw [hg]; exact Nat.ne_of_gt (blk_lt (g := gb362) (o := .cells #[.slice Ao94 t356.length co94, .int .i64 t359, .int .i64 t360] 45 (0, 0)) B8x1_) : gb392 ≠ gb362)); have n19_ := Aside0.mk ((by rw [hg]; exact Nat.ne_of_lt (blk_lt (g := gb369) (o := .cells #[.slice Ao100 t363.length co100, .int .i64 t366, .int .i64 t367] 45 (0, 0)) B8x2_) : gb369 ≠ gb392)); have n20_ := Aside0.mk ((by rw [hg]; exact Nat.ne_of_gt (blk_lt (g := gb369) (o := .cells #[.slice Ao100 t363.length co100, .int .i64 t366, .int .i64 t367] 45 (0, 0)) B8x2_) : gb392 ≠ gb369)); have n21_ := Aside0.mk ((by rw [hg]; exact Nat.ne_of_lt (blk_lt (g := gb377) (o := .cells #[.slice Ao107 t370.length co107, .int .i64 t373, .int .i64 t374] 45 (0, 0)) B8x5_) : gb377 ≠ gb392)); have n22_ := Aside0.mk ((by rw [hg]; exact Nat.ne_of_gt (blk_lt (g := gb377) (o := .cells #[.slice Ao107 t370.length co107, .int .i64 t373, .int .i64 t374] 45 (0, 0)) B8x5_) : gb392 ≠ gb377)); have n23_ := Aside0.mk ((by rw [hg]; exact Nat.ne_of_lt (blk_lt (g := gb385) (o := .cells #[.slice Ao115 t378.length co115, .int .i64 t381, .int .i64 t382] 45 (0, 0)) B8x9_) : gb385 ≠ gb392)); have n24_ := Aside0.mk ((by rw [hg]; exact Nat.ne_of_gt (blk_lt (g := gb385) (o := .cells #[.slice Ao115 t378.length co115, .int .i64 t381, .int .i64 t382] 45 (0, 0)) B8x9_) : gb392 ≠ gb385)); clear HO351; clear HO358; clear HO365; clear HO372; clear HO380; clear HO388; clear BK355; clear BK362; clear BK369; clear BK377; clear BK385; clear HB; have HO351 := n0_; have HO358 := n1_; have HO365 := n2_; have HO372 := n3_; have HO380 := n4_; have HO388 := n5_; have BK355 := n6_; have BK362 := n7_; have BK369 := n8_; have BK377 := n9_; have BK385 := n10_; have HB := n11_; have BK392 := n12_; have GW392 := n13_; have GE392 := n14_; have NB355_392 := n15_; have NB392_355 := n16_; have NB362_392 := n17_; have NB392_362 := n18_; have NB369_392 := n19_; have NB392_369 := n20_; have NB377_392 := n21_; have NB392_377 := n22_; have NB385_392 := n23_; have NB392_385 := n24_; clear n0_ n1_ n2_ n3_ n4_ n5_ n6_ n7_ n8_ n9_ n10_ n11_ n12_ n13_ n14_ n15_ n16_ n17_ n18_ n19_ n20_ n21_ n22_ n23_ n24_; clear hb hbox hg; obtain ⟨Ao123, co123, eo123⟩ := Kd.R_slice HO388.out; subst eo123; have hnb124 := NB392_355.out; have hnc124 := NB355_392.out; have hnb125 := NB392_362.out; have hnc125 := NB362_392.out; have hnb126 := NB392_369.out; have hnc126 := NB369_392.out; have hnb127 := NB392_377.out; have hnc127 := NB377_392.out; have hnb128 := NB392_385.out; have hnc128 := NB385_392.out; obtain ⟨hcz129_0, hcz129_1, hcz129_2⟩ := cl3 BK392.out; obtain ⟨hfz129_0, hfz129_1, hfz129_2⟩ := fr3 BK392.out) | ((with_reducible refine gate_callee (f := 29) rfl ?_); refine goesL_ (some 55) rfl rfl Try.func29 B8x54_ rfl #[.int .i64 9] rfl B8x3_ ?_; (with_reducible refine (impl_RingNew.calls 9 t393 t396 t397 false _ A10.out).mono ?_); rintro e w130 ⟨v394, rfl, ho0, hb⟩; refine ⟨_, rfl, ?_⟩; have n0_ := Aside0.mk (Kd.R_elder' B8x87_ (Kd.R_base ho0) hb); have n1_ := Aside0.mk (Kd.R_elder' B8x90_ (Kd.R_base ho0) hb); have n2_ := Aside0.mk (Kd.R_elder' B8x93_ (Kd.R_base ho0) hb); have n3_ := Aside0.mk (Kd.R_elder' B8x96_ (Kd.R_base ho0) hb); have n4_ := Aside0.mk (Kd.R_elder' B8x99_ (Kd.R_base ho0) hb); have n5_ := Aside0.mk (Kd.R_elder' B8x102_ (Kd.R_base ho0) hb); have n6_ := Aside0.mk (Kd.R_lower (Kd.R_new' (Kd.R_new' (Kd.R_new' (Kd.R_new' (Kd.R_new' (Kd.R_new' ho0 (Kd.R_lt B8x87_)) (Kd.R_lt B8x90_)) (Kd.R_lt B8x93_)) (Kd.R_lt B8x96_)) (Kd.R_lt B8x99_)) (Kd.R_lt B8x102_)) (below_size B8x4_)); have n7_ := Aside0.mk (blk_below (g := gb355) (o := .cells #[.slice Ao90 t349.length co90, .int .i64 t352, .int .i64 t353] 45 (0, 0)) B8x27_ hb); have n8_ := Aside0.mk (blk_below (g := gb362) (o := .cells #[.slice Ao94 t356.length co94, .int .i64 t359, .int .i64 t360] 45 (0, 0)) B8x31_ hb); have n9_ := Aside0.mk (blk_below (g := gb369) (o := .cells #[.slice Ao100 t363.length co100, .int .i64 t366, .int .i64 t367] 45 (0, 0)) B8x34_ hb); have n10_ := Aside0.mk (blk_below (g := gb377) (o := .cells #[.slice Ao107 t370.length co107, .int .i64 t373, .int .i64 t374] 45 (0, 0)) B8x36_ hb); have n11_ := Aside0.mk (blk_below (g := gb385) (o := .cells #[.slice Ao115 t378.length co115, .int .i64 t381, .int .i64 t382] 45 (0, 0)) B8x37_ hb); have n12_ := Aside0.mk (blk_below (g := gb392) (o := .cells #[.slice Ao123 t386.length co123, .int .i64 t389, .int .i64 t390] 45 (0, 0)) (by (with_reducible repeat (first | refine blk_drewN ?_ _ | refine blk_drew ?_ | refine blk_alloc ?_ _)); refine blk_put (cs := #[.slice Ao123 t386.length co123, .int .i64 t389, .int .i64 0]) ?_ 2 _ rfl; (with_reducible repeat (first | refine blk_drewN ?_ _ | refine blk_drew ?_ | refine blk_alloc ?_ _)); refine blk_put (cs := #[.slice Ao123 t386.length co123, .int .i64 0, .int .i64 0]) ?_ 1 _ rfl; (with_reducible repeat (first | refine blk_drewN ?_ _ | refine blk_drew ?_ | refine blk_alloc ?_ _)); refine blk_put (cs := #[.slice none 0 0, .int .i64 0, .int .i64 0]) ?_ 0 _ rfl; (with_reducible repeat (first | refine blk_drewN ?_ _ | refine blk_drew ?_ | refine blk_alloc ?_ _)); exact BK392.out) hb); have n13_ := Aside0.mk (below_step B8x4_ hb); clear HO351; clear HO358; clear HO365; clear HO372; clear HO380; clear HO388; clear BK355; clear BK362; clear BK369; clear BK377; clear BK385; clear BK392; clear HB; have HO351 := n0_; have HO358 := n1_; have HO365 := n2_; have HO372 := n3_; have HO380 := n4_; have HO388 := n5_; have HO395 := n6_; have BK355 := n7_; have BK362 := n8_; have BK369 := n9_; have BK377 := n10_; have BK385 := n11_; have BK392 := n12_; have HB := n13_; clear n0_ n1_ n2_ n3_ n4_ n5_ n6_ n7_ n8_ n9_ n10_ n11_ n12_ n13_; (try clear hb); (try clear hb2); (try clear hk); (try clear hi); (try clear ho0)) | ((with_reducible refine gate_dst (N := 17) rfl ?_); (try (refine gate_guard (by rfl) ?_; dsimp only)); refine box_event ?hg (N := 17) ?hd (cs := #[.slice none 0 0, .int .i64 0, .int .i64 0]) (t := 45) ?hr ?_; (case hd => rfl); (case hg => rfl); (case hr => first | (go_simp; done) | (go_simp; rfl)); intro gb399 hg w131 hbox hb; have n0_ := Aside0.mk (Kd.R_below B8x10_ hb); have n1_ := Aside0.mk (Kd.R_below B8x12_ hb); have n2_ := Aside0.mk (Kd.R_below B8x14_ hb); have n3_ := Aside0.mk (Kd.R_below B8x15_ hb); have n4_ := Aside0.mk (Kd.R_below B8x18_ hb); have n5_ := Aside0.mk (Kd.R_below B8x20_ hb); have n6_ := Aside0.mk (Kd.R_below B8x21_ hb); have n7_ := Aside0.mk (blk_below (g := gb355) (o := .cells #[.slice Ao90 t349.length co90, .int .i64 t352, .int .i64 t353] 45 (0, 0)) B8x0_ hb); have n8_ := Aside0.mk (blk_below (g := gb362) (o := .cells #[.slice Ao94 t356.length co94, .int .i64 t359, .int .i64 t360] 45 (0, 0)) B8x1_ hb); have n9_ := Aside0.mk (blk_below (g := gb369) (o := .cells #[.slice Ao100 t363.length co100, .int .i64 t366, .int .i64 t367] 45 (0, 0)) B8x2_ hb); have n10_ := Aside0.mk (blk_below (g := gb377) (o := .cells #[.slice Ao107 t370.length co107, .int .i64 t373, .int .i64 t374] 45 (0, 0)) B8x5_ hb); have n11_ := Aside0.mk (blk_below (g := gb385) (o := .cells #[.slice Ao115 t378.length co115, .int .i64 t381, .int .i64 t382] 45 (0, 0)) B8x9_ hb); have n12_ := Aside0.mk (blk_below (g := gb392) (o := .cells #[.slice Ao123 t386.length co123, .int .i64 t389, .int .i64 t390] 45 (0, 0)) B8x16_ hb); have n13_ := Aside0.mk (below_step B8x4_ hb); have n14_ := Aside0.mk (hbox); have n15_ := Aside0.mk ((by rw [hg]; exact (below_size B8x4_) : w.heap.size ≤ gb399)); have n16_ := Aside0.mk ((by rw [hg]; exact (below_size B8x4_) : w.heap.size ≤ gb399)); have n17_ := Aside0.mk ((by rw [hg]; exact Nat.ne_of_lt (blk_lt (g := gb355) (o := .cells #[.slice Ao90 t349.length co90, .int .i64 t352, .int .i64 t353] 45 (0, 0)) B8x0_) : gb355 ≠ gb399)); have n18_ := Aside0.mk ((by rw [hg]; exact Nat.ne_of_gt (blk_lt (g := gb355) (o := .cells #[.slice Ao90 t349.length co90, .int .i64 t352, .int .i64 t353] 45 (0, 0)) B8x0_) : gb399 ≠ gb355)); have n19_ := Aside0.mk ((by rw [hg]; exact Nat.ne_of_lt (blk_lt (g := gb362) (o := .cells #[.slice Ao94 t356.length co94, .int .i64 t359, .int .i64 t360] 45 (0, 0)) B8x1_) : gb362 ≠ gb399)); have n20_ := Aside0.mk ((by rw [hg]; exact Nat.ne_of_gt (blk_lt (g := gb362) (o := .cells #[.slice Ao94 t356.length co94, .int .i64 t359, .int .i64 t360] 45 (0, 0)) B8x1_) : gb399 ≠ gb362)); have n21_ := Aside0.mk ((by rw [hg]; exact Nat.ne_of_lt (blk_lt (g := gb369) (o := .cells #[.slice Ao100 t363.length co100, .int .i64 t366, .int .i64 t367] 45 (0, 0)) B8x2_) : gb369 ≠ gb399)); have n22_ := Aside0.mk ((by rw [hg]; exact Nat.ne_of_gt (blk_lt (g := gb369) (o := .cells #[.slice Ao100 t363.length co100, .int .i64 t366, .int .i64 t367] 45 (0, 0)) B8x2_) : gb399 ≠ gb369)); have n23_ := Aside0.mk ((by rw [hg]; exact Nat.ne_of_lt (blk_lt (g := gb377) (o := .cells #[.slice Ao107 t370.length co107, .int .i64 t373, .int .i64 t374] 45 (0, 0)) B8x5_) : gb377 ≠ gb399)); have n24_ := Aside0.mk ((by rw [hg]; exact Nat.ne_of_gt (blk_lt (g := gb377) (o := .cells #[.slice Ao107 t370.length co107, .int .i64 t373, .int .i64 t374] 45 (0, 0)) B8x5_) : gb399 ≠ gb377)); have n25_ := Aside0.mk ((by rw [hg]; exact Nat.ne_of_lt (blk_lt (g := gb385) (o := .cells #[.slice Ao115 t378.length co115, .int .i64 t381, .int .i64 t382] 45 (0, 0)) B8x9_) : gb385 ≠ gb399)); have n26_ := Aside0.mk ((by rw [hg]; exact Nat.ne_of_gt (blk_lt (g := gb385) (o := .cells #[.slice Ao115 t378.length co115, .int .i64 t381, .int .i64 t382] 45 (0, 0)) B8x9_) : gb399 ≠ gb385)); have n27_ := Aside0.mk ((by rw [hg]; exact Nat.ne_of_lt (blk_lt (g := gb392) (o := .cells #[.slice Ao123 t386.length co123, .int .i64 t389, .int .i64 t390] 45 (0, 0)) B8x16_) : gb392 ≠ gb399)); have n28_ := Aside0.mk ((by rw [hg]; exact Nat.ne_of_gt (blk_lt (g := gb392) (o := .cells #[.slice Ao123 t386.length co123, .int .i64 t389, .int .i64 t390] 45 (0, 0)) B8x16_) : gb399 ≠ gb392)); clear HO351; clear HO358; clear HO365; clear HO372; clear HO380; clear HO388; clear HO395; clear BK355; clear BK362; clear BK369; clear BK377; clear BK385; clear BK392; clear HB; have HO351 := n0_; have HO358 := n1_; have HO365 := n2_; have HO372 := n3_; have HO380 := n4_; have HO388 := n5_; have HO395 := n6_; have BK355 := n7_; have BK362 := n8_; have BK369 := n9_; have BK377 := n10_; have BK385 := n11_; have BK392 := n12_; have HB := n13_; have BK399 := n14_; have GW399 := n15_; have GE399 := n16_; have NB355_399 := n17_; have NB399_355 := n18_; have NB362_399 := n19_; have NB399_362 := n20_; have NB369_399 := n21_; have NB399_369 := n22_; have NB377_399 := n23_; have NB399_377 := n24_; have NB385_399 := n25_; have NB399_385 := n26_; have NB392_399 := n27_; have NB399_392 := n28_; clear n0_ n1_ n2_ n3_ n4_ n5_ n6_ n7_ n8_ n9_ n10_ n11_ n12_ n13_ n14_ n15_ n16_ n17_ n18_ n19_ n20_ n21_ n22_ n23_ n24_ n25_ n26_ n27_ n28_; clear hb hbox hg; obtain ⟨Ao132, co132, eo132⟩ := Kd.R_slice HO395.out; subst eo132; have hnb133 := NB399_355.out; have hnc133 := NB355_399.out; have hnb134 := NB399_362.out; have hnc134 := NB362_399.out; have hnb135 := NB399_369.out; have hnc135 := NB369_399.out; have hnb136 := NB399_377.out; have hnc136 := NB377_399.out; have hnb137 := NB399_385.out; have hnc137 := NB385_399.out; have hnb138 := NB399_392.out; have hnc138 := NB392_399.out; obtain ⟨hcz139_0, hcz139_1, hcz139_2⟩ := cl3 BK399.out; obtain ⟨hfz139_0, hfz139_1, hfz139_2⟩ := fr3 BK399.out))
            have n0_ : Aside0 (Kd.R k105 105 (((w131.setCell ⟨gb399, 0, none⟩ (.slice Ao132 t393.length co132)).setCell ⟨gb399, 1, none⟩ (.int .i64 t396)).setCell ⟨gb399, 2, none⟩ (.int .i64 t397)) w.heap.size (fun k_ => some k_ ≠ (.slice Ao94 t356.length co94 : Value).ownBlock ∧ some k_ ≠ (.slice Ao100 t363.length co100 : Value).ownBlock ∧ some k_ ≠ (.slice Ao107 t370.length co107 : Value).ownBlock ∧ some k_ ≠ (.slice Ao115 t378.length co115 : Value).ownBlock ∧ some k_ ≠ (.slice Ao123 t386.length co123 : Value).ownBlock ∧ some k_ ≠ (.slice Ao132 t393.length co132 : Value).ownBlock) (.slice Ao90 t349.length co90) t349) := ⟨by (with_reducible repeat (first | apply Kd.R_alloc | apply Kd.R_drewN | apply Kd.R_drew)); exact Kd.R_mono (Kd.R_far (p := ⟨gb399, 2, none⟩) (Kd.R_far (p := ⟨gb399, 1, none⟩) (Kd.R_far (p := ⟨gb399, 0, none⟩) (Kd.R_types HO351.out BK399.out (by decide)) (fun _ hk => hk.2) (.slice Ao132 t393.length co132)) (fun _ hk => hk.2) (.int .i64 t396)) (fun _ hk => hk.2) (.int .i64 t397)) (fun _ hk => ⟨hk.1.1.1.1.1.1.2, ⟨hk.1.1.1.1.1.2, ⟨hk.1.1.1.1.2, ⟨hk.1.1.1.2, ⟨hk.1.1.2, hk.1.2⟩⟩⟩⟩⟩)⟩
            have n1_ : Aside0 (Kd.R k105 105 (((w131.setCell ⟨gb399, 0, none⟩ (.slice Ao132 t393.length co132)).setCell ⟨gb399, 1, none⟩ (.int .i64 t396)).setCell ⟨gb399, 2, none⟩ (.int .i64 t397)) w.heap.size (fun k_ => some k_ ≠ (.slice Ao90 t349.length co90 : Value).ownBlock ∧ some k_ ≠ (.slice Ao100 t363.length co100 : Value).ownBlock ∧ some k_ ≠ (.slice Ao107 t370.length co107 : Value).ownBlock ∧ some k_ ≠ (.slice Ao115 t378.length co115 : Value).ownBlock ∧ some k_ ≠ (.slice Ao123 t386.length co123 : Value).ownBlock ∧ some k_ ≠ (.slice Ao132 t393.length co132 : Value).ownBlock) (.slice Ao94 t356.length co94) t356) := ⟨by (with_reducible repeat (first | apply Kd.R_alloc | apply Kd.R_drewN | apply Kd.R_drew)); exact Kd.R_mono (Kd.R_far (p := ⟨gb399, 2, none⟩) (Kd.R_far (p := ⟨gb399, 1, none⟩) (Kd.R_far (p := ⟨gb399, 0, none⟩) (Kd.R_types HO358.out BK399.out (by decide)) (fun _ hk => hk.2) (.slice Ao132 t393.length co132)) (fun _ hk => hk.2) (.int .i64 t396)) (fun _ hk => hk.2) (.int .i64 t397)) (fun _ hk => ⟨hk.1.1.1.1.1.1.2, ⟨hk.1.1.1.1.1.2, ⟨hk.1.1.1.1.2, ⟨hk.1.1.1.2, ⟨hk.1.1.2, hk.1.2⟩⟩⟩⟩⟩)⟩
            have n2_ : Aside0 (Kd.R k105 105 (((w131.setCell ⟨gb399, 0, none⟩ (.slice Ao132 t393.length co132)).setCell ⟨gb399, 1, none⟩ (.int .i64 t396)).setCell ⟨gb399, 2, none⟩ (.int .i64 t397)) w.heap.size (fun k_ => some k_ ≠ (.slice Ao90 t349.length co90 : Value).ownBlock ∧ some k_ ≠ (.slice Ao94 t356.length co94 : Value).ownBlock ∧ some k_ ≠ (.slice Ao107 t370.length co107 : Value).ownBlock ∧ some k_ ≠ (.slice Ao115 t378.length co115 : Value).ownBlock ∧ some k_ ≠ (.slice Ao123 t386.length co123 : Value).ownBlock ∧ some k_ ≠ (.slice Ao132 t393.length co132 : Value).ownBlock) (.slice Ao100 t363.length co100) t363) := ⟨by (with_reducible repeat (first | apply Kd.R_alloc | apply Kd.R_drewN | apply Kd.R_drew)); exact Kd.R_mono (Kd.R_far (p := ⟨gb399, 2, none⟩) (Kd.R_far (p := ⟨gb399, 1, none⟩) (Kd.R_far (p := ⟨gb399, 0, none⟩) (Kd.R_types HO365.out BK399.out (by decide)) (fun _ hk => hk.2) (.slice Ao132 t393.length co132)) (fun _ hk => hk.2) (.int .i64 t396)) (fun _ hk => hk.2) (.int .i64 t397)) (fun _ hk => ⟨hk.1.1.1.1.1.1.2, ⟨hk.1.1.1.1.1.2, ⟨hk.1.1.1.1.2, ⟨hk.1.1.1.2, ⟨hk.1.1.2, hk.1.2⟩⟩⟩⟩⟩)⟩
            have n3_ : Aside0 (Kd.R k105 105 (((w131.setCell ⟨gb399, 0, none⟩ (.slice Ao132 t393.length co132)).setCell ⟨gb399, 1, none⟩ (.int .i64 t396)).setCell ⟨gb399, 2, none⟩ (.int .i64 t397)) w.heap.size (fun k_ => some k_ ≠ (.slice Ao90 t349.length co90 : Value).ownBlock ∧ some k_ ≠ (.slice Ao94 t356.length co94 : Value).ownBlock ∧ some k_ ≠ (.slice Ao100 t363.length co100 : Value).ownBlock ∧ some k_ ≠ (.slice Ao115 t378.length co115 : Value).ownBlock ∧ some k_ ≠ (.slice Ao123 t386.length co123 : Value).ownBlock ∧ some k_ ≠ (.slice Ao132 t393.length co132 : Value).ownBlock) (.slice Ao107 t370.length co107) t370) := ⟨by (with_reducible repeat (first | apply Kd.R_alloc | apply Kd.R_drewN | apply Kd.R_drew)); exact Kd.R_mono (Kd.R_far (p := ⟨gb399, 2, none⟩) (Kd.R_far (p := ⟨gb399, 1, none⟩) (Kd.R_far (p := ⟨gb399, 0, none⟩) (Kd.R_types HO372.out BK399.out (by decide)) (fun _ hk => hk.2) (.slice Ao132 t393.length co132)) (fun _ hk => hk.2) (.int .i64 t396)) (fun _ hk => hk.2) (.int .i64 t397)) (fun _ hk => ⟨hk.1.1.1.1.1.1.2, ⟨hk.1.1.1.1.1.2, ⟨hk.1.1.1.1.2, ⟨hk.1.1.1.2, ⟨hk.1.1.2, hk.1.2⟩⟩⟩⟩⟩)⟩
            have n4_ : Aside0 (Kd.R k105 105 (((w131.setCell ⟨gb399, 0, none⟩ (.slice Ao132 t393.length co132)).setCell ⟨gb399, 1, none⟩ (.int .i64 t396)).setCell ⟨gb399, 2, none⟩ (.int .i64 t397)) w.heap.size (fun k_ => some k_ ≠ (.slice Ao90 t349.length co90 : Value).ownBlock ∧ some k_ ≠ (.slice Ao94 t356.length co94 : Value).ownBlock ∧ some k_ ≠ (.slice Ao100 t363.length co100 : Value).ownBlock ∧ some k_ ≠ (.slice Ao107 t370.length co107 : Value).ownBlock ∧ some k_ ≠ (.slice Ao123 t386.length co123 : Value).ownBlock ∧ some k_ ≠ (.slice Ao132 t393.length co132 : Value).ownBlock) (.slice Ao115 t378.length co115) t378) := ⟨by (with_reducible repeat (first | apply Kd.R_alloc | apply Kd.R_drewN | apply Kd.R_drew)); exact Kd.R_mono (Kd.R_far (p := ⟨gb399, 2, none⟩) (Kd.R_far (p := ⟨gb399, 1, none⟩) (Kd.R_far (p := ⟨gb399, 0, none⟩) (Kd.R_types HO380.out BK399.out (by decide)) (fun _ hk => hk.2) (.slice Ao132 t393.length co132)) (fun _ hk => hk.2) (.int .i64 t396)) (fun _ hk => hk.2) (.int .i64 t397)) (fun _ hk => ⟨hk.1.1.1.1.1.1.2, ⟨hk.1.1.1.1.1.2, ⟨hk.1.1.1.1.2, ⟨hk.1.1.1.2, ⟨hk.1.1.2, hk.1.2⟩⟩⟩⟩⟩)⟩
            have n5_ : Aside0 (Kd.R k105 105 (((w131.setCell ⟨gb399, 0, none⟩ (.slice Ao132 t393.length co132)).setCell ⟨gb399, 1, none⟩ (.int .i64 t396)).setCell ⟨gb399, 2, none⟩ (.int .i64 t397)) w.heap.size (fun k_ => some k_ ≠ (.slice Ao90 t349.length co90 : Value).ownBlock ∧ some k_ ≠ (.slice Ao94 t356.length co94 : Value).ownBlock ∧ some k_ ≠ (.slice Ao100 t363.length co100 : Value).ownBlock ∧ some k_ ≠ (.slice Ao107 t370.length co107 : Value).ownBlock ∧ some k_ ≠ (.slice Ao115 t378.length co115 : Value).ownBlock ∧ some k_ ≠ (.slice Ao132 t393.length co132 : Value).ownBlock) (.slice Ao123 t386.length co123) t386) := ⟨by (with_reducible repeat (first | apply Kd.R_alloc | apply Kd.R_drewN | apply Kd.R_drew)); exact Kd.R_mono (Kd.R_far (p := ⟨gb399, 2, none⟩) (Kd.R_far (p := ⟨gb399, 1, none⟩) (Kd.R_far (p := ⟨gb399, 0, none⟩) (Kd.R_types HO388.out BK399.out (by decide)) (fun _ hk => hk.2) (.slice Ao132 t393.length co132)) (fun _ hk => hk.2) (.int .i64 t396)) (fun _ hk => hk.2) (.int .i64 t397)) (fun _ hk => ⟨hk.1.1.1.1.1.1.2, ⟨hk.1.1.1.1.1.2, ⟨hk.1.1.1.1.2, ⟨hk.1.1.1.2, ⟨hk.1.1.2, hk.1.2⟩⟩⟩⟩⟩)⟩
            have n6_ : Aside0 (Kd.R k105 105 (((w131.setCell ⟨gb399, 0, none⟩ (.slice Ao132 t393.length co132)).setCell ⟨gb399, 1, none⟩ (.int .i64 t396)).setCell ⟨gb399, 2, none⟩ (.int .i64 t397)) w.heap.size (fun k_ => some k_ ≠ (.slice Ao90 t349.length co90 : Value).ownBlock ∧ some k_ ≠ (.slice Ao94 t356.length co94 : Value).ownBlock ∧ some k_ ≠ (.slice Ao100 t363.length co100 : Value).ownBlock ∧ some k_ ≠ (.slice Ao107 t370.length co107 : Value).ownBlock ∧ some k_ ≠ (.slice Ao115 t378.length co115 : Value).ownBlock ∧ some k_ ≠ (.slice Ao123 t386.length co123 : Value).ownBlock) (.slice Ao132 t393.length co132) t393) := ⟨by (with_reducible repeat (first | apply Kd.R_alloc | apply Kd.R_drewN | apply Kd.R_drew)); exact Kd.R_mono (Kd.R_far (p := ⟨gb399, 2, none⟩) (Kd.R_far (p := ⟨gb399, 1, none⟩) (Kd.R_far (p := ⟨gb399, 0, none⟩) (Kd.R_types HO395.out BK399.out (by decide)) (fun _ hk => hk.2) (.slice Ao132 t393.length co132)) (fun _ hk => hk.2) (.int .i64 t396)) (fun _ hk => hk.2) (.int .i64 t397)) (fun _ hk => ⟨hk.1.1.1.1.1.1.2, ⟨hk.1.1.1.1.1.2, ⟨hk.1.1.1.1.2, ⟨hk.1.1.1.2, ⟨hk.1.1.2, hk.1.2⟩⟩⟩⟩⟩)⟩
            have n7_ : Aside0 ((((w131.setCell ⟨gb399, 0, none⟩ (.slice Ao132 t393.length co132)).setCell ⟨gb399, 1, none⟩ (.int .i64 t396)).setCell ⟨gb399, 2, none⟩ (.int .i64 t397)).heap[gb355]? = some (.cells #[.slice Ao90 t349.length co90, .int .i64 t352, .int .i64 t353] 45 (0, 0))) := ⟨by (with_reducible repeat (first | refine blk_drewN ?_ _ | refine blk_drew ?_ | refine blk_alloc ?_ _)); refine blk_far ?_ NB355_399.out _; (with_reducible repeat (first | refine blk_drewN ?_ _ | refine blk_drew ?_ | refine blk_alloc ?_ _)); refine blk_far ?_ NB355_399.out _; (with_reducible repeat (first | refine blk_drewN ?_ _ | refine blk_drew ?_ | refine blk_alloc ?_ _)); refine blk_far ?_ NB355_399.out _; (with_reducible repeat (first | refine blk_drewN ?_ _ | refine blk_drew ?_ | refine blk_alloc ?_ _)); exact BK355.out⟩
            have n8_ : Aside0 ((((w131.setCell ⟨gb399, 0, none⟩ (.slice Ao132 t393.length co132)).setCell ⟨gb399, 1, none⟩ (.int .i64 t396)).setCell ⟨gb399, 2, none⟩ (.int .i64 t397)).heap[gb362]? = some (.cells #[.slice Ao94 t356.length co94, .int .i64 t359, .int .i64 t360] 45 (0, 0))) := ⟨by (with_reducible repeat (first | refine blk_drewN ?_ _ | refine blk_drew ?_ | refine blk_alloc ?_ _)); refine blk_far ?_ NB362_399.out _; (with_reducible repeat (first | refine blk_drewN ?_ _ | refine blk_drew ?_ | refine blk_alloc ?_ _)); refine blk_far ?_ NB362_399.out _; (with_reducible repeat (first | refine blk_drewN ?_ _ | refine blk_drew ?_ | refine blk_alloc ?_ _)); refine blk_far ?_ NB362_399.out _; (with_reducible repeat (first | refine blk_drewN ?_ _ | refine blk_drew ?_ | refine blk_alloc ?_ _)); exact BK362.out⟩
            have n9_ : Aside0 ((((w131.setCell ⟨gb399, 0, none⟩ (.slice Ao132 t393.length co132)).setCell ⟨gb399, 1, none⟩ (.int .i64 t396)).setCell ⟨gb399, 2, none⟩ (.int .i64 t397)).heap[gb369]? = some (.cells #[.slice Ao100 t363.length co100, .int .i64 t366, .int .i64 t367] 45 (0, 0))) := ⟨by (with_reducible repeat (first | refine blk_drewN ?_ _ | refine blk_drew ?_ | refine blk_alloc ?_ _)); refine blk_far ?_ NB369_399.out _; (with_reducible repeat (first | refine blk_drewN ?_ _ | refine blk_drew ?_ | refine blk_alloc ?_ _)); refine blk_far ?_ NB369_399.out _; (with_reducible repeat (first | refine blk_drewN ?_ _ | refine blk_drew ?_ | refine blk_alloc ?_ _)); refine blk_far ?_ NB369_399.out _; (with_reducible repeat (first | refine blk_drewN ?_ _ | refine blk_drew ?_ | refine blk_alloc ?_ _)); exact BK369.out⟩
            have n10_ : Aside0 ((((w131.setCell ⟨gb399, 0, none⟩ (.slice Ao132 t393.length co132)).setCell ⟨gb399, 1, none⟩ (.int .i64 t396)).setCell ⟨gb399, 2, none⟩ (.int .i64 t397)).heap[gb377]? = some (.cells #[.slice Ao107 t370.length co107, .int .i64 t373, .int .i64 t374] 45 (0, 0))) := ⟨by (with_reducible repeat (first | refine blk_drewN ?_ _ | refine blk_drew ?_ | refine blk_alloc ?_ _)); refine blk_far ?_ NB377_399.out _; (with_reducible repeat (first | refine blk_drewN ?_ _ | refine blk_drew ?_ | refine blk_alloc ?_ _)); refine blk_far ?_ NB377_399.out _; (with_reducible repeat (first | refine blk_drewN ?_ _ | refine blk_drew ?_ | refine blk_alloc ?_ _)); refine blk_far ?_ NB377_399.out _; (with_reducible repeat (first | refine blk_drewN ?_ _ | refine blk_drew ?_ | refine blk_alloc ?_ _)); exact BK377.out⟩
            have n11_ : Aside0 ((((w131.setCell ⟨gb399, 0, none⟩ (.slice Ao132 t393.length co132)).setCell ⟨gb399, 1, none⟩ (.int .i64 t396)).setCell ⟨gb399, 2, none⟩ (.int .i64 t397)).heap[gb385]? = some (.cells #[.slice Ao115 t378.length co115, .int .i64 t381, .int .i64 t382] 45 (0, 0))) := ⟨by (with_reducible repeat (first | refine blk_drewN ?_ _ | refine blk_drew ?_ | refine blk_alloc ?_ _)); refine blk_far ?_ NB385_399.out _; (with_reducible repeat (first | refine blk_drewN ?_ _ | refine blk_drew ?_ | refine blk_alloc ?_ _)); refine blk_far ?_ NB385_399.out _; (with_reducible repeat (first | refine blk_drewN ?_ _ | refine blk_drew ?_ | refine blk_alloc ?_ _)); refine blk_far ?_ NB385_399.out _; (with_reducible repeat (first | refine blk_drewN ?_ _ | refine blk_drew ?_ | refine blk_alloc ?_ _)); exact BK385.out⟩
            have n12_ : Aside0 ((((w131.setCell ⟨gb399, 0, none⟩ (.slice Ao132 t393.length co132)).setCell ⟨gb399, 1, none⟩ (.int .i64 t396)).setCell ⟨gb399, 2, none⟩ (.int .i64 t397)).heap[gb392]? = some (.cells #[.slice Ao123 t386.length co123, .int .i64 t389, .int .i64 t390] 45 (0, 0))) := ⟨by (with_reducible repeat (first | refine blk_drewN ?_ _ | refine blk_drew ?_ | refine blk_alloc ?_ _)); refine blk_far ?_ NB392_399.out _; (with_reducible repeat (first | refine blk_drewN ?_ _ | refine blk_drew ?_ | refine blk_alloc ?_ _)); refine blk_far ?_ NB392_399.out _; (with_reducible repeat (first | refine blk_drewN ?_ _ | refine blk_drew ?_ | refine blk_alloc ?_ _)); refine blk_far ?_ NB392_399.out _; (with_reducible repeat (first | refine blk_drewN ?_ _ | refine blk_drew ?_ | refine blk_alloc ?_ _)); exact BK392.out⟩
            have n13_ : Aside0 ((((w131.setCell ⟨gb399, 0, none⟩ (.slice Ao132 t393.length co132)).setCell ⟨gb399, 1, none⟩ (.int .i64 t396)).setCell ⟨gb399, 2, none⟩ (.int .i64 t397)).heap[gb399]? = some (.cells #[.slice Ao132 t393.length co132, .int .i64 t396, .int .i64 t397] 45 (0, 0))) := ⟨by (with_reducible repeat (first | refine blk_drewN ?_ _ | refine blk_drew ?_ | refine blk_alloc ?_ _)); refine blk_put (cs := #[.slice Ao132 t393.length co132, .int .i64 t396, .int .i64 0]) ?_ 2 _ rfl; (with_reducible repeat (first | refine blk_drewN ?_ _ | refine blk_drew ?_ | refine blk_alloc ?_ _)); refine blk_put (cs := #[.slice Ao132 t393.length co132, .int .i64 0, .int .i64 0]) ?_ 1 _ rfl; (with_reducible repeat (first | refine blk_drewN ?_ _ | refine blk_drew ?_ | refine blk_alloc ?_ _)); refine blk_put (cs := #[.slice none 0 0, .int .i64 0, .int .i64 0]) ?_ 0 _ rfl; (with_reducible repeat (first | refine blk_drewN ?_ _ | refine blk_drew ?_ | refine blk_alloc ?_ _)); exact BK399.out⟩
            have n14_ : Aside0 (Below w.heap.size w (((w131.setCell ⟨gb399, 0, none⟩ (.slice Ao132 t393.length co132)).setCell ⟨gb399, 1, none⟩ (.int .i64 t396)).setCell ⟨gb399, 2, none⟩ (.int .i64 t397))) := ⟨by repeat (first | (with_reducible first | exact HB.out | apply below_alloc | apply pw_below_drewN | apply below_drew1 | refine below_set ?_ GE355.out | refine below_set ?_ GE362.out | refine below_set ?_ GE369.out | refine below_set ?_ GE377.out | refine below_set ?_ GE385.out | refine below_set ?_ GE392.out | refine below_set ?_ GE399.out) | exact HB.out)⟩
            (try clear HO351)
            (try clear HO358)
            (try clear HO365)
            (try clear HO372)
            (try clear HO380)
            (try clear HO388)
            (try clear HO395)
            (try clear BK355)
            (try clear BK362)
            (try clear BK369)
            (try clear BK377)
            (try clear BK385)
            (try clear BK392)
            (try clear BK399)
            (try clear HB)
            generalize (((w131.setCell ⟨gb399, 0, none⟩ (.slice Ao132 t393.length co132)).setCell ⟨gb399, 1, none⟩ (.int .i64 t396)).setCell ⟨gb399, 2, none⟩ (.int .i64 t397)) = w140 at n0_ n1_ n2_ n3_ n4_ n5_ n6_ n7_ n8_ n9_ n10_ n11_ n12_ n13_ n14_ ⊢
            have HO351 := n0_
            have HO358 := n1_
            have HO365 := n2_
            have HO372 := n3_
            have HO380 := n4_
            have HO388 := n5_
            have HO395 := n6_
            have BK355 := n7_
            have BK362 := n8_
            have BK369 := n9_
            have BK377 := n10_
            have BK385 := n11_
            have BK392 := n12_
            have BK399 := n13_
            have HB := n14_
            clear n0_ n1_ n2_ n3_ n4_ n5_ n6_ n7_ n8_ n9_ n10_ n11_ n12_ n13_ n14_
            have n0_ := Aside0.mk (Kd.R_drew HO351.out)
            have n1_ := Aside0.mk (Kd.R_drew HO358.out)
            have n2_ := Aside0.mk (Kd.R_drew HO365.out)
            have n3_ := Aside0.mk (Kd.R_drew HO372.out)
            have n4_ := Aside0.mk (Kd.R_drew HO380.out)
            have n5_ := Aside0.mk (Kd.R_drew HO388.out)
            have n6_ := Aside0.mk (Kd.R_drew HO395.out)
            have n7_ := Aside0.mk (blk_drew BK355.out)
            have n8_ := Aside0.mk (blk_drew BK362.out)
            have n9_ := Aside0.mk (blk_drew BK369.out)
            have n10_ := Aside0.mk (blk_drew BK377.out)
            have n11_ := Aside0.mk (blk_drew BK385.out)
            have n12_ := Aside0.mk (blk_drew BK392.out)
            have n13_ := Aside0.mk (blk_drew BK399.out)
            have n14_ := Aside0.mk (below_drew1 HB.out)
            clear HO351
            clear HO358
            clear HO365
            clear HO372
            clear HO380
            clear HO388
            clear HO395
            clear BK355
            clear BK362
            clear BK369
            clear BK377
            clear BK385
            clear BK392
            clear BK399
            clear HB
            have HO351 := n0_
            have HO358 := n1_
            have HO365 := n2_
            have HO372 := n3_
            have HO380 := n4_
            have HO388 := n5_
            have HO395 := n6_
            have BK355 := n7_
            have BK362 := n8_
            have BK369 := n9_
            have BK377 := n10_
            have BK385 := n11_
            have BK392 := n12_
            have BK399 := n13_
            have HB := n14_
            clear n0_ n1_ n2_ n3_ n4_ n5_ n6_ n7_ n8_ n9_ n10_ n11_ n12_ n13_ n14_
            refine start_ (n := 70) (S := fun w' => w'.cell? ⟨gb355, 0, none⟩ = some (.slice Ao90 t349.length co90) ∧ w'.cell? ⟨gb355, 1, none⟩ = some (.int .i64 t352) ∧ w'.cell? ⟨gb355, 2, none⟩ = some (.int .i64 t353) ∧ w'.cell? ⟨gb377, 0, none⟩ = some (.slice Ao107 t370.length co107) ∧ w'.cell? ⟨gb377, 1, none⟩ = some (.int .i64 t373) ∧ w'.cell? ⟨gb377, 2, none⟩ = some (.int .i64 t374) ∧ w'.cell? ⟨gb392, 0, none⟩ = some (.slice Ao123 t386.length co123) ∧ w'.cell? ⟨gb392, 1, none⟩ = some (.int .i64 t389) ∧ w'.cell? ⟨gb392, 2, none⟩ = some (.int .i64 t390)) (ds := []) #[false, false, false, false, false, false, false, false, false, false, false, false, false, false, false, false, false, false, false, false, false, false, false, false, false, false, false, false, false, false, false, false, false, false, false, false, false, false, false, false, false, false, false, false, false, false, false, false, false, false, false, false, false, false, false, false, false, false, false, false, false, false, false, false, false, false, false, false, false, false] B8x54_ rfl rfl ⟨(blk_cell BK355.out 0).trans rfl, (blk_cell BK355.out 1).trans rfl, (blk_cell BK355.out 2).trans rfl, (blk_cell BK377.out 0).trans rfl, (blk_cell BK377.out 1).trans rfl, (blk_cell BK377.out 2).trans rfl, (blk_cell BK392.out 0).trans rfl, (blk_cell BK392.out 1).trans rfl, (blk_cell BK392.out 2).trans rfl⟩ (fun hHeld => ?_); refine with_tabW laws_FnRingsTold.tab10 laws_FnRingsTold.bits10 (fun HT_ HW_ => ?_)
            generalize w140.drew = w141 at HO351 HO358 HO365 HO372 HO380 HO388 HO395 BK355 BK362 BK369 BK377 BK385 BK392 BK399 HB hHeld ⊢
            refine ta_ 0 58 HT_ HW_ hHeld ?_
            refine ta_ 2 60 HT_ HW_ hHeld ?_
            refine one_ (i := 1) (N := some 59) #[true, true, true, false, false, false, false, false, false, false, false, false, false, false, false, false, false, false, false, false, false, false, false, false, false, false, false, false, false, false, false, false, false, false, false, false, false, false, false, false, false, false, false, false, false, false, false, false, false, false, false, false, false, false, false, false, false, false, false, false, false, false, false, false, false, false, false, false, false, false] rfl rfl (one_of HT_.out B8x54_) (by decide) (fun K hK => ?_)
            refine goes_ Try.func30 B8x54_ rfl #[.agg #[.slice Ao90 t349.length co90, .int .i64 t352, .int .i64 t353]] (by rfl) rfl rfl B8x3_ ?_
            with_reducible refine (impl_RingOk.calls k _ _ t349 t352 t353 t400 _ ?side1 ?side2 A11.out).mono ?_
            (case side1 => repeat (first | exact (Kd.R_reads' HO351.out).2.2 | (with_reducible refine Kd.C_alloc ?_ _) | (with_reducible refine Kd.C_drewN ?_ _) | (with_reducible refine Kd.C_drew ?_)))
            (case side2 => exact (Kd.R_reads' HO351.out).2.1)
            rintro e w142 ⟨rfl, hb⟩
            refine ⟨_, rfl, ?_⟩
            have n0_ := Aside0.mk (Kd.R_below B8x10_ hb)
            have n1_ := Aside0.mk (Kd.R_below B8x12_ hb)
            have n2_ := Aside0.mk (Kd.R_below B8x14_ hb)
            have n3_ := Aside0.mk (Kd.R_below B8x15_ hb)
            have n4_ := Aside0.mk (Kd.R_below B8x18_ hb)
            have n5_ := Aside0.mk (Kd.R_below B8x20_ hb)
            have n6_ := Aside0.mk (Kd.R_below B8x21_ hb)
            have n7_ := Aside0.mk (blk_below (g := gb355) (o := .cells #[.slice Ao90 t349.length co90, .int .i64 t352, .int .i64 t353] 45 (0, 0)) B8x0_ hb)
            have n8_ := Aside0.mk (blk_below (g := gb362) (o := .cells #[.slice Ao94 t356.length co94, .int .i64 t359, .int .i64 t360] 45 (0, 0)) B8x1_ hb)
            have n9_ := Aside0.mk (blk_below (g := gb369) (o := .cells #[.slice Ao100 t363.length co100, .int .i64 t366, .int .i64 t367] 45 (0, 0)) B8x2_ hb)
            have n10_ := Aside0.mk (blk_below (g := gb377) (o := .cells #[.slice Ao107 t370.length co107, .int .i64 t373, .int .i64 t374] 45 (0, 0)) B8x5_ hb)
            have n11_ := Aside0.mk (blk_below (g := gb385) (o := .cells #[.slice Ao115 t378.length co115, .int .i64 t381, .int .i64 t382] 45 (0, 0)) B8x9_ hb)
            have n12_ := Aside0.mk (blk_below (g := gb392) (o := .cells #[.slice Ao123 t386.length co123, .int .i64 t389, .int .i64 t390] 45 (0, 0)) B8x16_ hb)
            have n13_ := Aside0.mk (blk_below (g := gb399) (o := .cells #[.slice Ao132 t393.length co132, .int .i64 t396, .int .i64 t397] 45 (0, 0)) B8x22_ hb)
            have n14_ := Aside0.mk (below_step B8x7_ hb)
            clear HO351
            clear HO358
            clear HO365
            clear HO372
            clear HO380
            clear HO388
            clear HO395
            clear BK355
            clear BK362
            clear BK369
            clear BK377
            clear BK385
            clear BK392
            clear BK399
            clear HB
            have HO351 := n0_
            have HO358 := n1_
            have HO365 := n2_
            have HO372 := n3_
            have HO380 := n4_
            have HO388 := n5_
            have HO395 := n6_
            have BK355 := n7_
            have BK362 := n8_
            have BK369 := n9_
            have BK377 := n10_
            have BK385 := n11_
            have BK392 := n12_
            have BK399 := n13_
            have HB := n14_
            clear n0_ n1_ n2_ n3_ n4_ n5_ n6_ n7_ n8_ n9_ n10_ n11_ n12_ n13_ n14_
            (try clear hb)
            (try clear hb2)
            (try clear hk)
            (try clear hi)
            refine hK.out _ _ ⟨(blk_cell BK355.out 0).trans rfl, (blk_cell BK355.out 1).trans rfl, (blk_cell BK355.out 2).trans rfl, (blk_cell BK377.out 0).trans rfl, (blk_cell BK377.out 1).trans rfl, (blk_cell BK377.out 2).trans rfl, (blk_cell BK392.out 0).trans rfl, (blk_cell BK392.out 1).trans rfl, (blk_cell BK392.out 2).trans rfl⟩ (fun hHeld => ?_)
            clear hK K
            refine norm_ (a' := ?_) ?_ ?_
            rotate_left
            ·show Act.put _ (some 59) _ = _
             simp only [Act.put, List.setIfInBounds_toArray, List.set_cons_zero, List.set_cons_succ, i64_w, i32_w]
             rfl
            refine one_ (i := 3) (N := some 61) #[true, true, true, true, false, false, false, false, false, false, false, false, false, false, false, false, false, false, false, false, false, false, false, false, false, false, false, false, false, false, false, false, false, false, false, false, false, false, false, false, false, false, false, false, false, false, false, false, false, false, false, false, false, false, false, false, false, false, false, false, false, false, false, false, false, false, false, false, false, false] rfl rfl (one_of HT_.out B8x54_) (by decide) (fun K hK => ?_)
            refine goes_ Try.func31 B8x54_ rfl #[.agg #[.slice Ao90 t349.length co90, .int .i64 t352, .int .i64 t353]] (by rfl) rfl rfl B8x3_ ?_
            with_reducible refine (spec_RingOk.calls k _ _ t349 t352 t353 t401 _ ?side1 ?side2 A12.out).mono ?_
            (case side1 => repeat (first | exact (Kd.R_reads' HO351.out).2.2 | (with_reducible refine Kd.C_alloc ?_ _) | (with_reducible refine Kd.C_drewN ?_ _) | (with_reducible refine Kd.C_drew ?_)))
            (case side2 => exact (Kd.R_reads' HO351.out).2.1)
            rintro e w143 ⟨rfl, hb⟩
            refine ⟨_, rfl, ?_⟩
            have n0_ := Aside0.mk (Kd.R_below B8x10_ hb)
            have n1_ := Aside0.mk (Kd.R_below B8x12_ hb)
            have n2_ := Aside0.mk (Kd.R_below B8x14_ hb)
            have n3_ := Aside0.mk (Kd.R_below B8x15_ hb)
            have n4_ := Aside0.mk (Kd.R_below B8x18_ hb)
            have n5_ := Aside0.mk (Kd.R_below B8x20_ hb)
            have n6_ := Aside0.mk (Kd.R_below B8x21_ hb)
            have n7_ := Aside0.mk (blk_below (g := gb355) (o := .cells #[.slice Ao90 t349.length co90, .int .i64 t352, .int .i64 t353] 45 (0, 0)) B8x0_ hb)
            have n8_ := Aside0.mk (blk_below (g := gb362) (o := .cells #[.slice Ao94 t356.length co94, .int .i64 t359, .int .i64 t360] 45 (0, 0)) B8x1_ hb)
            have n9_ := Aside0.mk (blk_below (g := gb369) (o := .cells #[.slice Ao100 t363.length co100, .int .i64 t366, .int .i64 t367] 45 (0, 0)) B8x2_ hb)
            have n10_ := Aside0.mk (blk_below (g := gb377) (o := .cells #[.slice Ao107 t370.length co107, .int .i64 t373, .int .i64 t374] 45 (0, 0)) B8x5_ hb)
            have n11_ := Aside0.mk (blk_below (g := gb385) (o := .cells #[.slice Ao115 t378.length co115, .int .i64 t381, .int .i64 t382] 45 (0, 0)) B8x9_ hb)
            have n12_ := Aside0.mk (blk_below (g := gb392) (o := .cells #[.slice Ao123 t386.length co123, .int .i64 t389, .int .i64 t390] 45 (0, 0)) B8x16_ hb)
            have n13_ := Aside0.mk (blk_below (g := gb399) (o := .cells #[.slice Ao132 t393.length co132, .int .i64 t396, .int .i64 t397] 45 (0, 0)) B8x22_ hb)
            have n14_ := Aside0.mk (below_step B8x7_ hb)
            clear HO351
            clear HO358
            clear HO365
            clear HO372
            clear HO380
            clear HO388
            clear HO395
            clear BK355
            clear BK362
            clear BK369
            clear BK377
            clear BK385
            clear BK392
            clear BK399
            clear HB
            have HO351 := n0_
            have HO358 := n1_
            have HO365 := n2_
            have HO372 := n3_
            have HO380 := n4_
            have HO388 := n5_
            have HO395 := n6_
            have BK355 := n7_
            have BK362 := n8_
            have BK369 := n9_
            have BK377 := n10_
            have BK385 := n11_
            have BK392 := n12_
            have BK399 := n13_
            have HB := n14_
            clear n0_ n1_ n2_ n3_ n4_ n5_ n6_ n7_ n8_ n9_ n10_ n11_ n12_ n13_ n14_
            (try clear hb)
            (try clear hb2)
            (try clear hk)
            (try clear hi)
            refine hK.out _ _ ⟨(blk_cell BK355.out 0).trans rfl, (blk_cell BK355.out 1).trans rfl, (blk_cell BK355.out 2).trans rfl, (blk_cell BK377.out 0).trans rfl, (blk_cell BK377.out 1).trans rfl, (blk_cell BK377.out 2).trans rfl, (blk_cell BK392.out 0).trans rfl, (blk_cell BK392.out 1).trans rfl, (blk_cell BK392.out 2).trans rfl⟩ (fun hHeld => ?_)
            clear hK K
            refine norm_ (a' := ?_) ?_ ?_
            rotate_left
            ·show Act.put _ (some 61) _ = _
             simp only [Act.put, List.setIfInBounds_toArray, List.set_cons_zero, List.set_cons_succ, i64_w, i32_w]
             rfl
            refine pu_ 4 62 HT_ ?_
            refine pu_ 5 63 HT_ ?_
            refine pu_ 6 64 HT_ ?_
            refine pu_ 7 65 HT_ ?_
            refine pu_ 8 66 HT_ ?_
            refine pu_ 9 67 HT_ ?_
            refine pu_ 10 68 HT_ ?_
            refine pu_ 11 69 HT_ ?_
            refine pu_ 12 70 HT_ ?_
            refine pu_ 13 71 HT_ ?_
            refine pu_ 14 72 HT_ ?_
            refine pu_ 15 73 HT_ ?_
            refine pu_ 16 74 HT_ ?_
            refine pu_ 17 75 HT_ ?_
            refine pu_ 18 76 HT_ ?_
            refine pu_ 19 77 HT_ ?_
            refine pu_ 20 78 HT_ ?_
            refine pu_ 21 79 HT_ ?_
            refine pu_ 22 80 HT_ ?_
            refine of_ 23 81 HT_ ?_
            refine of_ 24 82 HT_ ?_
            refine of_ 25 83 HT_ ?_
            refine of_ 26 84 HT_ ?_
            refine of_ 27 85 HT_ ?_
            refine of_ 28 86 HT_ ?_
            refine of_ 29 87 HT_ ?_
            refine of_ 30 88 HT_ ?_
            refine of_ 31 89 HT_ ?_
            refine of_ 32 90 HT_ ?_
            refine of_ 33 91 HT_ ?_
            refine of_ 34 92 HT_ ?_
            refine of_ 35 93 HT_ ?_
            refine of_ 36 94 HT_ ?_
            refine pu_ 37 95 HT_ ?_
            refine pu_ 38 96 HT_ ?_
            refine pu_ 39 97 HT_ ?_
            refine pu_ 40 98 HT_ ?_
            refine pu_ 41 99 HT_ ?_
            refine pu_ 42 100 HT_ ?_
            refine pu_ 44 102 HT_ ?_
            refine ta_ 43 101 HT_ HW_ hHeld ?_
            refine ta_ 45 103 HT_ HW_ hHeld ?_
            refine pu_ 46 104 HT_ ?_
            refine pu_ 47 105 HT_ ?_
            refine pu_ 48 106 HT_ ?_
            refine pu_ 49 107 HT_ ?_
            refine pu_ 50 108 HT_ ?_
            refine pu_ 51 109 HT_ ?_
            refine pu_ 52 110 HT_ ?_
            refine pu_ 53 111 HT_ ?_
            refine pu_ 54 112 HT_ ?_
            refine pu_ 55 113 HT_ ?_
            refine pu_ 56 114 HT_ ?_
            refine pu_ 57 115 HT_ ?_
            refine ta_ 58 116 HT_ HW_ hHeld ?_
            refine pu_ 59 117 HT_ ?_
            refine pu_ 60 118 HT_ ?_
            refine pu_ 61 119 HT_ ?_
            refine pu_ 62 120 HT_ ?_
            refine ta_ 63 121 HT_ HW_ hHeld ?_
            refine ta_ 65 123 HT_ HW_ hHeld ?_
            refine one_ (i := 64) (N := some 122) #[true, true, true, true, true, true, true, true, true, true, true, true, true, true, true, true, true, true, true, true, true, true, true, true, true, true, true, true, true, true, true, true, true, true, true, true, true, true, true, true, true, true, true, true, true, true, true, true, true, true, true, true, true, true, true, true, true, true, true, true, true, true, true, true, true, true, false, false, false, false] rfl rfl (one_of HT_.out B8x54_) (by decide) (fun K hK => ?_)
            refine goes_ Try.func32 B8x54_ rfl #[.agg #[.slice Ao90 t349.length co90, .int .i64 t352, .int .i64 t353]] (by rfl) rfl rfl B8x3_ ?_
            with_reducible refine (impl_HeldBy.calls k _ _ t349 t352 t353 t404 _ ?side1 ?side2 A86.out).mono ?_
            (case side1 => repeat (first | exact (Kd.R_reads' HO351.out).2.2 | (with_reducible refine Kd.C_alloc ?_ _) | (with_reducible refine Kd.C_drewN ?_ _) | (with_reducible refine Kd.C_drew ?_)))
            (case side2 => exact (Kd.R_reads' HO351.out).2.1)
            rintro e w144 ⟨rfl, hb⟩
            refine ⟨_, rfl, ?_⟩
            have n0_ := Aside0.mk (Kd.R_below B8x10_ hb)
            have n1_ := Aside0.mk (Kd.R_below B8x12_ hb)
            have n2_ := Aside0.mk (Kd.R_below B8x14_ hb)
            have n3_ := Aside0.mk (Kd.R_below B8x15_ hb)
            have n4_ := Aside0.mk (Kd.R_below B8x18_ hb)
            have n5_ := Aside0.mk (Kd.R_below B8x20_ hb)
            have n6_ := Aside0.mk (Kd.R_below B8x21_ hb)
            have n7_ := Aside0.mk (blk_below (g := gb355) (o := .cells #[.slice Ao90 t349.length co90, .int .i64 t352, .int .i64 t353] 45 (0, 0)) B8x0_ hb)
            have n8_ := Aside0.mk (blk_below (g := gb362) (o := .cells #[.slice Ao94 t356.length co94, .int .i64 t359, .int .i64 t360] 45 (0, 0)) B8x1_ hb)
            have n9_ := Aside0.mk (blk_below (g := gb369) (o := .cells #[.slice Ao100 t363.length co100, .int .i64 t366, .int .i64 t367] 45 (0, 0)) B8x2_ hb)
            have n10_ := Aside0.mk (blk_below (g := gb377) (o := .cells #[.slice Ao107 t370.length co107, .int .i64 t373, .int .i64 t374] 45 (0, 0)) B8x5_ hb)
            have n11_ := Aside0.mk (blk_below (g := gb385) (o := .cells #[.slice Ao115 t378.length co115, .int .i64 t381, .int .i64 t382] 45 (0, 0)) B8x9_ hb)
            have n12_ := Aside0.mk (blk_below (g := gb392) (o := .cells #[.slice Ao123 t386.length co123, .int .i64 t389, .int .i64 t390] 45 (0, 0)) B8x16_ hb)
            have n13_ := Aside0.mk (blk_below (g := gb399) (o := .cells #[.slice Ao132 t393.length co132, .int .i64 t396, .int .i64 t397] 45 (0, 0)) B8x22_ hb)
            have n14_ := Aside0.mk (below_step B8x7_ hb)
            clear HO351
            clear HO358
            clear HO365
            clear HO372
            clear HO380
            clear HO388
            clear HO395
            clear BK355
            clear BK362
            clear BK369
            clear BK377
            clear BK385
            clear BK392
            clear BK399
            clear HB
            have HO351 := n0_
            have HO358 := n1_
            have HO365 := n2_
            have HO372 := n3_
            have HO380 := n4_
            have HO388 := n5_
            have HO395 := n6_
            have BK355 := n7_
            have BK362 := n8_
            have BK369 := n9_
            have BK377 := n10_
            have BK385 := n11_
            have BK392 := n12_
            have BK399 := n13_
            have HB := n14_
            clear n0_ n1_ n2_ n3_ n4_ n5_ n6_ n7_ n8_ n9_ n10_ n11_ n12_ n13_ n14_
            (try clear hb)
            (try clear hb2)
            (try clear hk)
            (try clear hi)
            refine hK.out _ _ ⟨(blk_cell BK355.out 0).trans rfl, (blk_cell BK355.out 1).trans rfl, (blk_cell BK355.out 2).trans rfl, (blk_cell BK377.out 0).trans rfl, (blk_cell BK377.out 1).trans rfl, (blk_cell BK377.out 2).trans rfl, (blk_cell BK392.out 0).trans rfl, (blk_cell BK392.out 1).trans rfl, (blk_cell BK392.out 2).trans rfl⟩ (fun hHeld => ?_)
            clear hK K
            refine norm_ (a' := ?_) ?_ ?_
            rotate_left
            ·show Act.put _ (some 122) _ = _
             simp only [Act.put, List.setIfInBounds_toArray, List.set_cons_zero, List.set_cons_succ, i64_w, i32_w]
             rfl
            refine one_ (i := 66) (N := some 124) #[true, true, true, true, true, true, true, true, true, true, true, true, true, true, true, true, true, true, true, true, true, true, true, true, true, true, true, true, true, true, true, true, true, true, true, true, true, true, true, true, true, true, true, true, true, true, true, true, true, true, true, true, true, true, true, true, true, true, true, true, true, true, true, true, true, true, true, false, false, false] rfl rfl (one_of HT_.out B8x54_) (by decide) (fun K hK => ?_)
            refine goes_ Try.func33 B8x54_ rfl #[.agg #[.slice Ao90 t349.length co90, .int .i64 t352, .int .i64 t353]] (by rfl) rfl rfl B8x3_ ?_
            with_reducible refine (spec_HeldBy.calls k _ _ t349 t352 t353 t405 _ ?side1 ?side2 A87.out).mono ?_
            (case side1 => repeat (first | exact (Kd.R_reads' HO351.out).2.2 | (with_reducible refine Kd.C_alloc ?_ _) | (with_reducible refine Kd.C_drewN ?_ _) | (with_reducible refine Kd.C_drew ?_)))
            (case side2 => exact (Kd.R_reads' HO351.out).2.1)
            rintro e w145 ⟨rfl, hb⟩
            refine ⟨_, rfl, ?_⟩
            have n0_ := Aside0.mk (Kd.R_below B8x10_ hb)
            have n1_ := Aside0.mk (Kd.R_below B8x12_ hb)
            have n2_ := Aside0.mk (Kd.R_below B8x14_ hb)
            have n3_ := Aside0.mk (Kd.R_below B8x15_ hb)
            have n4_ := Aside0.mk (Kd.R_below B8x18_ hb)
            have n5_ := Aside0.mk (Kd.R_below B8x20_ hb)
            have n6_ := Aside0.mk (Kd.R_below B8x21_ hb)
            have n7_ := Aside0.mk (blk_below (g := gb355) (o := .cells #[.slice Ao90 t349.length co90, .int .i64 t352, .int .i64 t353] 45 (0, 0)) B8x0_ hb)
            have n8_ := Aside0.mk (blk_below (g := gb362) (o := .cells #[.slice Ao94 t356.length co94, .int .i64 t359, .int .i64 t360] 45 (0, 0)) B8x1_ hb)
            have n9_ := Aside0.mk (blk_below (g := gb369) (o := .cells #[.slice Ao100 t363.length co100, .int .i64 t366, .int .i64 t367] 45 (0, 0)) B8x2_ hb)
            have n10_ := Aside0.mk (blk_below (g := gb377) (o := .cells #[.slice Ao107 t370.length co107, .int .i64 t373, .int .i64 t374] 45 (0, 0)) B8x5_ hb)
            have n11_ := Aside0.mk (blk_below (g := gb385) (o := .cells #[.slice Ao115 t378.length co115, .int .i64 t381, .int .i64 t382] 45 (0, 0)) B8x9_ hb)
            have n12_ := Aside0.mk (blk_below (g := gb392) (o := .cells #[.slice Ao123 t386.length co123, .int .i64 t389, .int .i64 t390] 45 (0, 0)) B8x16_ hb)
            have n13_ := Aside0.mk (blk_below (g := gb399) (o := .cells #[.slice Ao132 t393.length co132, .int .i64 t396, .int .i64 t397] 45 (0, 0)) B8x22_ hb)
            have n14_ := Aside0.mk (below_step B8x7_ hb)
            clear HO351
            clear HO358
            clear HO365
            clear HO372
            clear HO380
            clear HO388
            clear HO395
            clear BK355
            clear BK362
            clear BK369
            clear BK377
            clear BK385
            clear BK392
            clear BK399
            clear HB
            have HO351 := n0_
            have HO358 := n1_
            have HO365 := n2_
            have HO372 := n3_
            have HO380 := n4_
            have HO388 := n5_
            have HO395 := n6_
            have BK355 := n7_
            have BK362 := n8_
            have BK369 := n9_
            have BK377 := n10_
            have BK385 := n11_
            have BK392 := n12_
            have BK399 := n13_
            have HB := n14_
            clear n0_ n1_ n2_ n3_ n4_ n5_ n6_ n7_ n8_ n9_ n10_ n11_ n12_ n13_ n14_
            (try clear hb)
            (try clear hb2)
            (try clear hk)
            (try clear hi)
            refine hK.out _ _ ⟨(blk_cell BK355.out 0).trans rfl, (blk_cell BK355.out 1).trans rfl, (blk_cell BK355.out 2).trans rfl, (blk_cell BK377.out 0).trans rfl, (blk_cell BK377.out 1).trans rfl, (blk_cell BK377.out 2).trans rfl, (blk_cell BK392.out 0).trans rfl, (blk_cell BK392.out 1).trans rfl, (blk_cell BK392.out 2).trans rfl⟩ (fun hHeld => ?_)
            clear hK K
            refine norm_ (a' := ?_) ?_ ?_
            rotate_left
            ·show Act.put _ (some 124) _ = _
             simp only [Act.put, List.setIfInBounds_toArray, List.set_cons_zero, List.set_cons_succ, i64_w, i32_w]
             rfl
            refine pu_ 67 125 HT_ ?_
            refine pu_ 68 126 HT_ ?_
            refine pu_ 69 2 HT_ ?_
            refine done_ (done_of HT_.out B8x54_) ?_
            try go_wp2
            go_ret
            exact ⟨by first | rfl | (simp [errW_none, errW_some] <;> rfl) | (simp [*, errW_none, errW_some] <;> rfl), by repeat (first | (with_reducible first | exact HB.out | apply below_alloc | apply pw_below_drewN | apply below_drew1 | refine below_set ?_ GE355.out | refine below_set ?_ GE362.out | refine below_set ?_ GE369.out | refine below_set ?_ GE377.out | refine below_set ?_ GE385.out | refine below_set ?_ GE392.out | refine below_set ?_ GE399.out) | exact HB.out)⟩
           ·rw [if_neg c85] at H
            have c85b0 : ((t386.length : Int) == 3) = false := beq_eq_false_iff_ne.mpr c85
            have c85b1 : ((t386.length : Int) != 3) = true := bne_iff_ne.mpr c85
            exact absurd ((Option.some.inj H).trans hr_.out) (by decide)
         ·replace c83 := Bool.eq_false_iff.mpr c83
          subst c83
          rw [if_neg (show ¬ (false = true) by decide)] at H
          exact absurd ((Option.some.inj H).trans hr_.out) (by decide)
        ·rw [if_neg c82] at H
         have c82b0 : (t374 == t353) = false := beq_eq_false_iff_ne.mpr c82
         have c82b1 : (t374 != t353) = true := bne_iff_ne.mpr c82
         exact absurd ((Option.some.inj H).trans hr_.out) (by decide)
      ·exact absurd (hs.out _ _ _ _ _ _ _ _ A4.out A5.out) c17
     ·rw [if_neg c16] at H
      have c16b0 : (t375.toList == t383.toList) = false := beq_eq_false_iff_ne.mpr c16
      have c16b1 : (t375.toList != t383.toList) = true := bne_iff_ne.mpr c16
      exact absurd ((Option.some.inj H).trans hr_.out) (by decide)
    ·rw [if_neg c15] at H
     have c15b0 : (t376 == t384) = false := by simpa using c15
     (try (have c15b1 : decide (t376 = t384) = false := by simpa using c15))
     (try (have c15b2 : (t376 == t384) = false := by simpa using c15))
     (try (have c15b3 : ¬ (t376 = t384) := by simpa using c15))
     clear c15
     exact absurd ((Option.some.inj H).trans hr_.out) (by decide)
   ·rw [if_neg c14] at H
    have c14b0 : (t361 == t368) = false := by simpa using c14
    (try (have c14b1 : decide (t361 = t368) = false := by simpa using c14))
    (try (have c14b2 : (t361 == t368) = false := by simpa using c14))
    (try (have c14b3 : ¬ (t361 = t368) := by simpa using c14))
    clear c14
    exact absurd ((Option.some.inj H).trans hr_.out) (by decide)
  ·rw [if_neg c13] at H
   have c13b0 : (t400 == t401) = false := by simpa using c13
   (try (have c13b1 : decide (t400 = t401) = false := by simpa using c13))
   (try (have c13b2 : (t400 == t401) = false := by simpa using c13))
   (try (have c13b3 : ¬ (t400 = t401) := by simpa using c13))
   clear c13
   exact absurd ((Option.some.inj H).trans hr_.out) (by decide)

end Go.Proofs.Ytideegpoakkgeaa.QFnRingsTold
