/- Functions that a law reaches, as functions of Lean, and the walks that show that the calls come to their answers: written by a program of this project out of the translation. No condition. -/
import Derived.Test.YtjijbffecppeiaaQFnExactTakeRingx0
import Derived.Test.YtjijbffecppeiaaQFnExactTakeRingx2
import Derived.Test.YtjijbffecppeiaaQFnExactTakeRingx4
import Derived.Test.YtjijbffecppeiaaQFnExactTakeRingx6
import Derived.Test.YtjijbffecppeiaaQFnExactTakeRingx7
import Derived.Test.YtjijbffecppeiaaShort3
import Derived.Test.YtjijbffecppeiaaShort2
import Derived.Test.YtjijbffecppeiaaShort
namespace Go.Proofs.Ytjijbffecppeiaa.QFnExactTakeRing
open Go.RowKit Go.Proofs.YtjijbffecppeiaaW.PrintWords Go.Proofs.YtjijbffecppeiaaW.PrintLast Go.Proofs.YtjijbffecppeiaaW.PrintMore Go.Proofs.Ytjijbffecppeiaa.Short
attribute [local go_sem] max2_int min2_int max_two min_two max_three min_three max_four min_four   -- for this text's walks alone
set_option linter.unusedVariables false
set_option linter.unusedSimpArgs false

theorem B8x0_ {p : Prop} (h : p := by repeat (first | (with_reducible first | exact HB.out | apply below_alloc | apply pw_below_drewN | apply below_drew1 | refine below_set ?_ GE200.out | refine below_set ?_ GE214.out | refine below_set ?_ GE220.out | refine below_set ?_ GE228.out) | exact HB.out)) : p := h
theorem B8x1_ {p : Prop} (h : p := by (with_reducible repeat (first | refine blk_drewN ?_ _ | refine blk_drew ?_ | refine blk_alloc ?_ _)); exact BK200.out) : p := h
theorem B8x2_ {p : Prop} (h : p := by (try simp only [List.map_toArray, List.map_cons, List.map_nil]); first | done | rfl | (simp only [List.length_drop, List.length_take]; rfl)) : p := h
theorem B8x3_ {p : Prop} (h : p := by (with_reducible repeat (first | refine blk_drewN ?_ _ | refine blk_drew ?_ | refine blk_alloc ?_ _)); exact BK214.out) : p := h
theorem B8x4_ {p : Prop} (h : p := by (with_reducible repeat (first | apply Kd.R_alloc | apply Kd.R_drewN | apply Kd.R_drew)); exact (Kd.R_mono (Kd.R_far (p := ⟨gb254, 2, none⟩) (Kd.R_far (p := ⟨gb254, 1, none⟩) (Kd.R_far (p := ⟨gb254, 0, none⟩) (Kd.R_types HO_215000.out BK254.out (by decide)) (fun _ hk => hk.2) (.slice Ao129 t247.length co129)) (fun _ hk => hk.2) (.int .i64 t250)) (fun _ hk => hk.2) (.int .i64 t251)) (fun _ h_ => h_.1))) : p := h
theorem B8x5_ {p : Prop} (h : p := by (with_reducible repeat (first | apply Kd.R_alloc | apply Kd.R_drewN | apply Kd.R_drew)); exact (Kd.R_mono (Kd.R_far (p := ⟨gb254, 2, none⟩) (Kd.R_far (p := ⟨gb254, 1, none⟩) (Kd.R_far (p := ⟨gb254, 0, none⟩) (Kd.R_types HO249.out BK254.out (by decide)) (fun _ hk => hk.2) (.slice Ao129 t247.length co129)) (fun _ hk => hk.2) (.int .i64 t250)) (fun _ hk => hk.2) (.int .i64 t251)) (fun _ h_ => h_.1))) : p := h
theorem B8x6_ {p : Prop} (h : p := by (with_reducible repeat (first | apply Kd.R_alloc | apply Kd.R_drewN | apply Kd.R_drew)); exact (Kd.R_mono (Kd.R_far (p := ⟨gb228, 2, none⟩) (Kd.R_far (p := ⟨gb228, 1, none⟩) (Kd.R_far (p := ⟨gb228, 0, none⟩) (Kd.R_types HO209.out BK228.out (by decide)) (fun _ hk => hk.2) (.slice Ao32 t221.length co32)) (fun _ hk => hk.2) (.int .i64 t224)) (fun _ hk => hk.2) (.int .i64 t225)) (fun _ h_ => h_.1))) : p := h
theorem B8x7_ {p : Prop} (h : p := by (with_reducible repeat (first | apply Kd.R_alloc | apply Kd.R_drewN | apply Kd.R_drew)); exact (Kd.R_mono (Kd.R_far (p := ⟨gb228, 2, none⟩) (Kd.R_far (p := ⟨gb228, 1, none⟩) (Kd.R_far (p := ⟨gb228, 0, none⟩) (Kd.R_types HO223.out BK228.out (by decide)) (fun _ hk => hk.2) (.slice Ao32 t221.length co32)) (fun _ hk => hk.2) (.int .i64 t224)) (fun _ hk => hk.2) (.int .i64 t225)) (fun _ h_ => h_.1))) : p := h
theorem B8x8_ {p : Prop} (h : p := by (with_reducible repeat (first | refine blk_drewN ?_ _ | refine blk_drew ?_ | refine blk_alloc ?_ _)); exact BK220.out) : p := h
theorem B8x9_ {p : Prop} (h : p := by (with_reducible repeat (first | refine blk_drewN ?_ _ | refine blk_drew ?_ | refine blk_alloc ?_ _)); exact BK228.out) : p := h
theorem B8x10_ {p : Prop} (h : p := by (with_reducible repeat (first | refine blk_drewN ?_ _ | refine blk_drew ?_ | refine blk_alloc ?_ _)); refine blk_put (cs := #[.slice Ao129 t247.length co129, .int .i64 t250, .int .i64 0]) ?_ 2 _ rfl; (with_reducible repeat (first | refine blk_drewN ?_ _ | refine blk_drew ?_ | refine blk_alloc ?_ _)); refine blk_put (cs := #[.slice Ao129 t247.length co129, .int .i64 0, .int .i64 0]) ?_ 1 _ rfl; (with_reducible repeat (first | refine blk_drewN ?_ _ | refine blk_drew ?_ | refine blk_alloc ?_ _)); refine blk_put (cs := #[.slice none 0 0, .int .i64 0, .int .i64 0]) ?_ 0 _ rfl; (with_reducible repeat (first | refine blk_drewN ?_ _ | refine blk_drew ?_ | refine blk_alloc ?_ _)); exact BK254.out) : p := h
theorem B8x11_ {p : Prop} (h : p := by (with_reducible repeat (first | refine blk_drewN ?_ _ | refine blk_drew ?_ | refine blk_alloc ?_ _)); refine blk_put (cs := #[.slice Ao32 t221.length co32, .int .i64 t224, .int .i64 0]) ?_ 2 _ rfl; (with_reducible repeat (first | refine blk_drewN ?_ _ | refine blk_drew ?_ | refine blk_alloc ?_ _)); refine blk_put (cs := #[.slice Ao32 t221.length co32, .int .i64 0, .int .i64 0]) ?_ 1 _ rfl; (with_reducible repeat (first | refine blk_drewN ?_ _ | refine blk_drew ?_ | refine blk_alloc ?_ _)); refine blk_put (cs := #[.slice none 0 0, .int .i64 0, .int .i64 0]) ?_ 0 _ rfl; (with_reducible repeat (first | refine blk_drewN ?_ _ | refine blk_drew ?_ | refine blk_alloc ?_ _)); exact BK228.out) : p := h
theorem B8x12_ {p : Prop} (h : p := by repeat (first | (with_reducible first | exact HB.out | apply below_alloc | apply pw_below_drewN | apply below_drew1 | refine below_set ?_ GE200.out) | exact HB.out)) : p := h
theorem B8x13_ {p : Prop} (h : p := by (with_reducible repeat (first | apply Kd.R_alloc | apply Kd.R_drewN | apply Kd.R_drew)); exact HO_215000.out) : p := h
theorem B8x14_ {p : Prop} (h : p := by (with_reducible repeat (first | apply Kd.R_alloc | apply Kd.R_drewN | apply Kd.R_drew)); exact HO_221000.out) : p := h
theorem B8x15_ {p : Prop} (h : p := by (with_reducible repeat (first | apply Kd.R_alloc | apply Kd.R_drewN | apply Kd.R_drew)); exact HO_229000.out) : p := h
theorem B8x16_ {p : Prop} (h : p := by (with_reducible repeat (first | refine blk_drewN ?_ _ | refine blk_drew ?_ | refine blk_alloc ?_ _)); refine blk_far ?_ NB200_228.out _; (with_reducible repeat (first | refine blk_drewN ?_ _ | refine blk_drew ?_ | refine blk_alloc ?_ _)); refine blk_far ?_ NB200_228.out _; (with_reducible repeat (first | refine blk_drewN ?_ _ | refine blk_drew ?_ | refine blk_alloc ?_ _)); refine blk_far ?_ NB200_228.out _; (with_reducible repeat (first | refine blk_drewN ?_ _ | refine blk_drew ?_ | refine blk_alloc ?_ _)); exact BK200.out) : p := h
theorem B8x17_ {p : Prop} (h : p := by (with_reducible repeat (first | refine blk_drewN ?_ _ | refine blk_drew ?_ | refine blk_alloc ?_ _)); refine blk_far ?_ NB200_254.out _; (with_reducible repeat (first | refine blk_drewN ?_ _ | refine blk_drew ?_ | refine blk_alloc ?_ _)); refine blk_far ?_ NB200_254.out _; (with_reducible repeat (first | refine blk_drewN ?_ _ | refine blk_drew ?_ | refine blk_alloc ?_ _)); refine blk_far ?_ NB200_254.out _; (with_reducible repeat (first | refine blk_drewN ?_ _ | refine blk_drew ?_ | refine blk_alloc ?_ _)); exact BK200.out) : p := h
theorem B8x18_ {p : Prop} (h : p := by (with_reducible repeat (first | refine blk_drewN ?_ _ | refine blk_drew ?_ | refine blk_alloc ?_ _)); refine blk_far ?_ NB214_228.out _; (with_reducible repeat (first | refine blk_drewN ?_ _ | refine blk_drew ?_ | refine blk_alloc ?_ _)); refine blk_far ?_ NB214_228.out _; (with_reducible repeat (first | refine blk_drewN ?_ _ | refine blk_drew ?_ | refine blk_alloc ?_ _)); refine blk_far ?_ NB214_228.out _; (with_reducible repeat (first | refine blk_drewN ?_ _ | refine blk_drew ?_ | refine blk_alloc ?_ _)); exact BK214.out) : p := h
theorem B8x19_ {p : Prop} (h : p := by (with_reducible repeat (first | refine blk_drewN ?_ _ | refine blk_drew ?_ | refine blk_alloc ?_ _)); refine blk_far ?_ NB214_254.out _; (with_reducible repeat (first | refine blk_drewN ?_ _ | refine blk_drew ?_ | refine blk_alloc ?_ _)); refine blk_far ?_ NB214_254.out _; (with_reducible repeat (first | refine blk_drewN ?_ _ | refine blk_drew ?_ | refine blk_alloc ?_ _)); refine blk_far ?_ NB214_254.out _; (with_reducible repeat (first | refine blk_drewN ?_ _ | refine blk_drew ?_ | refine blk_alloc ?_ _)); exact BK214.out) : p := h
theorem B8x20_ {p : Prop} (h : p := by (with_reducible repeat (first | refine blk_drewN ?_ _ | refine blk_drew ?_ | refine blk_alloc ?_ _)); refine blk_far ?_ NB220_228.out _; (with_reducible repeat (first | refine blk_drewN ?_ _ | refine blk_drew ?_ | refine blk_alloc ?_ _)); refine blk_far ?_ NB220_228.out _; (with_reducible repeat (first | refine blk_drewN ?_ _ | refine blk_drew ?_ | refine blk_alloc ?_ _)); refine blk_far ?_ NB220_228.out _; (with_reducible repeat (first | refine blk_drewN ?_ _ | refine blk_drew ?_ | refine blk_alloc ?_ _)); exact BK220.out) : p := h
theorem B8x21_ {p : Prop} (h : p := by (with_reducible repeat (first | refine blk_drewN ?_ _ | refine blk_drew ?_ | refine blk_alloc ?_ _)); refine blk_far ?_ NB220_254.out _; (with_reducible repeat (first | refine blk_drewN ?_ _ | refine blk_drew ?_ | refine blk_alloc ?_ _)); refine blk_far ?_ NB220_254.out _; (with_reducible repeat (first | refine blk_drewN ?_ _ | refine blk_drew ?_ | refine blk_alloc ?_ _)); refine blk_far ?_ NB220_254.out _; (with_reducible repeat (first | refine blk_drewN ?_ _ | refine blk_drew ?_ | refine blk_alloc ?_ _)); exact BK220.out) : p := h
theorem B8x22_ {p : Prop} (h : p := by (with_reducible repeat (first | refine blk_drewN ?_ _ | refine blk_drew ?_ | refine blk_alloc ?_ _)); refine blk_far ?_ NB228_254.out _; (with_reducible repeat (first | refine blk_drewN ?_ _ | refine blk_drew ?_ | refine blk_alloc ?_ _)); refine blk_far ?_ NB228_254.out _; (with_reducible repeat (first | refine blk_drewN ?_ _ | refine blk_drew ?_ | refine blk_alloc ?_ _)); refine blk_far ?_ NB228_254.out _; (with_reducible repeat (first | refine blk_drewN ?_ _ | refine blk_drew ?_ | refine blk_alloc ?_ _)); exact BK228.out) : p := h
theorem B8x23_ {p : Prop} (h : p := by repeat (first | (with_reducible first | exact HB.out | apply below_alloc | apply pw_below_drewN | apply below_drew1 | refine below_set ?_ GE200.out | refine below_set ?_ GE214.out) | exact HB.out)) : p := h
theorem B8x24_ {p : Prop} (h : p := by repeat (first | (with_reducible first | exact HB.out | apply below_alloc | apply pw_below_drewN | apply below_drew1 | refine below_set ?_ GE200.out | refine below_set ?_ GE214.out | refine below_set ?_ GE220.out) | exact HB.out)) : p := h
theorem B8x25_ {p : Prop} (h : p := by repeat (first | (with_reducible first | exact HB.out | apply below_alloc | apply pw_below_drewN | apply below_drew1 | refine below_set ?_ GE200.out | refine below_set ?_ GE214.out | refine below_set ?_ GE220.out | refine below_set ?_ GE228.out | refine below_set ?_ GE254.out) | exact HB.out)) : p := h
theorem B8x26_ {p : Prop} (h : p := by (with_reducible repeat (first | apply Kd.R_alloc | apply Kd.R_drewN | apply Kd.R_drew)); exact (Kd.R_mono (Kd.R_far (p := ⟨gb254, 2, none⟩) (Kd.R_far (p := ⟨gb254, 1, none⟩) (Kd.R_far (p := ⟨gb254, 0, none⟩) (Kd.R_types HO_221000.out BK254.out (by decide)) (fun _ hk => hk.2) (.slice Ao129 t247.length co129)) (fun _ hk => hk.2) (.int .i64 t250)) (fun _ hk => hk.2) (.int .i64 t251)) (fun _ h_ => h_.1))) : p := h
theorem B8x27_ {p : Prop} (h : p := by (with_reducible repeat (first | apply Kd.R_alloc | apply Kd.R_drewN | apply Kd.R_drew)); exact (Kd.R_mono (Kd.R_far (p := ⟨gb254, 2, none⟩) (Kd.R_far (p := ⟨gb254, 1, none⟩) (Kd.R_far (p := ⟨gb254, 0, none⟩) (Kd.R_types HO_229000.out BK254.out (by decide)) (fun _ hk => hk.2) (.slice Ao129 t247.length co129)) (fun _ hk => hk.2) (.int .i64 t250)) (fun _ hk => hk.2) (.int .i64 t251)) (fun _ h_ => h_.1))) : p := h
theorem B8x28_ {p : Prop} (h : p := by (with_reducible repeat (first | apply Kd.R_alloc | apply Kd.R_drewN | apply Kd.R_drew)); exact (Kd.R_mono (Kd.R_far (p := ⟨gb254, 2, none⟩) (Kd.R_far (p := ⟨gb254, 1, none⟩) (Kd.R_far (p := ⟨gb254, 0, none⟩) (Kd.R_types HO244.out BK254.out (by decide)) (fun _ hk => hk.2) (.slice Ao129 t247.length co129)) (fun _ hk => hk.2) (.int .i64 t250)) (fun _ hk => hk.2) (.int .i64 t251)) (fun _ h_ => h_.1))) : p := h
theorem B8x29_ {p : Prop} (h : p := by (with_reducible repeat (first | apply Kd.R_alloc | apply Kd.R_drewN | apply Kd.R_drew)); exact (Kd.R_mono (Kd.R_far (p := ⟨gb220, 2, none⟩) (Kd.R_far (p := ⟨gb220, 1, none⟩) (Kd.R_far (p := ⟨gb220, 0, none⟩) (Kd.R_types HO217.out BK220.out (by decide)) (fun _ hk => hk.2) (.slice Ao26 t215.length co26)) (fun _ hk => hk.2) (.int .i64 t218)) (fun _ hk => hk.2) (.int .i64 t219)) (fun _ h_ => h_.1))) : p := h
theorem B8x30_ {p : Prop} (h : p := by (with_reducible repeat (first | apply Kd.R_alloc | apply Kd.R_drewN | apply Kd.R_drew)); exact (Kd.R_mono (Kd.R_far (p := ⟨gb228, 2, none⟩) (Kd.R_far (p := ⟨gb228, 1, none⟩) (Kd.R_far (p := ⟨gb228, 0, none⟩) (Kd.R_types HO204.out BK228.out (by decide)) (fun _ hk => hk.2) (.slice Ao32 t221.length co32)) (fun _ hk => hk.2) (.int .i64 t224)) (fun _ hk => hk.2) (.int .i64 t225)) (fun _ h_ => h_.1))) : p := h
theorem B8x31_ {p : Prop} (h : p := by (with_reducible repeat (first | apply Kd.R_alloc | apply Kd.R_drewN | apply Kd.R_drew)); exact (Kd.R_mono (Kd.R_far (p := ⟨gb228, 2, none⟩) (Kd.R_far (p := ⟨gb228, 1, none⟩) (Kd.R_far (p := ⟨gb228, 0, none⟩) (Kd.R_types HO217.out BK228.out (by decide)) (fun _ hk => hk.2) (.slice Ao32 t221.length co32)) (fun _ hk => hk.2) (.int .i64 t224)) (fun _ hk => hk.2) (.int .i64 t225)) (fun _ h_ => h_.1))) : p := h
theorem B8x32_ {p : Prop} (h : p := by repeat (first | (with_reducible first | exact HB.out | apply below_alloc | apply pw_below_drewN | apply below_drew1) | exact HB.out)) : p := h
theorem B8x33_ {p : Prop} (h : p := by (with_reducible repeat (first | apply Kd.R_alloc | apply Kd.R_drewN | apply Kd.R_drew)); exact HO204.out) : p := h
theorem B8x34_ {p : Prop} (h : p := by (with_reducible repeat (first | apply Kd.R_alloc | apply Kd.R_drewN | apply Kd.R_drew)); exact (Kd.R_mono (Kd.R_far (p := ⟨gb214, 2, none⟩) (Kd.R_far (p := ⟨gb214, 1, none⟩) (Kd.R_far (p := ⟨gb214, 0, none⟩) (Kd.R_types HO204.out BK214.out (by decide)) (fun _ hk => hk.2) (.slice Ao20 t207.length co20)) (fun _ hk => hk.2) (.int .i64 t210)) (fun _ hk => hk.2) (.int .i64 t211)) (fun _ h_ => h_.1))) : p := h
theorem B8x35_ {p : Prop} (h : p := by (with_reducible repeat (first | apply Kd.R_alloc | apply Kd.R_drewN | apply Kd.R_drew)); exact (Kd.R_mono (Kd.R_far (p := ⟨gb214, 2, none⟩) (Kd.R_far (p := ⟨gb214, 1, none⟩) (Kd.R_far (p := ⟨gb214, 0, none⟩) (Kd.R_types HO209.out BK214.out (by decide)) (fun _ hk => hk.2) (.slice Ao20 t207.length co20)) (fun _ hk => hk.2) (.int .i64 t210)) (fun _ hk => hk.2) (.int .i64 t211)) (fun _ h_ => h_.1))) : p := h
theorem B8x36_ {p : Prop} (h : p := by (with_reducible repeat (first | apply Kd.R_alloc | apply Kd.R_drewN | apply Kd.R_drew)); exact (Kd.R_mono (Kd.R_far (p := ⟨gb220, 2, none⟩) (Kd.R_far (p := ⟨gb220, 1, none⟩) (Kd.R_far (p := ⟨gb220, 0, none⟩) (Kd.R_types HO204.out BK220.out (by decide)) (fun _ hk => hk.2) (.slice Ao26 t215.length co26)) (fun _ hk => hk.2) (.int .i64 t218)) (fun _ hk => hk.2) (.int .i64 t219)) (fun _ h_ => h_.1))) : p := h
theorem B8x37_ {p : Prop} (h : p := by (with_reducible repeat (first | apply Kd.R_alloc | apply Kd.R_drewN | apply Kd.R_drew)); exact (Kd.R_mono (Kd.R_far (p := ⟨gb220, 2, none⟩) (Kd.R_far (p := ⟨gb220, 1, none⟩) (Kd.R_far (p := ⟨gb220, 0, none⟩) (Kd.R_types HO209.out BK220.out (by decide)) (fun _ hk => hk.2) (.slice Ao26 t215.length co26)) (fun _ hk => hk.2) (.int .i64 t218)) (fun _ hk => hk.2) (.int .i64 t219)) (fun _ h_ => h_.1))) : p := h
theorem B8x38_ {p : Prop} (h : p := by (with_reducible repeat (first | apply Kd.R_alloc | apply Kd.R_drewN | apply Kd.R_drew)); exact HO232.out) : p := h
theorem B8x39_ {p : Prop} (h : p := by kernel_rfl) : p := h
theorem B8x40_ {p : Prop} (h : p := by (with_reducible repeat (first | apply Kd.R_alloc | apply Kd.R_drewN | apply Kd.R_drew)); exact HO209.out) : p := h
theorem B8x41_ {p : Prop} (h : p := by (with_reducible repeat (first | apply Kd.R_alloc | apply Kd.R_drewN | apply Kd.R_drew)); exact HO244.out) : p := h
theorem B8x42_ {p : Prop} (h : p := by (with_reducible repeat (first | apply Kd.R_alloc | apply Kd.R_drewN | apply Kd.R_drew)); exact HO217.out) : p := h
/-! ### laws_FnExactTakeRing: function 7 -/
mutual
def laws_FnExactTakeRing.j0 : Nat → ByteArray → Bool → ByteArray → Bool → Bool → List (S185) → Int → Int → List (S144) → Int → Int → List (S144) → Int → Int → List (S144) → Int → Int → Option (Bool)
 | 0, _, _, _, _, _, _, _, _, _, _, _, _, _, _, _, _, _ => none
 | k + 1, x5, x6, x9, x10, x50, x201000, x201001, x201002, x215000, x215001, x215002, x221000, x221001, x221002, x229000, x229001, x229002 => if x50 = true then (some false) else ((laws_toRing.f k x201000 x201001 x201002).bind fun bt230 => ((laws_eqRing.f k x221000 x221001 x221002 bt230.1 bt230.2.1 bt230.2.2).bind fun t235 => (if t235 = true then ((laws_markRing.f k x221000 x221001 x221002 1).bind fun bt236 => (if bt236.1 < 0 then (laws_FnExactTakeRing.j1 k x5 x6 true x201000 x201001 x201002 x215000 x215001 x215002 x229000 x229001 x229002) else ((laws_eqRing.f k x229000 x229001 x229002 x215000 x215001 x215002).bind fun t238 => (if t238 = true then (if x9.toList = x5.toList then (laws_FnExactTakeRing.j1 k x5 x6 (x10 != x6) x201000 x201001 x201002 x215000 x215001 x215002 x229000 x229001 x229002) else (laws_FnExactTakeRing.j1 k x5 x6 true x201000 x201001 x201002 x215000 x215001 x215002 x229000 x229001 x229002)) else (laws_FnExactTakeRing.j1 k x5 x6 true x201000 x201001 x201002 x215000 x215001 x215002 x229000 x229001 x229002))))) else (some false))))
def laws_FnExactTakeRing.j1 : Nat → ByteArray → Bool → Bool → List (S185) → Int → Int → List (S144) → Int → Int → List (S144) → Int → Int → Option (Bool)
 | 0, _, _, _, _, _, _, _, _, _, _, _, _ => none
 | k + 1, x5, x6, x76, x201000, x201001, x201002, x215000, x215001, x215002, x229000, x229001, x229002 => if x76 = true then (some false) else ((laws_markRing.f k x229000 x229001 x229002 1).bind fun bt239 => ((laws_heldRing.f k bt239.2 x229001 x229002 1).bind fun t241 => (if t241 < 0 then (some false) else (if t241 = bt239.1 then ((laws_toRing.f k x201000 x201001 x201002).bind fun bt242 => ((impl_TakeRing.f k bt242.1 bt242.2.1 bt242.2.2).bind fun bt247 => ((laws_eqRing.f k bt247.1 bt247.2.1 bt247.2.2.1 x215000 x215001 x215002).bind fun t255 => (if t255 = true then (if bt247.2.2.2.1.toList = x5.toList then (laws_FnExactTakeRing.j2 k bt239.1 (bt247.2.2.2.2 != x6) bt239.2 x229001 x229002) else (laws_FnExactTakeRing.j2 k bt239.1 true bt239.2 x229001 x229002)) else (laws_FnExactTakeRing.j2 k bt239.1 true bt239.2 x229001 x229002))))) else (some false)))))
def laws_FnExactTakeRing.j2 : Nat → Int → Bool → List (S144) → Int → Int → Option (Bool)
 | 0, _, _, _, _, _ => none
 | k + 1, x12, x108, x229000, x229001, x229002 => if x108 = true then (some false) else ((laws_heldRing.f k x229000 x229001 x229002 1).bind fun t256 => (if t256 < 0 then (some false) else (if t256 = x12 then (some true) else (some false))))
end
def laws_FnExactTakeRing.f (k : Nat) (l0_0 : List (S185)) (a0_1 : Int) (a0_2 : Int) : Option (Bool) := (laws_szRing.f k l0_0 a0_1 a0_2 1048576).bind fun t201 => (if t201 < 0 then (some true) else ((laws_toRing.f k l0_0 a0_1 a0_2).bind fun bt202 => ((spec_TakeRing.f k bt202.1 bt202.2.1 bt202.2.2).bind fun bt207 => ((laws_toRing.f k l0_0 a0_1 a0_2).bind fun bt215 => ((impl_TakeRing.f k bt215.1 bt215.2.1 bt215.2.2).bind fun bt221 => ((laws_eqRing.f k bt221.1 bt221.2.1 bt221.2.2.1 bt207.1 bt207.2.1 bt207.2.2.1).bind fun t229 => (if t229 = true then (if bt221.2.2.2.1.toList = bt207.2.2.2.1.toList then (laws_FnExactTakeRing.j0 k bt207.2.2.2.1 bt207.2.2.2.2 bt221.2.2.2.1 bt221.2.2.2.2 (bt221.2.2.2.2 != bt207.2.2.2.2) l0_0 a0_1 a0_2 bt207.1 bt207.2.1 bt207.2.2.1 bt215.1 bt215.2.1 bt215.2.2 bt221.1 bt221.2.1 bt221.2.2.1) else (laws_FnExactTakeRing.j0 k bt207.2.2.2.1 bt207.2.2.2.2 bt221.2.2.2.1 bt221.2.2.2.2 true l0_0 a0_1 a0_2 bt207.1 bt207.2.1 bt207.2.2.1 bt215.1 bt215.2.1 bt215.2.2 bt221.1 bt221.2.1 bt221.2.2.1)) else (laws_FnExactTakeRing.j0 k bt207.2.2.2.1 bt207.2.2.2.2 bt221.2.2.2.1 bt221.2.2.2.2 true l0_0 a0_1 a0_2 bt207.1 bt207.2.1 bt207.2.2.1 bt215.1 bt215.2.1 bt215.2.2 bt221.1 bt221.2.1 bt221.2.2.1))))))))
theorem laws_FnExactTakeRing.mono_l : ∀ k, (∀ y0 y1 y2 y3 y4 y5 y6 y7 y8 y9 y10 y11 y12 y13 y14 y15 y16, LeO (laws_FnExactTakeRing.j0 k y0 y1 y2 y3 y4 y5 y6 y7 y8 y9 y10 y11 y12 y13 y14 y15 y16) (laws_FnExactTakeRing.j0 (k + 1) y0 y1 y2 y3 y4 y5 y6 y7 y8 y9 y10 y11 y12 y13 y14 y15 y16)) ∧ (∀ y0 y1 y2 y3 y4 y5 y6 y7 y8 y9 y10 y11, LeO (laws_FnExactTakeRing.j1 k y0 y1 y2 y3 y4 y5 y6 y7 y8 y9 y10 y11) (laws_FnExactTakeRing.j1 (k + 1) y0 y1 y2 y3 y4 y5 y6 y7 y8 y9 y10 y11)) ∧ (∀ y0 y1 y2 y3 y4, LeO (laws_FnExactTakeRing.j2 k y0 y1 y2 y3 y4) (laws_FnExactTakeRing.j2 (k + 1) y0 y1 y2 y3 y4))
 | 0 => ⟨fun _ _ _ _ _ _ _ _ _ _ _ _ _ _ _ _ _ r h => by simp [laws_FnExactTakeRing.j0] at h, fun _ _ _ _ _ _ _ _ _ _ _ _ r h => by simp [laws_FnExactTakeRing.j1] at h, fun _ _ _ _ _ r h => by simp [laws_FnExactTakeRing.j2] at h⟩
 | k + 1 => by
  obtain ⟨ih0, ih1, ih2⟩ := laws_FnExactTakeRing.mono_l k
  refine ⟨?_, ?_, ?_⟩
  ·intro y0 y1 y2 y3 y4 y5 y6 y7 y8 y9 y10 y11 y12 y13 y14 y15 y16
   unfold laws_FnExactTakeRing.j0
   repeat' first
   | (with_reducible exact ih0 _ _ _ _ _ _ _ _ _ _ _ _ _ _ _ _ _)
   | (with_reducible exact ih1 _ _ _ _ _ _ _ _ _ _ _ _)
   | (with_reducible exact ih2 _ _ _ _ _)
   | (with_reducible exact impl_TakeRing.mono _ _ _ _)
   | (with_reducible exact laws_eqRing.mono _ _ _ _ _ _ _)
   | (with_reducible exact laws_heldRing.mono _ _ _ _ _)
   | (with_reducible exact laws_markRing.mono _ _ _ _ _)
   | (with_reducible exact laws_szRing.mono _ _ _ _ _)
   | (with_reducible exact laws_toRing.mono _ _ _ _)
   | (with_reducible exact spec_TakeRing.mono _ _ _ _)
   | (with_reducible exact LeO.refl _)
   | (with_reducible exact LeO.none _)
   | (with_reducible refine LeO.ite ?_ ?_)
   | (with_reducible refine LeO.bind ?_ (fun _ => ?_))
   | exact ih0 _ _ _ _ _ _ _ _ _ _ _ _ _ _ _ _ _
   | exact ih1 _ _ _ _ _ _ _ _ _ _ _ _
   | exact ih2 _ _ _ _ _
   | exact impl_TakeRing.mono _ _ _ _
   | exact laws_eqRing.mono _ _ _ _ _ _ _
   | exact laws_heldRing.mono _ _ _ _ _
   | exact laws_markRing.mono _ _ _ _ _
   | exact laws_szRing.mono _ _ _ _ _
   | exact laws_toRing.mono _ _ _ _
   | exact spec_TakeRing.mono _ _ _ _
   | exact LeO.none _
   | refine LeO.ite ?_ ?_
   | refine LeO.bind ?_ (fun _ => ?_)
  ·intro y0 y1 y2 y3 y4 y5 y6 y7 y8 y9 y10 y11
   unfold laws_FnExactTakeRing.j1
   repeat' first
   | (with_reducible exact ih0 _ _ _ _ _ _ _ _ _ _ _ _ _ _ _ _ _)
   | (with_reducible exact ih1 _ _ _ _ _ _ _ _ _ _ _ _)
   | (with_reducible exact ih2 _ _ _ _ _)
   | (with_reducible exact impl_TakeRing.mono _ _ _ _)
   | (with_reducible exact laws_eqRing.mono _ _ _ _ _ _ _)
   | (with_reducible exact laws_heldRing.mono _ _ _ _ _)
   | (with_reducible exact laws_markRing.mono _ _ _ _ _)
   | (with_reducible exact laws_szRing.mono _ _ _ _ _)
   | (with_reducible exact laws_toRing.mono _ _ _ _)
   | (with_reducible exact spec_TakeRing.mono _ _ _ _)
   | (with_reducible exact LeO.refl _)
   | (with_reducible exact LeO.none _)
   | (with_reducible refine LeO.ite ?_ ?_)
   | (with_reducible refine LeO.bind ?_ (fun _ => ?_))
   | exact ih0 _ _ _ _ _ _ _ _ _ _ _ _ _ _ _ _ _
   | exact ih1 _ _ _ _ _ _ _ _ _ _ _ _
   | exact ih2 _ _ _ _ _
   | exact impl_TakeRing.mono _ _ _ _
   | exact laws_eqRing.mono _ _ _ _ _ _ _
   | exact laws_heldRing.mono _ _ _ _ _
   | exact laws_markRing.mono _ _ _ _ _
   | exact laws_szRing.mono _ _ _ _ _
   | exact laws_toRing.mono _ _ _ _
   | exact spec_TakeRing.mono _ _ _ _
   | exact LeO.none _
   | refine LeO.ite ?_ ?_
   | refine LeO.bind ?_ (fun _ => ?_)
  ·intro y0 y1 y2 y3 y4
   unfold laws_FnExactTakeRing.j2
   repeat' first
   | (with_reducible exact ih0 _ _ _ _ _ _ _ _ _ _ _ _ _ _ _ _ _)
   | (with_reducible exact ih1 _ _ _ _ _ _ _ _ _ _ _ _)
   | (with_reducible exact ih2 _ _ _ _ _)
   | (with_reducible exact impl_TakeRing.mono _ _ _ _)
   | (with_reducible exact laws_eqRing.mono _ _ _ _ _ _ _)
   | (with_reducible exact laws_heldRing.mono _ _ _ _ _)
   | (with_reducible exact laws_markRing.mono _ _ _ _ _)
   | (with_reducible exact laws_szRing.mono _ _ _ _ _)
   | (with_reducible exact laws_toRing.mono _ _ _ _)
   | (with_reducible exact spec_TakeRing.mono _ _ _ _)
   | (with_reducible exact LeO.refl _)
   | (with_reducible exact LeO.none _)
   | (with_reducible refine LeO.ite ?_ ?_)
   | (with_reducible refine LeO.bind ?_ (fun _ => ?_))
   | exact ih0 _ _ _ _ _ _ _ _ _ _ _ _ _ _ _ _ _
   | exact ih1 _ _ _ _ _ _ _ _ _ _ _ _
   | exact ih2 _ _ _ _ _
   | exact impl_TakeRing.mono _ _ _ _
   | exact laws_eqRing.mono _ _ _ _ _ _ _
   | exact laws_heldRing.mono _ _ _ _ _
   | exact laws_markRing.mono _ _ _ _ _
   | exact laws_szRing.mono _ _ _ _ _
   | exact laws_toRing.mono _ _ _ _
   | exact spec_TakeRing.mono _ _ _ _
   | exact LeO.none _
   | refine LeO.ite ?_ ?_
   | refine LeO.bind ?_ (fun _ => ?_)
theorem laws_FnExactTakeRing.mono : ∀ a0 a1 a2 k, LeO (laws_FnExactTakeRing.f k a0 a1 a2) (laws_FnExactTakeRing.f (k + 1) a0 a1 a2) := by
 intro a0 a1 a2 k
 obtain ⟨ih0, ih1, ih2⟩ := laws_FnExactTakeRing.mono_l k
 unfold laws_FnExactTakeRing.f
 repeat' first
   | (with_reducible exact ih0 _ _ _ _ _ _ _ _ _ _ _ _ _ _ _ _ _)
   | (with_reducible exact ih1 _ _ _ _ _ _ _ _ _ _ _ _)
   | (with_reducible exact ih2 _ _ _ _ _)
   | (with_reducible exact impl_TakeRing.mono _ _ _ _)
   | (with_reducible exact laws_eqRing.mono _ _ _ _ _ _ _)
   | (with_reducible exact laws_heldRing.mono _ _ _ _ _)
   | (with_reducible exact laws_markRing.mono _ _ _ _ _)
   | (with_reducible exact laws_szRing.mono _ _ _ _ _)
   | (with_reducible exact laws_toRing.mono _ _ _ _)
   | (with_reducible exact spec_TakeRing.mono _ _ _ _)
   | (with_reducible exact LeO.refl _)
   | (with_reducible exact LeO.none _)
   | (with_reducible refine LeO.ite ?_ ?_)
   | (with_reducible refine LeO.bind ?_ (fun _ => ?_))
   | exact ih0 _ _ _ _ _ _ _ _ _ _ _ _ _ _ _ _ _
   | exact ih1 _ _ _ _ _ _ _ _ _ _ _ _
   | exact ih2 _ _ _ _ _
   | exact impl_TakeRing.mono _ _ _ _
   | exact laws_eqRing.mono _ _ _ _ _ _ _
   | exact laws_heldRing.mono _ _ _ _ _
   | exact laws_markRing.mono _ _ _ _ _
   | exact laws_szRing.mono _ _ _ _ _
   | exact laws_toRing.mono _ _ _ _
   | exact spec_TakeRing.mono _ _ _ _
   | exact LeO.none _
   | refine LeO.ite ?_ ?_
   | refine LeO.bind ?_ (fun _ => ?_)
set_option maxHeartbeats 8000000 in
set_option maxRecDepth 100000 in
theorem laws_FnExactTakeRing.calls (k : Nat) (A0_0 : Option Addr) (c0_0 : Nat) (l0_0 : List (S185)) (a0_1 : Int) (a0_2 : Int) (r : Bool) (w : World) (hr0_0 : Kd.C k185 w A0_0 l0_0.length l0_0) (hc0_0 : l0_0.length ≤ c0_0) (h : laws_FnExactTakeRing.f k l0_0 a0_1 a0_2 = some r) (hr_ : Aside0 (r = true)) :
  Calls Try.prog 7 #[.agg #[.slice A0_0 l0_0.length c0_0, .int .i64 a0_1, .int .i64 a0_2]] w fun e w' => e = .returned (.bool r) ∧ Below w.heap.size w w' := by
 have hu60 := Try.underlying60
 have hu64 := Try.underlying64
 have HR0_0 := Aside0.mk hr0_0
 have HC0_0 := Aside0.mk hc0_0
 clear hr0_0 hc0_0
 have HB := Aside0.mk (Below.refl w.heap.size w)
 have H : ((laws_szRing.f k l0_0 a0_1 a0_2 1048576).bind fun t201 => (if t201 < 0 then (some true) else ((laws_toRing.f k l0_0 a0_1 a0_2).bind fun bt202 => ((spec_TakeRing.f k bt202.1 bt202.2.1 bt202.2.2).bind fun bt207 => ((laws_toRing.f k l0_0 a0_1 a0_2).bind fun bt215 => ((impl_TakeRing.f k bt215.1 bt215.2.1 bt215.2.2).bind fun bt221 => ((laws_eqRing.f k bt221.1 bt221.2.1 bt221.2.2.1 bt207.1 bt207.2.1 bt207.2.2.1).bind fun t229 => (if t229 = true then (if bt221.2.2.2.1.toList = bt207.2.2.2.1.toList then (laws_FnExactTakeRing.j0 k bt207.2.2.2.1 bt207.2.2.2.2 bt221.2.2.2.1 bt221.2.2.2.2 (bt221.2.2.2.2 != bt207.2.2.2.2) l0_0 a0_1 a0_2 bt207.1 bt207.2.1 bt207.2.2.1 bt215.1 bt215.2.1 bt215.2.2 bt221.1 bt221.2.1 bt221.2.2.1) else (laws_FnExactTakeRing.j0 k bt207.2.2.2.1 bt207.2.2.2.2 bt221.2.2.2.1 bt221.2.2.2.2 true l0_0 a0_1 a0_2 bt207.1 bt207.2.1 bt207.2.2.1 bt215.1 bt215.2.1 bt215.2.2 bt221.1 bt221.2.1 bt221.2.2.1)) else (laws_FnExactTakeRing.j0 k bt207.2.2.2.1 bt207.2.2.2.2 bt221.2.2.2.1 bt221.2.2.2.2 true l0_0 a0_1 a0_2 bt207.1 bt207.2.1 bt207.2.2.1 bt215.1 bt215.2.1 bt215.2.2 bt221.1 bt221.2.1 bt221.2.2.1))))))))) = some r := h
 clear h
 replace H := Option.bind_eq_some_iff.mp H
 obtain ⟨t201, A20, H⟩ := H
 (try dsimp only at H)
 have A2 := Aside0.mk A20
 clear A20
 by_cases c3 : t201 < 0
 ·rw [if_pos c3] at H
  have c3b0 : decide (t201 < 0) = true := decide_eq_true c3
  clear c3
  obtain rfl := Option.some.inj H
  go_enter Try.func7, Try.ntmps7
  go_wp2_with (first | ((with_reducible refine gate_dst (N := 1) rfl ?_); refine box_event ?hg (N := 1) ?hd (cs := #[.slice A0_0 l0_0.length c0_0, .int .i64 a0_1, .int .i64 a0_2]) (t := 60) ?hr ?_; (case hd => rfl); (case hg => rfl); (case hr => first | (go_simp; done) | (go_simp; rfl)); intro gb200 hg w4 hbox hb; have n0_ := Aside0.mk (below_step B8x32_ hb); have n1_ := Aside0.mk (hbox); have n2_ := Aside0.mk ((by rw [hg]; exact (below_size B8x32_) : w.heap.size ≤ gb200)); have n3_ := Aside0.mk ((by rw [hg]; exact (below_size B8x32_) : w.heap.size ≤ gb200)); clear HB; have HB := n0_; have BK200 := n1_; have GW200 := n2_; have GE200 := n3_; clear n0_ n1_ n2_ n3_; clear hb hbox hg; obtain ⟨hcz5_0, hcz5_1, hcz5_2⟩ := cl3 BK200.out; obtain ⟨hfz5_0, hfz5_1, hfz5_2⟩ := fr3 BK200.out) | ((with_reducible refine gate_callee (f := 35) rfl ?_); refine goesL_ (some 19) rfl rfl Try.func35 B8x39_ rfl #[.agg #[.slice A0_0 l0_0.length c0_0, .int .i64 a0_1, .int .i64 a0_2], .int .i64 1048576] rfl B8x2_ ?_; (with_reducible refine (laws_szRing.calls k _ _ l0_0 a0_1 a0_2 1048576 t201 _ ?side1 ?side2 A2.out).mono ?_); (case side1 => repeat (first | exact (Kd.C_below HR0_0.out HB.out) | (with_reducible refine Kd.C_alloc ?_ _) | (with_reducible refine Kd.C_drewN ?_ _) | (with_reducible refine Kd.C_drew ?_))); (case side2 => exact HC0_0.out); rintro e w6 ⟨rfl, hb⟩; refine ⟨_, rfl, ?_⟩; have n0_ := Aside0.mk (blk_below (g := gb200) (o := .cells #[.slice A0_0 l0_0.length c0_0, .int .i64 a0_1, .int .i64 a0_2] 60 (0, 0)) B8x1_ hb); have n1_ := Aside0.mk (below_step B8x12_ hb); clear BK200; clear HB; have BK200 := n0_; have HB := n1_; clear n0_ n1_; (try clear hb); (try clear hb2); (try clear hk); (try clear hi)))
  go_ret
  exact ⟨by first | rfl | (simp [errW_none, errW_some] <;> rfl) | (simp [*, errW_none, errW_some] <;> rfl), by repeat (first | (with_reducible first | exact HB.out | apply below_alloc | apply pw_below_drewN | apply below_drew1 | refine below_set ?_ GE200.out) | exact HB.out)⟩
 ·rw [if_neg c3] at H
  have c3b0 : decide (t201 < 0) = false := decide_eq_false c3
  clear c3
  replace H := Option.bind_eq_some_iff.mp H
  obtain ⟨⟨t202, t205, t206⟩, A70, H⟩ := H
  (try dsimp only at H)
  have A7 := Aside0.mk A70
  clear A70
  replace H := Option.bind_eq_some_iff.mp H
  obtain ⟨⟨t207, t210, t211, t212, t213⟩, A80, H⟩ := H
  (try dsimp only at H)
  have A8 := Aside0.mk A80
  clear A80
  replace H := Option.bind_eq_some_iff.mp H
  obtain ⟨⟨t215, t218, t219⟩, A90, H⟩ := H
  (try dsimp only at H)
  have A9 := Aside0.mk A90
  clear A90
  replace H := Option.bind_eq_some_iff.mp H
  obtain ⟨⟨t221, t224, t225, t226, t227⟩, A100, H⟩ := H
  (try dsimp only at H)
  have A10 := Aside0.mk A100
  clear A100
  have HC11 := Aside0.mk H
  clear H
  go_enter Try.func7, Try.ntmps7
  go_upto_region 8 with (first | ((with_reducible refine gate_dst (N := 1) rfl ?_); refine box_event ?hg (N := 1) ?hd (cs := #[.slice A0_0 l0_0.length c0_0, .int .i64 a0_1, .int .i64 a0_2]) (t := 60) ?hr ?_; (case hd => rfl); (case hg => rfl); (case hr => first | (go_simp; done) | (go_simp; rfl)); intro gb200 hg w12 hbox hb; have n0_ := Aside0.mk (below_step B8x32_ hb); have n1_ := Aside0.mk (hbox); have n2_ := Aside0.mk ((by rw [hg]; exact (below_size B8x32_) : w.heap.size ≤ gb200)); have n3_ := Aside0.mk ((by rw [hg]; exact (below_size B8x32_) : w.heap.size ≤ gb200)); clear HB; have HB := n0_; have BK200 := n1_; have GW200 := n2_; have GE200 := n3_; clear n0_ n1_ n2_ n3_; clear hb hbox hg; obtain ⟨hcz13_0, hcz13_1, hcz13_2⟩ := cl3 BK200.out; obtain ⟨hfz13_0, hfz13_1, hfz13_2⟩ := fr3 BK200.out) | ((with_reducible refine gate_callee (f := 35) rfl ?_); refine goesL_ (some 19) rfl rfl Try.func35 B8x39_ rfl #[.agg #[.slice A0_0 l0_0.length c0_0, .int .i64 a0_1, .int .i64 a0_2], .int .i64 1048576] rfl B8x2_ ?_; (with_reducible refine (laws_szRing.calls k _ _ l0_0 a0_1 a0_2 1048576 t201 _ ?side1 ?side2 A2.out).mono ?_); (case side1 => repeat (first | exact (Kd.C_below HR0_0.out HB.out) | (with_reducible refine Kd.C_alloc ?_ _) | (with_reducible refine Kd.C_drewN ?_ _) | (with_reducible refine Kd.C_drew ?_))); (case side2 => exact HC0_0.out); rintro e w14 ⟨rfl, hb⟩; refine ⟨_, rfl, ?_⟩; have n0_ := Aside0.mk (blk_below (g := gb200) (o := .cells #[.slice A0_0 l0_0.length c0_0, .int .i64 a0_1, .int .i64 a0_2] 60 (0, 0)) B8x1_ hb); have n1_ := Aside0.mk (below_step B8x12_ hb); clear BK200; clear HB; have BK200 := n0_; have HB := n1_; clear n0_ n1_; (try clear hb); (try clear hb2); (try clear hk); (try clear hi); obtain ⟨hcz15_0, hcz15_1, hcz15_2⟩ := cl3 BK200.out; obtain ⟨hfz15_0, hfz15_1, hfz15_2⟩ := fr3 BK200.out) | ((with_reducible refine gate_callee (f := 37) rfl ?_); refine goesL_ (some 24) rfl rfl Try.func37 B8x39_ rfl #[.agg #[.slice A0_0 l0_0.length c0_0, .int .i64 a0_1, .int .i64 a0_2]] rfl B8x2_ ?_; (with_reducible refine (laws_toRing.calls k _ _ l0_0 a0_1 a0_2 t202 t205 t206 _ ?side1 ?side2 A7.out).mono ?_); (case side1 => repeat (first | exact (Kd.C_below HR0_0.out HB.out) | (with_reducible refine Kd.C_alloc ?_ _) | (with_reducible refine Kd.C_drewN ?_ _) | (with_reducible refine Kd.C_drew ?_))); (case side2 => exact HC0_0.out); rintro e w16 ⟨v203, rfl, ho0, hb⟩; refine ⟨_, rfl, ?_⟩; have n0_ := Aside0.mk (Kd.R_lower ho0 (below_size B8x12_)); have n1_ := Aside0.mk (blk_below (g := gb200) (o := .cells #[.slice A0_0 l0_0.length c0_0, .int .i64 a0_1, .int .i64 a0_2] 60 (0, 0)) B8x1_ hb); have n2_ := Aside0.mk (below_step B8x12_ hb); clear BK200; clear HB; have HO204 := n0_; have BK200 := n1_; have HB := n2_; clear n0_ n1_ n2_; (try clear hb); (try clear hb2); (try clear hk); (try clear hi); (try clear ho0); obtain ⟨Ao17, co17, eo17⟩ := Kd.R_slice HO204.out; subst eo17) | ((with_reducible refine gate_callee (f := 36) rfl ?_); refine goesL_ (some 25) rfl rfl Try.func36 B8x39_ rfl #[.agg #[.slice Ao17 t202.length co17, .int .i64 t205, .int .i64 t206]] rfl B8x2_ ?_; (with_reducible refine (spec_TakeRing.calls k _ _ t202 t205 t206 t207 t210 t211 t212 t213 _ ?side1 ?side2 A8.out).mono ?_); (case side1 => repeat (first | exact (Kd.R_reads' HO204.out).2.2 | (with_reducible refine Kd.C_alloc ?_ _) | (with_reducible refine Kd.C_drewN ?_ _) | (with_reducible refine Kd.C_drew ?_))); (case side2 => exact (Kd.R_reads' HO204.out).2.1); rintro e w18 ⟨v208, rfl, ho0, hb⟩; refine ⟨_, rfl, ?_⟩; have n0_ := Aside0.mk (Kd.R_elder' B8x33_ (Kd.R_base ho0) hb); have n1_ := Aside0.mk (Kd.R_lower (Kd.R_new' ho0 (Kd.R_lt B8x33_)) (below_size B8x12_)); have n2_ := Aside0.mk (blk_below (g := gb200) (o := .cells #[.slice A0_0 l0_0.length c0_0, .int .i64 a0_1, .int .i64 a0_2] 60 (0, 0)) B8x1_ hb); have n3_ := Aside0.mk (below_step B8x12_ hb); clear HO204; clear BK200; clear HB; have HO204 := n0_; have HO209 := n1_; have BK200 := n2_; have HB := n3_; clear n0_ n1_ n2_ n3_; (try clear hb); (try clear hb2); (try clear hk); (try clear hi); (try clear ho0)) | ((with_reducible refine gate_dst (N := 4) rfl ?_); refine box_event ?hg (N := 4) ?hd (cs := #[.slice none 0 0, .int .i64 0, .int .i64 0]) (t := 64) ?hr ?_; (case hd => rfl); (case hg => rfl); (case hr => first | (go_simp; done) | (go_simp; rfl)); intro gb214 hg w19 hbox hb; have n0_ := Aside0.mk (Kd.R_below B8x33_ hb); have n1_ := Aside0.mk (Kd.R_below B8x40_ hb); have n2_ := Aside0.mk (blk_below (g := gb200) (o := .cells #[.slice A0_0 l0_0.length c0_0, .int .i64 a0_1, .int .i64 a0_2] 60 (0, 0)) B8x1_ hb); have n3_ := Aside0.mk (below_step B8x12_ hb); have n4_ := Aside0.mk (hbox); have n5_ := Aside0.mk ((by rw [hg]; exact (below_size B8x12_) : w.heap.size ≤ gb214)); have n6_ := Aside0.mk ((by rw [hg]; exact (below_size B8x12_) : w.heap.size ≤ gb214)); have n7_ := Aside0.mk ((by rw [hg]; exact Nat.ne_of_lt (blk_lt (g := gb200) (o := .cells #[.slice A0_0 l0_0.length c0_0, .int .i64 a0_1, .int .i64 a0_2] 60 (0, 0)) B8x1_) : gb200 ≠ gb214)); have n8_ := Aside0.mk ((by rw [hg]; exact Nat.ne_of_gt (blk_lt (g := gb200) (o := .cells #[.slice A0_0 l0_0.length c0_0, .int .i64 a0_1, .int .i64 a0_2] 60 (0, 0)) B8x1_) : gb214 ≠ gb200)); clear HO204; clear HO209; clear BK200; clear HB; have HO204 := n0_; have HO209 := n1_; have BK200 := n2_; have HB := n3_; have BK214 := n4_; have GW214 := n5_; have GE214 := n6_; have NB200_214 := n7_; have NB214_200 := n8_; clear n0_ n1_ n2_ n3_ n4_ n5_ n6_ n7_ n8_; clear hb hbox hg; obtain ⟨Ao20, co20, eo20⟩ := Kd.R_slice HO209.out; subst eo20; have hnb21 := NB214_200.out; have hnc21 := NB200_214.out; obtain ⟨hcz22_0, hcz22_1, hcz22_2⟩ := cl3 BK214.out; obtain ⟨hfz22_0, hfz22_1, hfz22_2⟩ := fr3 BK214.out; obtain ⟨hcz23_0, hcz23_1, hcz23_2⟩ := cl3 BK200.out; obtain ⟨hfz23_0, hfz23_1, hfz23_2⟩ := fr3 BK200.out) | ((with_reducible refine gate_callee (f := 37) rfl ?_); refine goesL_ (some 30) rfl rfl Try.func37 B8x39_ rfl #[.agg #[.slice A0_0 l0_0.length c0_0, .int .i64 a0_1, .int .i64 a0_2]] rfl B8x2_ ?_; (with_reducible refine (laws_toRing.calls k _ _ l0_0 a0_1 a0_2 t215 t218 t219 _ ?side1 ?side2 A9.out).mono ?_); (case side1 => exact Kd.C_below HR0_0.out B8x23_); (case side2 => exact HC0_0.out); rintro e w24 ⟨v216, rfl, ho0, hb⟩; refine ⟨_, rfl, ?_⟩; have n0_ := Aside0.mk (Kd.R_elder' B8x34_ (Kd.R_base ho0) hb); have n1_ := Aside0.mk (Kd.R_elder' B8x35_ (Kd.R_base ho0) hb); have n2_ := Aside0.mk (Kd.R_lower (Kd.R_new' (Kd.R_new' ho0 (Kd.R_lt B8x34_)) (Kd.R_lt B8x35_)) (below_size B8x23_)); have n3_ := Aside0.mk (blk_below (g := gb200) (o := .cells #[.slice A0_0 l0_0.length c0_0, .int .i64 a0_1, .int .i64 a0_2] 60 (0, 0)) (by (with_reducible repeat (first | refine blk_drewN ?_ _ | refine blk_drew ?_ | refine blk_alloc ?_ _)); refine blk_far ?_ NB200_214.out _; (with_reducible repeat (first | refine blk_drewN ?_ _ | refine blk_drew ?_ | refine blk_alloc ?_ _)); refine blk_far ?_ NB200_214.out _; (with_reducible repeat (first | refine blk_drewN ?_ _ | refine blk_drew ?_ | refine blk_alloc ?_ _)); refine blk_far ?_ NB200_214.out _; (with_reducible repeat (first | refine blk_drewN ?_ _ | refine blk_drew ?_ | refine blk_alloc ?_ _)); exact BK200.out) hb); have n4_ := Aside0.mk (blk_below (g := gb214) (o := .cells #[.slice Ao20 t207.length co20, .int .i64 t210, .int .i64 t211] 64 (0, 0)) (by (with_reducible repeat (first | refine blk_drewN ?_ _ | refine blk_drew ?_ | refine blk_alloc ?_ _)); refine blk_put (cs := #[.slice Ao20 t207.length co20, .int .i64 t210, .int .i64 0]) ?_ 2 _ rfl; (with_reducible repeat (first | refine blk_drewN ?_ _ | refine blk_drew ?_ | refine blk_alloc ?_ _)); refine blk_put (cs := #[.slice Ao20 t207.length co20, .int .i64 0, .int .i64 0]) ?_ 1 _ rfl; (with_reducible repeat (first | refine blk_drewN ?_ _ | refine blk_drew ?_ | refine blk_alloc ?_ _)); refine blk_put (cs := #[.slice none 0 0, .int .i64 0, .int .i64 0]) ?_ 0 _ rfl; (with_reducible repeat (first | refine blk_drewN ?_ _ | refine blk_drew ?_ | refine blk_alloc ?_ _)); exact BK214.out) hb); have n5_ := Aside0.mk (below_step B8x23_ hb); clear HO204; clear HO209; clear BK200; clear BK214; clear HB; have HO204 := n0_; have HO209 := n1_; have HO217 := n2_; have BK200 := n3_; have BK214 := n4_; have HB := n5_; clear n0_ n1_ n2_ n3_ n4_ n5_; (try clear hb); (try clear hb2); (try clear hk); (try clear hi); (try clear ho0)) | ((with_reducible refine gate_dst (N := 7) rfl ?_); refine box_event ?hg (N := 7) ?hd (cs := #[.slice none 0 0, .int .i64 0, .int .i64 0]) (t := 64) ?hr ?_; (case hd => rfl); (case hg => rfl); (case hr => first | (go_simp; done) | (go_simp; rfl)); intro gb220 hg w25 hbox hb; have n0_ := Aside0.mk (Kd.R_below B8x33_ hb); have n1_ := Aside0.mk (Kd.R_below B8x40_ hb); have n2_ := Aside0.mk (Kd.R_below B8x42_ hb); have n3_ := Aside0.mk (blk_below (g := gb200) (o := .cells #[.slice A0_0 l0_0.length c0_0, .int .i64 a0_1, .int .i64 a0_2] 60 (0, 0)) B8x1_ hb); have n4_ := Aside0.mk (blk_below (g := gb214) (o := .cells #[.slice Ao20 t207.length co20, .int .i64 t210, .int .i64 t211] 64 (0, 0)) B8x3_ hb); have n5_ := Aside0.mk (below_step B8x23_ hb); have n6_ := Aside0.mk (hbox); have n7_ := Aside0.mk ((by rw [hg]; exact (below_size B8x23_) : w.heap.size ≤ gb220)); have n8_ := Aside0.mk ((by rw [hg]; exact (below_size B8x23_) : w.heap.size ≤ gb220)); have n9_ := Aside0.mk ((by rw [hg]; exact Nat.ne_of_lt (blk_lt (g := gb200) (o := .cells #[.slice A0_0 l0_0.length c0_0, .int .i64 a0_1, .int .i64 a0_2] 60 (0, 0)) B8x1_) : gb200 ≠ gb220)); have n10_ := Aside0.mk ((by rw [hg]; exact Nat.ne_of_gt (blk_lt (g := gb200) (o := .cells #[.slice A0_0 l0_0.length c0_0, .int .i64 a0_1, .int .i64 a0_2] 60 (0, 0)) B8x1_) : gb220 ≠ gb200)); have n11_ := Aside0.mk ((by rw [hg]; exact Nat.ne_of_lt (blk_lt (g := gb214) (o := .cells #[.slice Ao20 t207.length co20, .int .i64 t210, .int .i64 t211] 64 (0, 0)) B8x3_) : gb214 ≠ gb220)); have n12_ := Aside0.mk ((by rw [hg]; exact Nat.ne_of_gt (blk_lt (g := gb214) (o := .cells #[.slice Ao20 t207.length co20, .int .i64 t210, .int .i64 t211] 64 (0, 0)) B8x3_) : gb220 ≠ gb214)); clear HO204; clear HO209; clear HO217; clear BK200; clear BK214; clear HB; have HO204 := n0_; have HO209 := n1_; have HO217 := n2_; have BK200 := n3_; have BK214 := n4_; have HB := n5_; have BK220 := n6_; have GW220 := n7_; have GE220 := n8_; have NB200_220 := n9_; have NB220_200 := n10_; have NB214_220 := n11_; have NB220_214 := n12_; clear n0_ n1_ n2_ n3_ n4_ n5_ n6_ n7_ n8_ n9_ n10_ n11_ n12_; clear hb hbox hg; obtain ⟨Ao26, co26, eo26⟩ := Kd.R_slice HO217.out; subst eo26; have hnb27 := NB220_200.out; have hnc27 := NB200_220.out; have hnb28 := NB220_214.out; have hnc28 := NB214_220.out; obtain ⟨hcz29_0, hcz29_1, hcz29_2⟩ := cl3 BK220.out; obtain ⟨hfz29_0, hfz29_1, hfz29_2⟩ := fr3 BK220.out) | ((with_reducible refine gate_callee (f := 38) rfl ?_); refine goesL_ (some 33) rfl rfl Try.func38 B8x39_ rfl #[.agg #[.slice Ao26 t215.length co26, .int .i64 t218, .int .i64 t219]] rfl B8x2_ ?_; (with_reducible refine (impl_TakeRing.calls k _ _ t215 t218 t219 t221 t224 t225 t226 t227 _ ?side1 ?side2 A10.out).mono ?_); (case side1 => refine (Kd.R_reads' (e := 144) (base := w.heap.size) (ok := fun k_ => ((True ∧ some k_ ≠ (.slice Ao17 t202.length co17 : Value).ownBlock) ∧ some k_ ≠ (.slice Ao20 t207.length co20 : Value).ownBlock)) (n := t215.length) (c := co26) ?_).2.2; exact B8x29_); (case side2 => exact (Kd.R_reads' HO217.out).2.1); rintro e w30 ⟨v222, rfl, ho0, hb⟩; refine ⟨_, rfl, ?_⟩; have n0_ := Aside0.mk (Kd.R_elder' B8x36_ (Kd.R_base ho0) hb); have n1_ := Aside0.mk (Kd.R_elder' B8x37_ (Kd.R_base ho0) hb); have n2_ := Aside0.mk (Kd.R_elder' B8x29_ (Kd.R_base ho0) hb); have n3_ := Aside0.mk (Kd.R_lower (Kd.R_new' (Kd.R_new' (Kd.R_new' ho0 (Kd.R_lt B8x36_)) (Kd.R_lt B8x37_)) (Kd.R_lt B8x29_)) (below_size B8x24_)); have n4_ := Aside0.mk (blk_below (g := gb200) (o := .cells #[.slice A0_0 l0_0.length c0_0, .int .i64 a0_1, .int .i64 a0_2] 60 (0, 0)) (by (with_reducible repeat (first | refine blk_drewN ?_ _ | refine blk_drew ?_ | refine blk_alloc ?_ _)); refine blk_far ?_ NB200_220.out _; (with_reducible repeat (first | refine blk_drewN ?_ _ | refine blk_drew ?_ | refine blk_alloc ?_ _)); refine blk_far ?_ NB200_220.out _; (with_reducible repeat (first | refine blk_drewN ?_ _ | refine blk_drew ?_ | refine blk_alloc ?_ _)); refine blk_far ?_ NB200_220.out _; (with_reducible repeat (first | refine blk_drewN ?_ _ | refine blk_drew ?_ | refine blk_alloc ?_ _)); exact BK200.out) hb); have n5_ := Aside0.mk (blk_below (g := gb214) (o := .cells #[.slice Ao20 t207.length co20, .int .i64 t210, .int .i64 t211] 64 (0, 0)) (by (with_reducible repeat (first | refine blk_drewN ?_ _ | refine blk_drew ?_ | refine blk_alloc ?_ _)); refine blk_far ?_ NB214_220.out _; (with_reducible repeat (first | refine blk_drewN ?_ _ | refine blk_drew ?_ | refine blk_alloc ?_ _)); refine blk_far ?_ NB214_220.out _; (with_reducible repeat (first | refine blk_drewN ?_ _ | refine blk_drew ?_ | refine blk_alloc ?_ _)); refine blk_far ?_ NB214_220.out _; (with_reducible repeat (first | refine blk_drewN ?_ _ | refine blk_drew ?_ | refine blk_alloc ?_ _)); exact BK214.out) hb); have n6_ := Aside0.mk (blk_below (g := gb220) (o := .cells #[.slice Ao26 t215.length co26, .int .i64 t218, .int .i64 t219] 64 (0, 0)) (by (with_reducible repeat (first | refine blk_drewN ?_ _ | refine blk_drew ?_ | refine blk_alloc ?_ _)); refine blk_put (cs := #[.slice Ao26 t215.length co26, .int .i64 t218, .int .i64 0]) ?_ 2 _ rfl; (with_reducible repeat (first | refine blk_drewN ?_ _ | refine blk_drew ?_ | refine blk_alloc ?_ _)); refine blk_put (cs := #[.slice Ao26 t215.length co26, .int .i64 0, .int .i64 0]) ?_ 1 _ rfl; (with_reducible repeat (first | refine blk_drewN ?_ _ | refine blk_drew ?_ | refine blk_alloc ?_ _)); refine blk_put (cs := #[.slice none 0 0, .int .i64 0, .int .i64 0]) ?_ 0 _ rfl; (with_reducible repeat (first | refine blk_drewN ?_ _ | refine blk_drew ?_ | refine blk_alloc ?_ _)); exact BK220.out) hb); have n7_ := Aside0.mk (below_step B8x24_ hb); clear HO204; clear HO209; clear HO217; clear BK200; clear BK214; clear BK220; clear HB; have HO204 := n0_; have HO209 := n1_; have HO217 := n2_; have HO223 := n3_; have BK200 := n4_; have BK214 := n5_; have BK220 := n6_; have HB := n7_; clear n0_ n1_ n2_ n3_ n4_ n5_ n6_ n7_; (try clear hb); (try clear hb2); (try clear hk); (try clear hi); (try clear ho0)) | ((with_reducible refine gate_dst (N := 8) rfl ?_); refine box_event ?hg (N := 8) ?hd (cs := #[.slice none 0 0, .int .i64 0, .int .i64 0]) (t := 64) ?hr ?_; (case hd => rfl); (case hg => rfl); (case hr => first | (go_simp; done) | (go_simp; rfl)); intro gb228 hg w31 hbox hb; have n0_ := Aside0.mk (Kd.R_below B8x33_ hb); have n1_ := Aside0.mk (Kd.R_below B8x40_ hb); have n2_ := Aside0.mk (Kd.R_below B8x42_ hb); have n3_ := Aside0.mk (Kd.R_below (by (with_reducible repeat (first | apply Kd.R_alloc | apply Kd.R_drewN | apply Kd.R_drew)); exact HO223.out) hb); have n4_ := Aside0.mk (blk_below (g := gb200) (o := .cells #[.slice A0_0 l0_0.length c0_0, .int .i64 a0_1, .int .i64 a0_2] 60 (0, 0)) B8x1_ hb); have n5_ := Aside0.mk (blk_below (g := gb214) (o := .cells #[.slice Ao20 t207.length co20, .int .i64 t210, .int .i64 t211] 64 (0, 0)) B8x3_ hb); have n6_ := Aside0.mk (blk_below (g := gb220) (o := .cells #[.slice Ao26 t215.length co26, .int .i64 t218, .int .i64 t219] 64 (0, 0)) B8x8_ hb); have n7_ := Aside0.mk (below_step B8x24_ hb); have n8_ := Aside0.mk (hbox); have n9_ := Aside0.mk ((by rw [hg]; exact (below_size B8x24_) : w.heap.size ≤ gb228)); have n10_ := Aside0.mk ((by rw [hg]; exact (below_size B8x24_) : w.heap.size ≤ gb228)); have n11_ := Aside0.mk ((by rw [hg]; exact Nat.ne_of_lt (blk_lt (g := gb200) (o := .cells #[.slice A0_0 l0_0.length c0_0, .int .i64 a0_1, .int .i64 a0_2] 60 (0, 0)) B8x1_) : gb200 ≠ gb228)); have n12_ := Aside0.mk ((by rw [hg]; exact Nat.ne_of_gt (blk_lt (g := gb200) (o := .cells #[.slice A0_0 l0_0.length c0_0, .int .i64 a0_1, .int .i64 a0_2] 60 (0, 0)) B8x1_) : gb228 ≠ gb200)); have n13_ := Aside0.mk ((by rw [hg]; exact Nat.ne_of_lt (blk_lt (g := gb214) (o := .cells #[.slice Ao20 t207.length co20, .int .i64 t210, .int .i64 t211] 64 (0, 0)) B8x3_) : gb214 ≠ gb228)); have n14_ := Aside0.mk ((by rw [hg]; exact Nat.ne_of_gt (blk_lt (g := gb214) (o := .cells #[.slice Ao20 t207.length co20, .int .i64 t210, .int .i64 t211] 64 (0, 0)) B8x3_) : gb228 ≠ gb214)); have n15_ := Aside0.mk ((by rw [hg]; exact Nat.ne_of_lt (blk_lt (g := gb220) (o := .cells #[.slice Ao26 t215.length co26, .int .i64 t218, .int .i64 t219] 64 (0, 0)) B8x8_) : gb220 ≠ gb228)); have n16_ := Aside0.mk ((by rw [hg]; exact Nat.ne_of_gt (blk_lt (g := gb220) (o := .cells #[.slice Ao26 t215.length co26, .int .i64 t218, .int .i64 t219] 64 (0, 0)) B8x8_) : gb228 ≠ gb220)); clear HO204; clear HO209; clear HO217; clear HO223; clear BK200; clear BK214; clear BK220; clear HB; have HO204 := n0_; have HO209 := n1_; have HO217 := n2_; have HO223 := n3_; have BK200 := n4_; have BK214 := n5_; have BK220 := n6_; have HB := n7_; have BK228 := n8_; have GW228 := n9_; have GE228 := n10_; have NB200_228 := n11_; have NB228_200 := n12_; have NB214_228 := n13_; have NB228_214 := n14_; have NB220_228 := n15_; have NB228_220 := n16_; clear n0_ n1_ n2_ n3_ n4_ n5_ n6_ n7_ n8_ n9_ n10_ n11_ n12_ n13_ n14_ n15_ n16_; clear hb hbox hg; obtain ⟨Ao32, co32, eo32⟩ := Kd.R_slice HO223.out; subst eo32; have hnb33 := NB228_200.out; have hnc33 := NB200_228.out; have hnb34 := NB228_214.out; have hnc34 := NB214_228.out; have hnb35 := NB228_220.out; have hnc35 := NB220_228.out; obtain ⟨hcz36_0, hcz36_1, hcz36_2⟩ := cl3 BK228.out; obtain ⟨hfz36_0, hfz36_1, hfz36_2⟩ := fr3 BK228.out))
  (try simp only [Act.put, List.setIfInBounds_toArray, List.set_cons_zero, List.set_cons_succ])
  go_cut [50] (fun v50 wc => ∃ (kq : Nat) (x50_10 : Bool), v50 = .bool x50_10 ∧ Aside0 (laws_FnExactTakeRing.j0 kq t212 t213 t226 t227 x50_10 l0_0 a0_1 a0_2 t207 t210 t211 t215 t218 t219 t221 t224 t225 = some r) ∧ Aside0 (kq ≤ k) ∧ Aside0 (Kd.R k144 144 wc w.heap.size (fun k_ => some k_ ≠ ((.slice Ao26 t215.length co26) : Value).ownBlock ∧ some k_ ≠ ((.slice Ao32 t221.length co32) : Value).ownBlock) (.slice Ao20 t207.length co20) t207) ∧ Aside0 (Kd.R k144 144 wc w.heap.size (fun k_ => some k_ ≠ ((.slice Ao20 t207.length co20) : Value).ownBlock ∧ some k_ ≠ ((.slice Ao32 t221.length co32) : Value).ownBlock) (.slice Ao26 t215.length co26) t215) ∧ Aside0 (Kd.R k144 144 wc w.heap.size (fun k_ => some k_ ≠ ((.slice Ao20 t207.length co20) : Value).ownBlock ∧ some k_ ≠ ((.slice Ao26 t215.length co26) : Value).ownBlock) (.slice Ao32 t221.length co32) t221) ∧ Aside0 (wc.heap[gb200]? = some (.cells #[(.slice A0_0 l0_0.length c0_0), .int .i64 a0_1, .int .i64 a0_2] 60 (0, 0))) ∧ Aside0 (wc.heap[gb214]? = some (.cells #[(.slice Ao20 t207.length co20), .int .i64 t210, .int .i64 t211] 64 (0, 0))) ∧ Aside0 (wc.heap[gb220]? = some (.cells #[(.slice Ao26 t215.length co26), .int .i64 t218, .int .i64 t219] 64 (0, 0))) ∧ Aside0 (wc.heap[gb228]? = some (.cells #[(.slice Ao32 t221.length co32), .int .i64 t224, .int .i64 t225] 64 (0, 0))) ∧ Aside0 (Below w.heap.size w wc))
  case first =>
   have H := HC11.out
   clear HC11
   replace H := Option.bind_eq_some_iff.mp H
   obtain ⟨t229, A370, H⟩ := H
   (try dsimp only at H)
   have A37 := Aside0.mk A370
   clear A370
   by_cases c38 : t229 = true
   ·subst c38
    rw [if_pos rfl] at H
    by_cases c39 : t226.toList = t212.toList
    ·rw [if_pos c39] at H
     have c39b0 : (t226.toList == t212.toList) = true := beq_iff_eq.mpr c39
     have c39b1 : (t226.toList != t212.toList) = false := bne_eq_false_iff_eq.mpr c39
     clear c39
     (first | rw [c39b0] | (simp only [i64_w, i32_w]; rw [c39b0]) | skip)
     have H' := Aside0.mk H
     clear H
     have hnb40 := NB228_200.out
     have hnc40 := NB200_228.out
     have hnb41 := NB228_214.out
     have hnc41 := NB214_228.out
     have hnb42 := NB228_220.out
     have hnc42 := NB220_228.out
     obtain ⟨hcz43_0, hcz43_1, hcz43_2⟩ := cl3 BK228.out
     obtain ⟨hfz43_0, hfz43_1, hfz43_2⟩ := fr3 BK228.out
     have hnb44 := NB214_200.out
     have hnc44 := NB200_214.out
     have hnb45 := NB214_220.out
     have hnc45 := NB220_214.out
     obtain ⟨hcz46_0, hcz46_1, hcz46_2⟩ := cl3 BK214.out
     obtain ⟨hfz46_0, hfz46_1, hfz46_2⟩ := fr3 BK214.out
     go_wp2_with (first | ((with_reducible refine gate_callee (f := 39) rfl ?_); refine goesL_ (some 39) rfl rfl Try.func39 B8x39_ rfl #[.agg #[.slice Ao32 t221.length co32, .int .i64 t224, .int .i64 t225], .agg #[.slice Ao20 t207.length co20, .int .i64 t210, .int .i64 t211]] rfl B8x2_ ?_; (with_reducible refine (laws_eqRing.calls k _ _ t221 t224 t225 _ _ t207 t210 t211 true _ ?side1 ?side2 ?side3 ?side4 A37.out).mono ?_); (case side1 => refine (Kd.R_reads' (e := 144) (base := w.heap.size) (ok := fun k_ => (((True ∧ some k_ ≠ (.slice Ao17 t202.length co17 : Value).ownBlock) ∧ some k_ ≠ (.slice Ao20 t207.length co20 : Value).ownBlock) ∧ some k_ ≠ (.slice Ao26 t215.length co26 : Value).ownBlock)) (n := t221.length) (c := co32) ?_).2.2; exact B8x7_); (case side2 => exact (Kd.R_reads' HO223.out).2.1); (case side3 => refine (Kd.R_reads' (e := 144) (base := w.heap.size) (ok := fun k_ => (((True ∧ some k_ ≠ (.slice Ao17 t202.length co17 : Value).ownBlock) ∧ some k_ ≠ (.slice Ao26 t215.length co26 : Value).ownBlock) ∧ some k_ ≠ (.slice Ao32 t221.length co32 : Value).ownBlock)) (n := t207.length) (c := co20) ?_).2.2; exact B8x6_); (case side4 => exact (Kd.R_reads' HO209.out).2.1); rintro e w47 ⟨rfl, hb⟩; refine ⟨_, rfl, ?_⟩; have n0_ := Aside0.mk (Kd.R_below B8x30_ hb); have n1_ := Aside0.mk (Kd.R_below B8x6_ hb); have n2_ := Aside0.mk (Kd.R_below B8x31_ hb); have n3_ := Aside0.mk (Kd.R_below B8x7_ hb); have n4_ := Aside0.mk (blk_below (g := gb200) (o := .cells #[.slice A0_0 l0_0.length c0_0, .int .i64 a0_1, .int .i64 a0_2] 60 (0, 0)) B8x16_ hb); have n5_ := Aside0.mk (blk_below (g := gb214) (o := .cells #[.slice Ao20 t207.length co20, .int .i64 t210, .int .i64 t211] 64 (0, 0)) B8x18_ hb); have n6_ := Aside0.mk (blk_below (g := gb220) (o := .cells #[.slice Ao26 t215.length co26, .int .i64 t218, .int .i64 t219] 64 (0, 0)) B8x20_ hb); have n7_ := Aside0.mk (blk_below (g := gb228) (o := .cells #[.slice Ao32 t221.length co32, .int .i64 t224, .int .i64 t225] 64 (0, 0)) B8x11_ hb); have n8_ := Aside0.mk (below_step B8x0_ hb); clear HO204; clear HO209; clear HO217; clear HO223; clear BK200; clear BK214; clear BK220; clear BK228; clear HB; have HO204 := n0_; have HO209 := n1_; have HO217 := n2_; have HO223 := n3_; have BK200 := n4_; have BK214 := n5_; have BK220 := n6_; have BK228 := n7_; have HB := n8_; clear n0_ n1_ n2_ n3_ n4_ n5_ n6_ n7_ n8_; (try clear hb); (try clear hb2); (try clear hk); (try clear hi)))
     go_meet
     case rel => exact ⟨_, ((t227 != t213)), (be_), H', ⟨by first | omega | exact Nat.le_refl _⟩, ⟨by (with_reducible repeat (first | apply Kd.R_alloc | apply Kd.R_drewN | apply Kd.R_drew)); exact Kd.R_mono HO209.out (fun _ hk => ⟨hk.1.2, hk.2⟩)⟩, ⟨by (with_reducible repeat (first | apply Kd.R_alloc | apply Kd.R_drewN | apply Kd.R_drew)); exact Kd.R_mono HO217.out (fun _ hk => ⟨hk.1.2, hk.2⟩)⟩, ⟨by (with_reducible repeat (first | apply Kd.R_alloc | apply Kd.R_drewN | apply Kd.R_drew)); exact Kd.R_mono HO223.out (fun _ hk => ⟨hk.1.2, hk.2⟩)⟩, ⟨by (with_reducible repeat (first | refine blk_drewN ?_ _ | refine blk_drew ?_ | refine blk_alloc ?_ _)); exact BK200.out⟩, ⟨by (with_reducible repeat (first | refine blk_drewN ?_ _ | refine blk_drew ?_ | refine blk_alloc ?_ _)); exact BK214.out⟩, ⟨by (with_reducible repeat (first | refine blk_drewN ?_ _ | refine blk_drew ?_ | refine blk_alloc ?_ _)); exact BK220.out⟩, ⟨by (with_reducible repeat (first | refine blk_drewN ?_ _ | refine blk_drew ?_ | refine blk_alloc ?_ _)); exact BK228.out⟩, ⟨by repeat (first | (with_reducible first | exact HB.out | apply below_alloc | apply pw_below_drewN | apply below_drew1 | refine below_set ?_ GE200.out | refine below_set ?_ GE214.out | refine below_set ?_ GE220.out | refine below_set ?_ GE228.out) | exact HB.out)⟩⟩
    ·rw [if_neg c39] at H
     have c39b0 : (t226.toList == t212.toList) = false := beq_eq_false_iff_ne.mpr c39
     have c39b1 : (t226.toList != t212.toList) = true := bne_iff_ne.mpr c39
     (first | rw [c39b0] | (simp only [i64_w, i32_w]; rw [c39b0]) | skip)
     have H' := Aside0.mk H
     clear H
     have hnb48 := NB228_200.out
     have hnc48 := NB200_228.out
     have hnb49 := NB228_214.out
     have hnc49 := NB214_228.out
     have hnb50 := NB228_220.out
     have hnc50 := NB220_228.out
     obtain ⟨hcz51_0, hcz51_1, hcz51_2⟩ := cl3 BK228.out
     obtain ⟨hfz51_0, hfz51_1, hfz51_2⟩ := fr3 BK228.out
     have hnb52 := NB214_200.out
     have hnc52 := NB200_214.out
     have hnb53 := NB214_220.out
     have hnc53 := NB220_214.out
     obtain ⟨hcz54_0, hcz54_1, hcz54_2⟩ := cl3 BK214.out
     obtain ⟨hfz54_0, hfz54_1, hfz54_2⟩ := fr3 BK214.out
     go_wp2_with (first | ((with_reducible refine gate_callee (f := 39) rfl ?_); refine goesL_ (some 39) rfl rfl Try.func39 B8x39_ rfl #[.agg #[.slice Ao32 t221.length co32, .int .i64 t224, .int .i64 t225], .agg #[.slice Ao20 t207.length co20, .int .i64 t210, .int .i64 t211]] rfl B8x2_ ?_; (with_reducible refine (laws_eqRing.calls k _ _ t221 t224 t225 _ _ t207 t210 t211 true _ ?side1 ?side2 ?side3 ?side4 A37.out).mono ?_); (case side1 => refine (Kd.R_reads' (e := 144) (base := w.heap.size) (ok := fun k_ => (((True ∧ some k_ ≠ (.slice Ao17 t202.length co17 : Value).ownBlock) ∧ some k_ ≠ (.slice Ao20 t207.length co20 : Value).ownBlock) ∧ some k_ ≠ (.slice Ao26 t215.length co26 : Value).ownBlock)) (n := t221.length) (c := co32) ?_).2.2; exact B8x7_); (case side2 => exact (Kd.R_reads' HO223.out).2.1); (case side3 => refine (Kd.R_reads' (e := 144) (base := w.heap.size) (ok := fun k_ => (((True ∧ some k_ ≠ (.slice Ao17 t202.length co17 : Value).ownBlock) ∧ some k_ ≠ (.slice Ao26 t215.length co26 : Value).ownBlock) ∧ some k_ ≠ (.slice Ao32 t221.length co32 : Value).ownBlock)) (n := t207.length) (c := co20) ?_).2.2; exact B8x6_); (case side4 => exact (Kd.R_reads' HO209.out).2.1); rintro e w55 ⟨rfl, hb⟩; refine ⟨_, rfl, ?_⟩; have n0_ := Aside0.mk (Kd.R_below B8x30_ hb); have n1_ := Aside0.mk (Kd.R_below B8x6_ hb); have n2_ := Aside0.mk (Kd.R_below B8x31_ hb); have n3_ := Aside0.mk (Kd.R_below B8x7_ hb); have n4_ := Aside0.mk (blk_below (g := gb200) (o := .cells #[.slice A0_0 l0_0.length c0_0, .int .i64 a0_1, .int .i64 a0_2] 60 (0, 0)) B8x16_ hb); have n5_ := Aside0.mk (blk_below (g := gb214) (o := .cells #[.slice Ao20 t207.length co20, .int .i64 t210, .int .i64 t211] 64 (0, 0)) B8x18_ hb); have n6_ := Aside0.mk (blk_below (g := gb220) (o := .cells #[.slice Ao26 t215.length co26, .int .i64 t218, .int .i64 t219] 64 (0, 0)) B8x20_ hb); have n7_ := Aside0.mk (blk_below (g := gb228) (o := .cells #[.slice Ao32 t221.length co32, .int .i64 t224, .int .i64 t225] 64 (0, 0)) B8x11_ hb); have n8_ := Aside0.mk (below_step B8x0_ hb); clear HO204; clear HO209; clear HO217; clear HO223; clear BK200; clear BK214; clear BK220; clear BK228; clear HB; have HO204 := n0_; have HO209 := n1_; have HO217 := n2_; have HO223 := n3_; have BK200 := n4_; have BK214 := n5_; have BK220 := n6_; have BK228 := n7_; have HB := n8_; clear n0_ n1_ n2_ n3_ n4_ n5_ n6_ n7_ n8_; (try clear hb); (try clear hb2); (try clear hk); (try clear hi)))
     go_meet
     case rel => exact ⟨_, (true), (be_), H', ⟨by first | omega | exact Nat.le_refl _⟩, ⟨by (with_reducible repeat (first | apply Kd.R_alloc | apply Kd.R_drewN | apply Kd.R_drew)); exact Kd.R_mono HO209.out (fun _ hk => ⟨hk.1.2, hk.2⟩)⟩, ⟨by (with_reducible repeat (first | apply Kd.R_alloc | apply Kd.R_drewN | apply Kd.R_drew)); exact Kd.R_mono HO217.out (fun _ hk => ⟨hk.1.2, hk.2⟩)⟩, ⟨by (with_reducible repeat (first | apply Kd.R_alloc | apply Kd.R_drewN | apply Kd.R_drew)); exact Kd.R_mono HO223.out (fun _ hk => ⟨hk.1.2, hk.2⟩)⟩, ⟨by (with_reducible repeat (first | refine blk_drewN ?_ _ | refine blk_drew ?_ | refine blk_alloc ?_ _)); exact BK200.out⟩, ⟨by (with_reducible repeat (first | refine blk_drewN ?_ _ | refine blk_drew ?_ | refine blk_alloc ?_ _)); exact BK214.out⟩, ⟨by (with_reducible repeat (first | refine blk_drewN ?_ _ | refine blk_drew ?_ | refine blk_alloc ?_ _)); exact BK220.out⟩, ⟨by (with_reducible repeat (first | refine blk_drewN ?_ _ | refine blk_drew ?_ | refine blk_alloc ?_ _)); exact BK228.out⟩, ⟨by repeat (first | (with_reducible first | exact HB.out | apply below_alloc | apply pw_below_drewN | apply below_drew1 | refine below_set ?_ GE200.out | refine below_set ?_ GE214.out | refine below_set ?_ GE220.out | refine below_set ?_ GE228.out) | exact HB.out)⟩⟩
   ·replace c38 := Bool.eq_false_iff.mpr c38
    subst c38
    rw [if_neg (show ¬ (false = true) by decide)] at H
    have H' := Aside0.mk H
    clear H
    have hnb56 := NB228_200.out
    have hnc56 := NB200_228.out
    have hnb57 := NB228_214.out
    have hnc57 := NB214_228.out
    have hnb58 := NB228_220.out
    have hnc58 := NB220_228.out
    obtain ⟨hcz59_0, hcz59_1, hcz59_2⟩ := cl3 BK228.out
    obtain ⟨hfz59_0, hfz59_1, hfz59_2⟩ := fr3 BK228.out
    have hnb60 := NB214_200.out
    have hnc60 := NB200_214.out
    have hnb61 := NB214_220.out
    have hnc61 := NB220_214.out
    obtain ⟨hcz62_0, hcz62_1, hcz62_2⟩ := cl3 BK214.out
    obtain ⟨hfz62_0, hfz62_1, hfz62_2⟩ := fr3 BK214.out
    go_wp2_with (first | ((with_reducible refine gate_callee (f := 39) rfl ?_); refine goesL_ (some 39) rfl rfl Try.func39 B8x39_ rfl #[.agg #[.slice Ao32 t221.length co32, .int .i64 t224, .int .i64 t225], .agg #[.slice Ao20 t207.length co20, .int .i64 t210, .int .i64 t211]] rfl B8x2_ ?_; (with_reducible refine (laws_eqRing.calls k _ _ t221 t224 t225 _ _ t207 t210 t211 false _ ?side1 ?side2 ?side3 ?side4 A37.out).mono ?_); (case side1 => refine (Kd.R_reads' (e := 144) (base := w.heap.size) (ok := fun k_ => (((True ∧ some k_ ≠ (.slice Ao17 t202.length co17 : Value).ownBlock) ∧ some k_ ≠ (.slice Ao20 t207.length co20 : Value).ownBlock) ∧ some k_ ≠ (.slice Ao26 t215.length co26 : Value).ownBlock)) (n := t221.length) (c := co32) ?_).2.2; exact B8x7_); (case side2 => exact (Kd.R_reads' HO223.out).2.1); (case side3 => refine (Kd.R_reads' (e := 144) (base := w.heap.size) (ok := fun k_ => (((True ∧ some k_ ≠ (.slice Ao17 t202.length co17 : Value).ownBlock) ∧ some k_ ≠ (.slice Ao26 t215.length co26 : Value).ownBlock) ∧ some k_ ≠ (.slice Ao32 t221.length co32 : Value).ownBlock)) (n := t207.length) (c := co20) ?_).2.2; exact B8x6_); (case side4 => exact (Kd.R_reads' HO209.out).2.1); rintro e w63 ⟨rfl, hb⟩; refine ⟨_, rfl, ?_⟩; have n0_ := Aside0.mk (Kd.R_below B8x30_ hb); have n1_ := Aside0.mk (Kd.R_below B8x6_ hb); have n2_ := Aside0.mk (Kd.R_below B8x31_ hb); have n3_ := Aside0.mk (Kd.R_below B8x7_ hb); have n4_ := Aside0.mk (blk_below (g := gb200) (o := .cells #[.slice A0_0 l0_0.length c0_0, .int .i64 a0_1, .int .i64 a0_2] 60 (0, 0)) B8x16_ hb); have n5_ := Aside0.mk (blk_below (g := gb214) (o := .cells #[.slice Ao20 t207.length co20, .int .i64 t210, .int .i64 t211] 64 (0, 0)) B8x18_ hb); have n6_ := Aside0.mk (blk_below (g := gb220) (o := .cells #[.slice Ao26 t215.length co26, .int .i64 t218, .int .i64 t219] 64 (0, 0)) B8x20_ hb); have n7_ := Aside0.mk (blk_below (g := gb228) (o := .cells #[.slice Ao32 t221.length co32, .int .i64 t224, .int .i64 t225] 64 (0, 0)) B8x11_ hb); have n8_ := Aside0.mk (below_step B8x0_ hb); clear HO204; clear HO209; clear HO217; clear HO223; clear BK200; clear BK214; clear BK220; clear BK228; clear HB; have HO204 := n0_; have HO209 := n1_; have HO217 := n2_; have HO223 := n3_; have BK200 := n4_; have BK214 := n5_; have BK220 := n6_; have BK228 := n7_; have HB := n8_; clear n0_ n1_ n2_ n3_ n4_ n5_ n6_ n7_ n8_; (try clear hb); (try clear hb2); (try clear hk); (try clear hi)))
    go_meet
    case rel => exact ⟨_, (true), (be_), H', ⟨by first | omega | exact Nat.le_refl _⟩, ⟨by (with_reducible repeat (first | apply Kd.R_alloc | apply Kd.R_drewN | apply Kd.R_drew)); exact Kd.R_mono HO209.out (fun _ hk => ⟨hk.1.2, hk.2⟩)⟩, ⟨by (with_reducible repeat (first | apply Kd.R_alloc | apply Kd.R_drewN | apply Kd.R_drew)); exact Kd.R_mono HO217.out (fun _ hk => ⟨hk.1.2, hk.2⟩)⟩, ⟨by (with_reducible repeat (first | apply Kd.R_alloc | apply Kd.R_drewN | apply Kd.R_drew)); exact Kd.R_mono HO223.out (fun _ hk => ⟨hk.1.2, hk.2⟩)⟩, ⟨by (with_reducible repeat (first | refine blk_drewN ?_ _ | refine blk_drew ?_ | refine blk_alloc ?_ _)); exact BK200.out⟩, ⟨by (with_reducible repeat (first | refine blk_drewN ?_ _ | refine blk_drew ?_ | refine blk_alloc ?_ _)); exact BK214.out⟩, ⟨by (with_reducible repeat (first | refine blk_drewN ?_ _ | refine blk_drew ?_ | refine blk_alloc ?_ _)); exact BK220.out⟩, ⟨by (with_reducible repeat (first | refine blk_drewN ?_ _ | refine blk_drew ?_ | refine blk_alloc ?_ _)); exact BK228.out⟩, ⟨by repeat (first | (with_reducible first | exact HB.out | apply below_alloc | apply pw_below_drewN | apply below_drew1 | refine below_set ?_ GE200.out | refine below_set ?_ GE214.out | refine below_set ?_ GE220.out | refine below_set ?_ GE228.out) | exact HB.out)⟩⟩
  case rest =>
   clear HC11
   try clear c2
   try clear p2
   try clear c3
   try clear c3b0
   try clear c4
   try clear c5
   try clear c6
   try clear c7
   try clear c21
   try clear c27
   try clear c28
   try clear c33
   try clear c34
   try clear c35
   try clear c36
   try clear c37
   try clear c38
   try clear c39
   try clear c39b0
   try clear c39b1
   try clear c40
   try clear c41
   try clear c42
   try clear c44
   try clear c45
   try clear c48
   try clear c49
   try clear c50
   try clear c52
   try clear c53
   try clear c56
   try clear c57
   try clear c58
   try clear c60
   try clear c61
   try clear hcz13_0
   try clear hcz13_1
   try clear hcz13_2
   try clear hcz15_0
   try clear hcz15_1
   try clear hcz15_2
   try clear hcz22_0
   try clear hcz22_1
   try clear hcz22_2
   try clear hcz23_0
   try clear hcz23_1
   try clear hcz23_2
   try clear hcz29_0
   try clear hcz29_1
   try clear hcz29_2
   try clear hcz36_0
   try clear hcz36_1
   try clear hcz36_2
   try clear hcz43_0
   try clear hcz43_1
   try clear hcz43_2
   try clear hcz46_0
   try clear hcz46_1
   try clear hcz46_2
   try clear hcz51_0
   try clear hcz51_1
   try clear hcz51_2
   try clear hcz54_0
   try clear hcz54_1
   try clear hcz54_2
   try clear hcz59_0
   try clear hcz59_1
   try clear hcz59_2
   try clear hcz5_0
   try clear hcz5_1
   try clear hcz5_2
   try clear hcz62_0
   try clear hcz62_1
   try clear hcz62_2
   try clear hfz13_0
   try clear hfz13_1
   try clear hfz13_2
   try clear hfz15_0
   try clear hfz15_1
   try clear hfz15_2
   try clear hfz22_0
   try clear hfz22_1
   try clear hfz22_2
   try clear hfz23_0
   try clear hfz23_1
   try clear hfz23_2
   try clear hfz29_0
   try clear hfz29_1
   try clear hfz29_2
   try clear hfz36_0
   try clear hfz36_1
   try clear hfz36_2
   try clear hfz43_0
   try clear hfz43_1
   try clear hfz43_2
   try clear hfz46_0
   try clear hfz46_1
   try clear hfz46_2
   try clear hfz51_0
   try clear hfz51_1
   try clear hfz51_2
   try clear hfz54_0
   try clear hfz54_1
   try clear hfz54_2
   try clear hfz59_0
   try clear hfz59_1
   try clear hfz59_2
   try clear hfz5_0
   try clear hfz5_1
   try clear hfz5_2
   try clear hfz62_0
   try clear hfz62_1
   try clear hfz62_2
   obtain ⟨kq, x50_10, rfl, HA, HJ10, HO_215000, HO_221000, HO_229000, BK200, BK214, BK220, BK228, HB⟩ := hcut
   cases kq with
   | zero => exact absurd HA.out (by simp [laws_FnExactTakeRing.j0])
   | succ kj10 =>
    have H := HA.out
    clear HA
    simp only [laws_FnExactTakeRing.j0] at H
    by_cases c64 : x50_10 = true
    ·subst c64
     rw [if_pos rfl] at H
     exact absurd ((Option.some.inj H).trans hr_.out) (by decide)
    ·replace c64 := Bool.eq_false_iff.mpr c64
     subst c64
     rw [if_neg (show ¬ (false = true) by decide)] at H
     replace H := Option.bind_eq_some_iff.mp H
     obtain ⟨⟨t230, t233, t234⟩, A650, H⟩ := H
     (try dsimp only at H)
     have A65 := Aside0.mk A650
     clear A650
     replace H := Option.bind_eq_some_iff.mp H
     obtain ⟨t235, A660, H⟩ := H
     (try dsimp only at H)
     have A66 := Aside0.mk A660
     clear A660
     by_cases c67 : t235 = true
     ·subst c67
      rw [if_pos rfl] at H
      replace H := Option.bind_eq_some_iff.mp H
      obtain ⟨⟨t236, t237⟩, A680, H⟩ := H
      (try dsimp only at H)
      have A68 := Aside0.mk A680
      clear A680
      have HC69 := Aside0.mk H
      clear H
      try go_wp2
      have n0_ := Aside0.mk (Kd.R_drew HO_215000.out)
      have n1_ := Aside0.mk (Kd.R_drew HO_221000.out)
      have n2_ := Aside0.mk (Kd.R_drew HO_229000.out)
      have n3_ := Aside0.mk (blk_drew BK200.out)
      have n4_ := Aside0.mk (blk_drew BK214.out)
      have n5_ := Aside0.mk (blk_drew BK220.out)
      have n6_ := Aside0.mk (blk_drew BK228.out)
      have n7_ := Aside0.mk (below_drew1 HB.out)
      clear HO_215000
      clear HO_221000
      clear HO_229000
      clear BK200
      clear BK214
      clear BK220
      clear BK228
      clear HB
      have HO_215000 := n0_
      have HO_221000 := n1_
      have HO_229000 := n2_
      have BK200 := n3_
      have BK214 := n4_
      have BK220 := n5_
      have BK228 := n6_
      have HB := n7_
      clear n0_ n1_ n2_ n3_ n4_ n5_ n6_ n7_
      refine start_ (n := 5) (S := fun w' => w'.cell? ⟨gb220, 0, none⟩ = some (.slice Ao26 t215.length co26) ∧ w'.cell? ⟨gb220, 1, none⟩ = some (.int .i64 t218) ∧ w'.cell? ⟨gb220, 2, none⟩ = some (.int .i64 t219) ∧ w'.cell? ⟨gb200, 0, none⟩ = some (.slice A0_0 l0_0.length c0_0) ∧ w'.cell? ⟨gb200, 1, none⟩ = some (.int .i64 a0_1) ∧ w'.cell? ⟨gb200, 2, none⟩ = some (.int .i64 a0_2)) (ds := []) #[false, false, false, false, false] B8x39_ rfl rfl ⟨(blk_cell BK220.out 0).trans rfl, (blk_cell BK220.out 1).trans rfl, (blk_cell BK220.out 2).trans rfl, (blk_cell BK200.out 0).trans rfl, (blk_cell BK200.out 1).trans rfl, (blk_cell BK200.out 2).trans rfl⟩ (fun hHeld => ?_)
      generalize wc.drew = w70 at HO_215000 HO_221000 HO_229000 BK200 BK214 BK220 BK228 HB hHeld ⊢
      refine take_ (i := 0) (N := some 51) (v := ?_) (a' := ?_) #[true, false, false, false, false] rfl rfl B8x39_ (fun _ _ _ h => h) (Or.inl ⟨by rfl, ?_⟩) hHeld ?_ ?_
      rotate_left
      ·rintro w' ⟨s0, s1, s2, s3, s4, s5⟩
       go_simp
       with_reducible rfl
      rotate_left
      ·simp only [Act.put, List.setIfInBounds_toArray, List.set_cons_zero, List.set_cons_succ, i64_w, i32_w]
       rfl
      refine take_ (i := 1) (N := some 52) (v := ?_) (a' := ?_) #[true, true, false, false, false] rfl rfl B8x39_ (fun _ _ _ h => h) (Or.inl ⟨by rfl, ?_⟩) hHeld ?_ ?_
      rotate_left
      ·rintro w' ⟨s0, s1, s2, s3, s4, s5⟩
       go_simp
       with_reducible rfl
      rotate_left
      ·simp only [Act.put, List.setIfInBounds_toArray, List.set_cons_zero, List.set_cons_succ, i64_w, i32_w]
       rfl
      refine one_ (i := 2) (N := some 53) #[true, true, true, false, false] rfl rfl B8x39_ (by decide) (fun K hK => ?_)
      refine goes_ Try.func37 B8x39_ rfl #[.agg #[.slice A0_0 l0_0.length c0_0, .int .i64 a0_1, .int .i64 a0_2]] (by rfl) rfl rfl B8x2_ ?_
      with_reducible refine (laws_toRing.calls kj10 _ _ l0_0 a0_1 a0_2 t230 t233 t234 _ ?side1 ?side2 A65.out).mono ?_
      (case side1 => repeat (first | exact (Kd.C_below HR0_0.out HB.out) | (with_reducible refine Kd.C_alloc ?_ _) | (with_reducible refine Kd.C_drewN ?_ _) | (with_reducible refine Kd.C_drew ?_)))
      (case side2 => exact HC0_0.out)
      rintro e w71 ⟨v231, rfl, ho0, hb⟩
      refine ⟨_, rfl, ?_⟩
      have n0_ := Aside0.mk (Kd.R_elder' B8x13_ (Kd.R_base ho0) hb)
      have n1_ := Aside0.mk (Kd.R_elder' B8x14_ (Kd.R_base ho0) hb)
      have n2_ := Aside0.mk (Kd.R_elder' B8x15_ (Kd.R_base ho0) hb)
      have n3_ := Aside0.mk (Kd.R_lower (Kd.R_new' (Kd.R_new' (Kd.R_new' ho0 (Kd.R_lt B8x13_)) (Kd.R_lt B8x14_)) (Kd.R_lt B8x15_)) (below_size B8x0_))
      have n4_ := Aside0.mk (blk_below (g := gb200) (o := .cells #[.slice A0_0 l0_0.length c0_0, .int .i64 a0_1, .int .i64 a0_2] 60 (0, 0)) B8x1_ hb)
      have n5_ := Aside0.mk (blk_below (g := gb214) (o := .cells #[.slice Ao20 t207.length co20, .int .i64 t210, .int .i64 t211] 64 (0, 0)) B8x3_ hb)
      have n6_ := Aside0.mk (blk_below (g := gb220) (o := .cells #[.slice Ao26 t215.length co26, .int .i64 t218, .int .i64 t219] 64 (0, 0)) B8x8_ hb)
      have n7_ := Aside0.mk (blk_below (g := gb228) (o := .cells #[.slice Ao32 t221.length co32, .int .i64 t224, .int .i64 t225] 64 (0, 0)) B8x9_ hb)
      have n8_ := Aside0.mk (below_step B8x0_ hb)
      clear HO_215000
      clear HO_221000
      clear HO_229000
      clear BK200
      clear BK214
      clear BK220
      clear BK228
      clear HB
      have HO_215000 := n0_
      have HO_221000 := n1_
      have HO_229000 := n2_
      have HO232 := n3_
      have BK200 := n4_
      have BK214 := n5_
      have BK220 := n6_
      have BK228 := n7_
      have HB := n8_
      clear n0_ n1_ n2_ n3_ n4_ n5_ n6_ n7_ n8_
      (try clear hb)
      (try clear hb2)
      (try clear hk)
      (try clear hi)
      (try clear ho0)
      obtain ⟨Ao72, co72, eo72⟩ := Kd.R_slice HO232.out
      (first | subst eo72 | (injection eo72 with f1_ f2_ f3_; have f4_ := f1_.symm; have f5_ := f3_.symm; clear f1_ f2_ f3_; subst f4_; subst f5_))
      refine hK.out _ _ ⟨(blk_cell BK220.out 0).trans rfl, (blk_cell BK220.out 1).trans rfl, (blk_cell BK220.out 2).trans rfl, (blk_cell BK200.out 0).trans rfl, (blk_cell BK200.out 1).trans rfl, (blk_cell BK200.out 2).trans rfl⟩ (fun hHeld => ?_)
      clear hK K
      refine norm_ (a' := ?_) ?_ ?_
      rotate_left
      ·show Act.put _ (some 53) _ = _
       simp only [Act.put, List.setIfInBounds_toArray, List.set_cons_zero, List.set_cons_succ, i64_w, i32_w]
       rfl
      refine one_ (i := 3) (N := some 54) #[true, true, true, true, false] rfl rfl B8x39_ (by decide) (fun K hK => ?_)
      refine goes_ Try.func39 B8x39_ rfl #[.agg #[.slice Ao26 t215.length co26, .int .i64 t218, .int .i64 t219], .agg #[.slice Ao72 t230.length co72, .int .i64 t233, .int .i64 t234]] (by rfl) rfl rfl B8x2_ ?_
      with_reducible refine (laws_eqRing.calls kj10 _ _ t215 t218 t219 _ _ t230 t233 t234 true _ ?side1 ?side2 ?side3 ?side4 A66.out).mono ?_
      (case side1 => repeat (first | exact (Kd.R_reads' HO_221000.out).2.2 | (with_reducible refine Kd.C_alloc ?_ _) | (with_reducible refine Kd.C_drewN ?_ _) | (with_reducible refine Kd.C_drew ?_)))
      (case side2 => exact (Kd.R_reads' HO_221000.out).2.1)
      (case side3 => repeat (first | exact (Kd.R_reads' HO232.out).2.2 | (with_reducible refine Kd.C_alloc ?_ _) | (with_reducible refine Kd.C_drewN ?_ _) | (with_reducible refine Kd.C_drew ?_)))
      (case side4 => exact (Kd.R_reads' HO232.out).2.1)
      rintro e w73 ⟨rfl, hb⟩
      refine ⟨_, rfl, ?_⟩
      have n0_ := Aside0.mk (Kd.R_below B8x13_ hb)
      have n1_ := Aside0.mk (Kd.R_below B8x14_ hb)
      have n2_ := Aside0.mk (Kd.R_below B8x15_ hb)
      have n3_ := Aside0.mk (Kd.R_below B8x38_ hb)
      have n4_ := Aside0.mk (blk_below (g := gb200) (o := .cells #[.slice A0_0 l0_0.length c0_0, .int .i64 a0_1, .int .i64 a0_2] 60 (0, 0)) B8x1_ hb)
      have n5_ := Aside0.mk (blk_below (g := gb214) (o := .cells #[.slice Ao20 t207.length co20, .int .i64 t210, .int .i64 t211] 64 (0, 0)) B8x3_ hb)
      have n6_ := Aside0.mk (blk_below (g := gb220) (o := .cells #[.slice Ao26 t215.length co26, .int .i64 t218, .int .i64 t219] 64 (0, 0)) B8x8_ hb)
      have n7_ := Aside0.mk (blk_below (g := gb228) (o := .cells #[.slice Ao32 t221.length co32, .int .i64 t224, .int .i64 t225] 64 (0, 0)) B8x9_ hb)
      have n8_ := Aside0.mk (below_step B8x0_ hb)
      clear HO_215000
      clear HO_221000
      clear HO_229000
      clear HO232
      clear BK200
      clear BK214
      clear BK220
      clear BK228
      clear HB
      have HO_215000 := n0_
      have HO_221000 := n1_
      have HO_229000 := n2_
      have HO232 := n3_
      have BK200 := n4_
      have BK214 := n5_
      have BK220 := n6_
      have BK228 := n7_
      have HB := n8_
      clear n0_ n1_ n2_ n3_ n4_ n5_ n6_ n7_ n8_
      (try clear hb)
      (try clear hb2)
      (try clear hk)
      (try clear hi)
      refine hK.out _ _ ⟨(blk_cell BK220.out 0).trans rfl, (blk_cell BK220.out 1).trans rfl, (blk_cell BK220.out 2).trans rfl, (blk_cell BK200.out 0).trans rfl, (blk_cell BK200.out 1).trans rfl, (blk_cell BK200.out 2).trans rfl⟩ (fun hHeld => ?_)
      clear hK K
      refine norm_ (a' := ?_) ?_ ?_
      rotate_left
      ·show Act.put _ (some 54) _ = _
       simp only [Act.put, List.setIfInBounds_toArray, List.set_cons_zero, List.set_cons_succ, i64_w, i32_w]
       rfl
      refine pure_ (i := 4) (N := some 55) (v := ?_) (a' := ?_) #[true, true, true, true, true] rfl rfl B8x39_ (fun _ _ _ h => h) (Or.inl ⟨by rfl, ?_⟩) ?_ ?_
      rotate_left
      ·intro w'
       go_simp
       with_reducible rfl
      rotate_left
      ·simp only [Act.put, List.setIfInBounds_toArray, List.set_cons_zero, List.set_cons_succ, i64_w, i32_w]
       rfl
      refine done_ B8x39_ ?_
      have hnb74 := NB220_200.out
      have hnc74 := NB200_220.out
      have hnb75 := NB220_214.out
      have hnc75 := NB214_220.out
      have hnb76 := NB220_228.out
      have hnc76 := NB228_220.out
      obtain ⟨hcz77_0, hcz77_1, hcz77_2⟩ := cl3 BK220.out
      obtain ⟨hfz77_0, hfz77_1, hfz77_2⟩ := fr3 BK220.out
      go_upto_region 14 with (first | ((with_reducible refine gate_callee (f := 40) rfl ?_); refine goesL_ (some 58) rfl rfl Try.func40 B8x39_ rfl #[.agg #[.slice Ao26 t215.length co26, .int .i64 t218, .int .i64 t219], .int .i64 1] rfl B8x2_ ?_; (with_reducible refine (laws_markRing.calls kj10 (fun k_ => some k_ = (.slice Ao26 t215.length co26 : Value).ownBlock) (.slice Ao26 t215.length co26) t215 t218 t219 1 t236 t237 w _ ?side1 ?side2 A68.out).mono ?_); (case side1 => repeat (first | (with_reducible first | exact HB.out | apply below_alloc | apply pw_below_drewN | apply below_drew1 | refine below_set ?_ GE200.out | refine below_set ?_ GE214.out | refine below_set ?_ GE220.out | refine below_set ?_ GE228.out) | exact HB.out)); (case side2 => exact Kd.R_tight rfl HO_221000.out); rintro e w78 ⟨rfl, hy0, hb, hkp⟩; refine ⟨_, rfl, ?_⟩; have n0_ := Aside0.mk (Kd.R_mono (ok' := fun k_ => some k_ ≠ (.slice Ao26 t215.length co26 : Value).ownBlock ∧ some k_ ≠ (.slice Ao32 t221.length co32 : Value).ownBlock ∧ some k_ ≠ (.slice Ao72 t230.length co72 : Value).ownBlock) (Kd.R_keptB (HO_215000.out) hkp (fun k_ hk_ hs_ => (hk_.1.1) hs_)) (fun k_ hk_ => ⟨hk_.1.1.1, hk_.1.1.2, hk_.1.2⟩)); have n1_ := Aside0.mk (Kd.R_reok rfl hy0 (fun k_ e_ => HO_221000.out.1 k_ e_)); have n2_ := Aside0.mk (Kd.R_mono (ok' := fun k_ => some k_ ≠ (.slice Ao20 t207.length co20 : Value).ownBlock ∧ some k_ ≠ (.slice Ao26 t215.length co26 : Value).ownBlock ∧ some k_ ≠ (.slice Ao72 t230.length co72 : Value).ownBlock) (Kd.R_keptB (HO_229000.out) hkp (fun k_ hk_ hs_ => (hk_.1.2) hs_)) (fun k_ hk_ => ⟨hk_.1.1.1, hk_.1.1.2, hk_.1.2⟩)); have n3_ := Aside0.mk (blk_kept B8x1_ hkp (fun hs_ => (fun e_ => (Kd.R_ne HO_221000.out BK200.out (by decide)) e_) hs_)); have n4_ := Aside0.mk (blk_kept B8x3_ hkp (fun hs_ => (fun e_ => (Kd.R_ne HO_221000.out BK214.out (by decide)) e_) hs_)); have n5_ := Aside0.mk (blk_kept B8x8_ hkp (fun hs_ => (fun e_ => (Kd.R_ne HO_221000.out BK220.out (by decide)) e_) hs_)); have n6_ := Aside0.mk (blk_kept B8x9_ hkp (fun hs_ => (fun e_ => (Kd.R_ne HO_221000.out BK228.out (by decide)) e_) hs_)); have n7_ := Aside0.mk (Kd.R_mono (ok' := fun k_ => some k_ ≠ (.slice Ao20 t207.length co20 : Value).ownBlock ∧ some k_ ≠ (.slice Ao26 t215.length co26 : Value).ownBlock ∧ some k_ ≠ (.slice Ao32 t221.length co32 : Value).ownBlock) (Kd.R_keptB (HO232.out) hkp (fun k_ hk_ hs_ => (hk_.1.2) hs_)) (fun k_ hk_ => ⟨hk_.1.1.1.2, hk_.1.1.2, hk_.1.2⟩)); have n8_ := Aside0.mk (hb); clear HO_215000; clear HO_221000; clear HO_229000; clear BK200; clear BK214; clear BK220; clear BK228; clear HO232; clear HB; have HO_215000 := n0_; have HO_221000 := n1_; have HO_229000 := n2_; have BK200 := n3_; have BK214 := n4_; have BK220 := n5_; have BK228 := n6_; have HO232 := n7_; have HB := n8_; clear n0_ n1_ n2_ n3_ n4_ n5_ n6_ n7_ n8_; (try clear hb); (try clear hkp); (try clear hy0)))
      (try simp only [Act.put, List.setIfInBounds_toArray, List.set_cons_zero, List.set_cons_succ])
      go_cut [76] (fun v76 wc => ∃ (kq : Nat) (x76_68 : Bool), v76 = .bool x76_68 ∧ Aside0 (laws_FnExactTakeRing.j1 kq t212 t213 x76_68 l0_0 a0_1 a0_2 t207 t210 t211 t221 t224 t225 = some r) ∧ Aside0 (kq ≤ kj10) ∧ Aside0 (Kd.R k144 144 wc w.heap.size (fun k_ => some k_ ≠ ((.slice Ao26 t215.length co26) : Value).ownBlock ∧ some k_ ≠ ((.slice Ao32 t221.length co32) : Value).ownBlock) (.slice Ao20 t207.length co20) t207) ∧ Aside0 (Kd.R k144 144 wc w.heap.size (fun k_ => some k_ ≠ ((.slice Ao20 t207.length co20) : Value).ownBlock ∧ some k_ ≠ ((.slice Ao32 t221.length co32) : Value).ownBlock) (.slice Ao26 t215.length co26) t237) ∧ Aside0 (Kd.R k144 144 wc w.heap.size (fun k_ => some k_ ≠ ((.slice Ao20 t207.length co20) : Value).ownBlock ∧ some k_ ≠ ((.slice Ao26 t215.length co26) : Value).ownBlock) (.slice Ao32 t221.length co32) t221) ∧ Aside0 (wc.heap[gb200]? = some (.cells #[(.slice A0_0 l0_0.length c0_0), .int .i64 a0_1, .int .i64 a0_2] 60 (0, 0))) ∧ Aside0 (wc.heap[gb214]? = some (.cells #[(.slice Ao20 t207.length co20), .int .i64 t210, .int .i64 t211] 64 (0, 0))) ∧ Aside0 (wc.heap[gb220]? = some (.cells #[(.slice Ao26 t215.length co26), .int .i64 t218, .int .i64 t219] 64 (0, 0))) ∧ Aside0 (wc.heap[gb228]? = some (.cells #[(.slice Ao32 t221.length co32), .int .i64 t224, .int .i64 t225] 64 (0, 0))) ∧ Aside0 (Below w.heap.size w wc))
      case first =>
       have H := HC69.out
       clear HC69
       by_cases c79 : t236 < 0
       ·rw [if_pos c79] at H
        have c79b0 : decide (t236 < 0) = true := decide_eq_true c79
        clear c79
        (first | rw [c79b0] | (simp only [i64_w, i32_w]; rw [c79b0]) | skip)
        have H' := Aside0.mk H
        clear H
        go_wp2
        go_meet
        case rel => exact ⟨_, (true), (be_), H', ⟨by have := HJ10.out; first | omega | exact Nat.le_refl _⟩, ⟨by (with_reducible repeat (first | apply Kd.R_alloc | apply Kd.R_drewN | apply Kd.R_drew)); exact Kd.R_mono HO_215000.out (fun _ hk => ⟨hk.1, hk.2.1⟩)⟩, ⟨by (with_reducible repeat (first | apply Kd.R_alloc | apply Kd.R_drewN | apply Kd.R_drew)); exact Kd.R_mono HO_221000.out (fun _ hk => ⟨hk.1.1, hk.1.2⟩)⟩, ⟨by (with_reducible repeat (first | apply Kd.R_alloc | apply Kd.R_drewN | apply Kd.R_drew)); exact Kd.R_mono HO_229000.out (fun _ hk => ⟨hk.1, hk.2.1⟩)⟩, ⟨by (with_reducible repeat (first | refine blk_drewN ?_ _ | refine blk_drew ?_ | refine blk_alloc ?_ _)); exact BK200.out⟩, ⟨by (with_reducible repeat (first | refine blk_drewN ?_ _ | refine blk_drew ?_ | refine blk_alloc ?_ _)); exact BK214.out⟩, ⟨by (with_reducible repeat (first | refine blk_drewN ?_ _ | refine blk_drew ?_ | refine blk_alloc ?_ _)); exact BK220.out⟩, ⟨by (with_reducible repeat (first | refine blk_drewN ?_ _ | refine blk_drew ?_ | refine blk_alloc ?_ _)); exact BK228.out⟩, ⟨by repeat (first | (with_reducible first | exact HB.out | apply below_alloc | apply pw_below_drewN | apply below_drew1 | refine below_set ?_ GE200.out | refine below_set ?_ GE214.out | refine below_set ?_ GE220.out | refine below_set ?_ GE228.out) | exact HB.out)⟩⟩
       ·rw [if_neg c79] at H
        have c79b0 : decide (t236 < 0) = false := decide_eq_false c79
        clear c79
        (first | rw [c79b0] | (simp only [i64_w, i32_w]; rw [c79b0]) | skip)
        replace H := Option.bind_eq_some_iff.mp H
        obtain ⟨t238, A800, H⟩ := H
        (try dsimp only at H)
        have A80 := Aside0.mk A800
        clear A800
        by_cases c81 : t238 = true
        ·subst c81
         rw [if_pos rfl] at H
         by_cases c82 : t226.toList = t212.toList
         ·rw [if_pos c82] at H
          have c82b0 : (t226.toList == t212.toList) = true := beq_iff_eq.mpr c82
          have c82b1 : (t226.toList != t212.toList) = false := bne_eq_false_iff_eq.mpr c82
          clear c82
          have H' := Aside0.mk H
          clear H
          have hnb83 := NB228_200.out
          have hnc83 := NB200_228.out
          have hnb84 := NB228_214.out
          have hnc84 := NB214_228.out
          have hnb85 := NB228_220.out
          have hnc85 := NB220_228.out
          obtain ⟨hcz86_0, hcz86_1, hcz86_2⟩ := cl3 BK228.out
          obtain ⟨hfz86_0, hfz86_1, hfz86_2⟩ := fr3 BK228.out
          have hnb87 := NB214_200.out
          have hnc87 := NB200_214.out
          have hnb88 := NB214_220.out
          have hnc88 := NB220_214.out
          obtain ⟨hcz89_0, hcz89_1, hcz89_2⟩ := cl3 BK214.out
          obtain ⟨hfz89_0, hfz89_1, hfz89_2⟩ := fr3 BK214.out
          go_wp2_with (first | (go_at_call 39; (with_reducible refine (laws_eqRing.calls kj10 _ _ t221 t224 t225 _ _ t207 t210 t211 true _ ?side1 ?side2 ?side3 ?side4 A80.out).mono ?_); (case side1 => repeat (first | exact (Kd.R_reads' HO_229000.out).2.2 | (with_reducible refine Kd.C_alloc ?_ _) | (with_reducible refine Kd.C_drewN ?_ _) | (with_reducible refine Kd.C_drew ?_))); (case side2 => exact (Kd.R_reads' HO_229000.out).2.1); (case side3 => repeat (first | exact (Kd.R_reads' HO_215000.out).2.2 | (with_reducible refine Kd.C_alloc ?_ _) | (with_reducible refine Kd.C_drewN ?_ _) | (with_reducible refine Kd.C_drew ?_))); (case side4 => exact (Kd.R_reads' HO_215000.out).2.1); rintro e w90 ⟨rfl, hb⟩; have n0_ := Aside0.mk (Kd.R_below B8x13_ hb); have n1_ := Aside0.mk (Kd.R_below B8x14_ hb); have n2_ := Aside0.mk (Kd.R_below B8x15_ hb); have n3_ := Aside0.mk (Kd.R_below B8x38_ hb); have n4_ := Aside0.mk (blk_below (g := gb200) (o := .cells #[.slice A0_0 l0_0.length c0_0, .int .i64 a0_1, .int .i64 a0_2] 60 (0, 0)) B8x1_ hb); have n5_ := Aside0.mk (blk_below (g := gb214) (o := .cells #[.slice Ao20 t207.length co20, .int .i64 t210, .int .i64 t211] 64 (0, 0)) B8x3_ hb); have n6_ := Aside0.mk (blk_below (g := gb220) (o := .cells #[.slice Ao26 t215.length co26, .int .i64 t218, .int .i64 t219] 64 (0, 0)) B8x8_ hb); have n7_ := Aside0.mk (blk_below (g := gb228) (o := .cells #[.slice Ao32 t221.length co32, .int .i64 t224, .int .i64 t225] 64 (0, 0)) B8x9_ hb); have n8_ := Aside0.mk (below_step B8x0_ hb); clear HO_215000; clear HO_221000; clear HO_229000; clear HO232; clear BK200; clear BK214; clear BK220; clear BK228; clear HB; have HO_215000 := n0_; have HO_221000 := n1_; have HO_229000 := n2_; have HO232 := n3_; have BK200 := n4_; have BK214 := n5_; have BK220 := n6_; have BK228 := n7_; have HB := n8_; clear n0_ n1_ n2_ n3_ n4_ n5_ n6_ n7_ n8_; (try clear hb); (try clear hb2); (try clear hk); (try clear hi)))
          go_meet
          case rel => exact ⟨_, ((t227 != t213)), (be_), H', ⟨by have := HJ10.out; first | omega | exact Nat.le_refl _⟩, ⟨by (with_reducible repeat (first | apply Kd.R_alloc | apply Kd.R_drewN | apply Kd.R_drew)); exact Kd.R_mono HO_215000.out (fun _ hk => ⟨hk.1, hk.2.1⟩)⟩, ⟨by (with_reducible repeat (first | apply Kd.R_alloc | apply Kd.R_drewN | apply Kd.R_drew)); exact Kd.R_mono HO_221000.out (fun _ hk => ⟨hk.1.1, hk.1.2⟩)⟩, ⟨by (with_reducible repeat (first | apply Kd.R_alloc | apply Kd.R_drewN | apply Kd.R_drew)); exact Kd.R_mono HO_229000.out (fun _ hk => ⟨hk.1, hk.2.1⟩)⟩, ⟨by (with_reducible repeat (first | refine blk_drewN ?_ _ | refine blk_drew ?_ | refine blk_alloc ?_ _)); exact BK200.out⟩, ⟨by (with_reducible repeat (first | refine blk_drewN ?_ _ | refine blk_drew ?_ | refine blk_alloc ?_ _)); exact BK214.out⟩, ⟨by (with_reducible repeat (first | refine blk_drewN ?_ _ | refine blk_drew ?_ | refine blk_alloc ?_ _)); exact BK220.out⟩, ⟨by (with_reducible repeat (first | refine blk_drewN ?_ _ | refine blk_drew ?_ | refine blk_alloc ?_ _)); exact BK228.out⟩, ⟨by repeat (first | (with_reducible first | exact HB.out | apply below_alloc | apply pw_below_drewN | apply below_drew1 | refine below_set ?_ GE200.out | refine below_set ?_ GE214.out | refine below_set ?_ GE220.out | refine below_set ?_ GE228.out) | exact HB.out)⟩⟩
         ·rw [if_neg c82] at H
          have c82b0 : (t226.toList == t212.toList) = false := beq_eq_false_iff_ne.mpr c82
          have c82b1 : (t226.toList != t212.toList) = true := bne_iff_ne.mpr c82
          have H' := Aside0.mk H
          clear H
          have hnb91 := NB228_200.out
          have hnc91 := NB200_228.out
          have hnb92 := NB228_214.out
          have hnc92 := NB214_228.out
          have hnb93 := NB228_220.out
          have hnc93 := NB220_228.out
          obtain ⟨hcz94_0, hcz94_1, hcz94_2⟩ := cl3 BK228.out
          obtain ⟨hfz94_0, hfz94_1, hfz94_2⟩ := fr3 BK228.out
          have hnb95 := NB214_200.out
          have hnc95 := NB200_214.out
          have hnb96 := NB214_220.out
          have hnc96 := NB220_214.out
          obtain ⟨hcz97_0, hcz97_1, hcz97_2⟩ := cl3 BK214.out
          obtain ⟨hfz97_0, hfz97_1, hfz97_2⟩ := fr3 BK214.out
          go_wp2_with (first | (go_at_call 39; (with_reducible refine (laws_eqRing.calls kj10 _ _ t221 t224 t225 _ _ t207 t210 t211 true _ ?side1 ?side2 ?side3 ?side4 A80.out).mono ?_); (case side1 => repeat (first | exact (Kd.R_reads' HO_229000.out).2.2 | (with_reducible refine Kd.C_alloc ?_ _) | (with_reducible refine Kd.C_drewN ?_ _) | (with_reducible refine Kd.C_drew ?_))); (case side2 => exact (Kd.R_reads' HO_229000.out).2.1); (case side3 => repeat (first | exact (Kd.R_reads' HO_215000.out).2.2 | (with_reducible refine Kd.C_alloc ?_ _) | (with_reducible refine Kd.C_drewN ?_ _) | (with_reducible refine Kd.C_drew ?_))); (case side4 => exact (Kd.R_reads' HO_215000.out).2.1); rintro e w98 ⟨rfl, hb⟩; have n0_ := Aside0.mk (Kd.R_below B8x13_ hb); have n1_ := Aside0.mk (Kd.R_below B8x14_ hb); have n2_ := Aside0.mk (Kd.R_below B8x15_ hb); have n3_ := Aside0.mk (Kd.R_below B8x38_ hb); have n4_ := Aside0.mk (blk_below (g := gb200) (o := .cells #[.slice A0_0 l0_0.length c0_0, .int .i64 a0_1, .int .i64 a0_2] 60 (0, 0)) B8x1_ hb); have n5_ := Aside0.mk (blk_below (g := gb214) (o := .cells #[.slice Ao20 t207.length co20, .int .i64 t210, .int .i64 t211] 64 (0, 0)) B8x3_ hb); have n6_ := Aside0.mk (blk_below (g := gb220) (o := .cells #[.slice Ao26 t215.length co26, .int .i64 t218, .int .i64 t219] 64 (0, 0)) B8x8_ hb); have n7_ := Aside0.mk (blk_below (g := gb228) (o := .cells #[.slice Ao32 t221.length co32, .int .i64 t224, .int .i64 t225] 64 (0, 0)) B8x9_ hb); have n8_ := Aside0.mk (below_step B8x0_ hb); clear HO_215000; clear HO_221000; clear HO_229000; clear HO232; clear BK200; clear BK214; clear BK220; clear BK228; clear HB; have HO_215000 := n0_; have HO_221000 := n1_; have HO_229000 := n2_; have HO232 := n3_; have BK200 := n4_; have BK214 := n5_; have BK220 := n6_; have BK228 := n7_; have HB := n8_; clear n0_ n1_ n2_ n3_ n4_ n5_ n6_ n7_ n8_; (try clear hb); (try clear hb2); (try clear hk); (try clear hi)))
          go_meet
          case rel => exact ⟨_, (true), (be_), H', ⟨by have := HJ10.out; first | omega | exact Nat.le_refl _⟩, ⟨by (with_reducible repeat (first | apply Kd.R_alloc | apply Kd.R_drewN | apply Kd.R_drew)); exact Kd.R_mono HO_215000.out (fun _ hk => ⟨hk.1, hk.2.1⟩)⟩, ⟨by (with_reducible repeat (first | apply Kd.R_alloc | apply Kd.R_drewN | apply Kd.R_drew)); exact Kd.R_mono HO_221000.out (fun _ hk => ⟨hk.1.1, hk.1.2⟩)⟩, ⟨by (with_reducible repeat (first | apply Kd.R_alloc | apply Kd.R_drewN | apply Kd.R_drew)); exact Kd.R_mono HO_229000.out (fun _ hk => ⟨hk.1, hk.2.1⟩)⟩, ⟨by (with_reducible repeat (first | refine blk_drewN ?_ _ | refine blk_drew ?_ | refine blk_alloc ?_ _)); exact BK200.out⟩, ⟨by (with_reducible repeat (first | refine blk_drewN ?_ _ | refine blk_drew ?_ | refine blk_alloc ?_ _)); exact BK214.out⟩, ⟨by (with_reducible repeat (first | refine blk_drewN ?_ _ | refine blk_drew ?_ | refine blk_alloc ?_ _)); exact BK220.out⟩, ⟨by (with_reducible repeat (first | refine blk_drewN ?_ _ | refine blk_drew ?_ | refine blk_alloc ?_ _)); exact BK228.out⟩, ⟨by repeat (first | (with_reducible first | exact HB.out | apply below_alloc | apply pw_below_drewN | apply below_drew1 | refine below_set ?_ GE200.out | refine below_set ?_ GE214.out | refine below_set ?_ GE220.out | refine below_set ?_ GE228.out) | exact HB.out)⟩⟩
        ·replace c81 := Bool.eq_false_iff.mpr c81
         subst c81
         rw [if_neg (show ¬ (false = true) by decide)] at H
         have H' := Aside0.mk H
         clear H
         have hnb99 := NB228_200.out
         have hnc99 := NB200_228.out
         have hnb100 := NB228_214.out
         have hnc100 := NB214_228.out
         have hnb101 := NB228_220.out
         have hnc101 := NB220_228.out
         obtain ⟨hcz102_0, hcz102_1, hcz102_2⟩ := cl3 BK228.out
         obtain ⟨hfz102_0, hfz102_1, hfz102_2⟩ := fr3 BK228.out
         have hnb103 := NB214_200.out
         have hnc103 := NB200_214.out
         have hnb104 := NB214_220.out
         have hnc104 := NB220_214.out
         obtain ⟨hcz105_0, hcz105_1, hcz105_2⟩ := cl3 BK214.out
         obtain ⟨hfz105_0, hfz105_1, hfz105_2⟩ := fr3 BK214.out
         go_wp2_with (first | (go_at_call 39; (with_reducible refine (laws_eqRing.calls kj10 _ _ t221 t224 t225 _ _ t207 t210 t211 false _ ?side1 ?side2 ?side3 ?side4 A80.out).mono ?_); (case side1 => repeat (first | exact (Kd.R_reads' HO_229000.out).2.2 | (with_reducible refine Kd.C_alloc ?_ _) | (with_reducible refine Kd.C_drewN ?_ _) | (with_reducible refine Kd.C_drew ?_))); (case side2 => exact (Kd.R_reads' HO_229000.out).2.1); (case side3 => repeat (first | exact (Kd.R_reads' HO_215000.out).2.2 | (with_reducible refine Kd.C_alloc ?_ _) | (with_reducible refine Kd.C_drewN ?_ _) | (with_reducible refine Kd.C_drew ?_))); (case side4 => exact (Kd.R_reads' HO_215000.out).2.1); rintro e w106 ⟨rfl, hb⟩; have n0_ := Aside0.mk (Kd.R_below B8x13_ hb); have n1_ := Aside0.mk (Kd.R_below B8x14_ hb); have n2_ := Aside0.mk (Kd.R_below B8x15_ hb); have n3_ := Aside0.mk (Kd.R_below B8x38_ hb); have n4_ := Aside0.mk (blk_below (g := gb200) (o := .cells #[.slice A0_0 l0_0.length c0_0, .int .i64 a0_1, .int .i64 a0_2] 60 (0, 0)) B8x1_ hb); have n5_ := Aside0.mk (blk_below (g := gb214) (o := .cells #[.slice Ao20 t207.length co20, .int .i64 t210, .int .i64 t211] 64 (0, 0)) B8x3_ hb); have n6_ := Aside0.mk (blk_below (g := gb220) (o := .cells #[.slice Ao26 t215.length co26, .int .i64 t218, .int .i64 t219] 64 (0, 0)) B8x8_ hb); have n7_ := Aside0.mk (blk_below (g := gb228) (o := .cells #[.slice Ao32 t221.length co32, .int .i64 t224, .int .i64 t225] 64 (0, 0)) B8x9_ hb); have n8_ := Aside0.mk (below_step B8x0_ hb); clear HO_215000; clear HO_221000; clear HO_229000; clear HO232; clear BK200; clear BK214; clear BK220; clear BK228; clear HB; have HO_215000 := n0_; have HO_221000 := n1_; have HO_229000 := n2_; have HO232 := n3_; have BK200 := n4_; have BK214 := n5_; have BK220 := n6_; have BK228 := n7_; have HB := n8_; clear n0_ n1_ n2_ n3_ n4_ n5_ n6_ n7_ n8_; (try clear hb); (try clear hb2); (try clear hk); (try clear hi)))
         go_meet
         case rel => exact ⟨_, (true), (be_), H', ⟨by have := HJ10.out; first | omega | exact Nat.le_refl _⟩, ⟨by (with_reducible repeat (first | apply Kd.R_alloc | apply Kd.R_drewN | apply Kd.R_drew)); exact Kd.R_mono HO_215000.out (fun _ hk => ⟨hk.1, hk.2.1⟩)⟩, ⟨by (with_reducible repeat (first | apply Kd.R_alloc | apply Kd.R_drewN | apply Kd.R_drew)); exact Kd.R_mono HO_221000.out (fun _ hk => ⟨hk.1.1, hk.1.2⟩)⟩, ⟨by (with_reducible repeat (first | apply Kd.R_alloc | apply Kd.R_drewN | apply Kd.R_drew)); exact Kd.R_mono HO_229000.out (fun _ hk => ⟨hk.1, hk.2.1⟩)⟩, ⟨by (with_reducible repeat (first | refine blk_drewN ?_ _ | refine blk_drew ?_ | refine blk_alloc ?_ _)); exact BK200.out⟩, ⟨by (with_reducible repeat (first | refine blk_drewN ?_ _ | refine blk_drew ?_ | refine blk_alloc ?_ _)); exact BK214.out⟩, ⟨by (with_reducible repeat (first | refine blk_drewN ?_ _ | refine blk_drew ?_ | refine blk_alloc ?_ _)); exact BK220.out⟩, ⟨by (with_reducible repeat (first | refine blk_drewN ?_ _ | refine blk_drew ?_ | refine blk_alloc ?_ _)); exact BK228.out⟩, ⟨by repeat (first | (with_reducible first | exact HB.out | apply below_alloc | apply pw_below_drewN | apply below_drew1 | refine below_set ?_ GE200.out | refine below_set ?_ GE214.out | refine below_set ?_ GE220.out | refine below_set ?_ GE228.out) | exact HB.out)⟩⟩
      case rest =>
       clear HC69
       try clear c1
       try clear c2
       try clear p2
       try clear c3
       try clear c3b0
       try clear c4
       try clear c5
       try clear c6
       try clear c7
       try clear c8
       try clear c9
       try clear c10
       try clear c21
       try clear c27
       try clear c28
       try clear c33
       try clear c34
       try clear c35
       try clear c36
       try clear c37
       try clear c38
       try clear c39
       try clear c39b0
       try clear c39b1
       try clear c40
       try clear c41
       try clear c42
       try clear c44
       try clear c45
       try clear c48
       try clear c49
       try clear c50
       try clear c52
       try clear c53
       try clear c56
       try clear c57
       try clear c58
       try clear c60
       try clear c61
       try clear c64
       try clear c67
       try clear c74
       try clear c75
       try clear c76
       try clear c79
       try clear c79b0
       try clear c81
       try clear c82
       try clear c82b0
       try clear c82b1
       try clear c83
       try clear c84
       try clear c85
       try clear c87
       try clear c88
       try clear c91
       try clear c92
       try clear c93
       try clear c95
       try clear c96
       try clear c99
       try clear c100
       try clear c101
       try clear c103
       try clear c104
       try clear hcz102_0
       try clear hcz102_1
       try clear hcz102_2
       try clear hcz105_0
       try clear hcz105_1
       try clear hcz105_2
       try clear hcz13_0
       try clear hcz13_1
       try clear hcz13_2
       try clear hcz15_0
       try clear hcz15_1
       try clear hcz15_2
       try clear hcz22_0
       try clear hcz22_1
       try clear hcz22_2
       try clear hcz23_0
       try clear hcz23_1
       try clear hcz23_2
       try clear hcz29_0
       try clear hcz29_1
       try clear hcz29_2
       try clear hcz36_0
       try clear hcz36_1
       try clear hcz36_2
       try clear hcz43_0
       try clear hcz43_1
       try clear hcz43_2
       try clear hcz46_0
       try clear hcz46_1
       try clear hcz46_2
       try clear hcz51_0
       try clear hcz51_1
       try clear hcz51_2
       try clear hcz54_0
       try clear hcz54_1
       try clear hcz54_2
       try clear hcz59_0
       try clear hcz59_1
       try clear hcz59_2
       try clear hcz5_0
       try clear hcz5_1
       try clear hcz5_2
       try clear hcz62_0
       try clear hcz62_1
       try clear hcz62_2
       try clear hcz77_0
       try clear hcz77_1
       try clear hcz77_2
       try clear hcz86_0
       try clear hcz86_1
       try clear hcz86_2
       try clear hcz89_0
       try clear hcz89_1
       try clear hcz89_2
       try clear hcz94_0
       try clear hcz94_1
       try clear hcz94_2
       try clear hcz97_0
       try clear hcz97_1
       try clear hcz97_2
       try clear hfz102_0
       try clear hfz102_1
       try clear hfz102_2
       try clear hfz105_0
       try clear hfz105_1
       try clear hfz105_2
       try clear hfz13_0
       try clear hfz13_1
       try clear hfz13_2
       try clear hfz15_0
       try clear hfz15_1
       try clear hfz15_2
       try clear hfz22_0
       try clear hfz22_1
       try clear hfz22_2
       try clear hfz23_0
       try clear hfz23_1
       try clear hfz23_2
       try clear hfz29_0
       try clear hfz29_1
       try clear hfz29_2
       try clear hfz36_0
       try clear hfz36_1
       try clear hfz36_2
       try clear hfz43_0
       try clear hfz43_1
       try clear hfz43_2
       try clear hfz46_0
       try clear hfz46_1
       try clear hfz46_2
       try clear hfz51_0
       try clear hfz51_1
       try clear hfz51_2
       try clear hfz54_0
       try clear hfz54_1
       try clear hfz54_2
       try clear hfz59_0
       try clear hfz59_1
       try clear hfz59_2
       try clear hfz5_0
       try clear hfz5_1
       try clear hfz5_2
       try clear hfz62_0
       try clear hfz62_1
       try clear hfz62_2
       try clear hfz77_0
       try clear hfz77_1
       try clear hfz77_2
       try clear hfz86_0
       try clear hfz86_1
       try clear hfz86_2
       try clear hfz89_0
       try clear hfz89_1
       try clear hfz89_2
       try clear hfz94_0
       try clear hfz94_1
       try clear hfz94_2
       try clear hfz97_0
       try clear hfz97_1
       try clear hfz97_2
       try clear p2
       obtain ⟨kq, x76_68, rfl, HA, HJ68, HO_215000, HO_221000, HO_229000, BK200, BK214, BK220, BK228, HB⟩ := hcut
       have hl221000_68 := (Kd.R_reads' HO_221000.out).1
       rw [hl221000_68] at HO_221000
       (try simp only [hl221000_68])
       (try simp only [hl221000_68] at BK200)
       (try simp only [hl221000_68] at BK214)
       (try simp only [hl221000_68] at BK220)
       (try simp only [hl221000_68] at BK228)
       (try simp only [hl221000_68] at HO_215000)
       (try simp only [hl221000_68] at HO_229000)
       cases kq with
       | zero => exact absurd HA.out (by simp [laws_FnExactTakeRing.j1])
       | succ kj68 =>
        have H := HA.out
        clear HA
        simp only [laws_FnExactTakeRing.j1] at H
        by_cases c107 : x76_68 = true
        ·subst c107
         rw [if_pos rfl] at H
         exact absurd ((Option.some.inj H).trans hr_.out) (by decide)
        ·replace c107 := Bool.eq_false_iff.mpr c107
         subst c107
         rw [if_neg (show ¬ (false = true) by decide)] at H
         replace H := Option.bind_eq_some_iff.mp H
         obtain ⟨⟨t239, t240⟩, A1080, H⟩ := H
         (try dsimp only at H)
         have A108 := Aside0.mk A1080
         clear A1080
         replace H := Option.bind_eq_some_iff.mp H
         obtain ⟨t241, A1090, H⟩ := H
         (try dsimp only at H)
         have A109 := Aside0.mk A1090
         clear A1090
         by_cases c110 : t241 < 0
         ·rw [if_pos c110] at H
          have c110b0 : decide (t241 < 0) = true := decide_eq_true c110
          clear c110
          exact absurd ((Option.some.inj H).trans hr_.out) (by decide)
         ·rw [if_neg c110] at H
          have c110b0 : decide (t241 < 0) = false := decide_eq_false c110
          clear c110
          by_cases c111 : t241 = t239
          ·rw [if_pos c111] at H
           have c111b0 : (t241 == t239) = true := beq_iff_eq.mpr c111
           have c111b1 : (t241 != t239) = false := bne_eq_false_iff_eq.mpr c111
           clear c111
           replace H := Option.bind_eq_some_iff.mp H
           obtain ⟨⟨t242, t245, t246⟩, A1120, H⟩ := H
           (try dsimp only at H)
           have A112 := Aside0.mk A1120
           clear A1120
           replace H := Option.bind_eq_some_iff.mp H
           obtain ⟨⟨t247, t250, t251, t252, t253⟩, A1130, H⟩ := H
           (try dsimp only at H)
           have A113 := Aside0.mk A1130
           clear A1130
           have HC114 := Aside0.mk H
           clear H
           have hnb115 := NB228_200.out
           have hnc115 := NB200_228.out
           have hnb116 := NB228_214.out
           have hnc116 := NB214_228.out
           have hnb117 := NB228_220.out
           have hnc117 := NB220_228.out
           obtain ⟨hcz118_0, hcz118_1, hcz118_2⟩ := cl3 BK228.out
           obtain ⟨hfz118_0, hfz118_1, hfz118_2⟩ := fr3 BK228.out
           go_upto_region 25 with (first | ((with_reducible refine gate_callee (f := 40) rfl ?_); refine goesL_ (some 79) rfl rfl Try.func40 B8x39_ rfl #[.agg #[.slice Ao32 t221.length co32, .int .i64 t224, .int .i64 t225], .int .i64 1] rfl B8x2_ ?_; (with_reducible refine (laws_markRing.calls kj68 (fun k_ => some k_ = (.slice Ao32 t221.length co32 : Value).ownBlock) (.slice Ao32 t221.length co32) t221 t224 t225 1 t239 t240 w _ ?side1 ?side2 A108.out).mono ?_); (case side1 => repeat (first | (with_reducible first | exact HB.out | apply below_alloc | apply pw_below_drewN | apply below_drew1 | refine below_set ?_ GE200.out | refine below_set ?_ GE214.out | refine below_set ?_ GE220.out | refine below_set ?_ GE228.out) | exact HB.out)); (case side2 => exact Kd.R_tight rfl HO_229000.out); rintro e w119 ⟨rfl, hy0, hb, hkp⟩; refine ⟨_, rfl, ?_⟩; have n0_ := Aside0.mk (Kd.R_mono (ok' := fun k_ => some k_ ≠ (.slice Ao26 t237.length co26 : Value).ownBlock ∧ some k_ ≠ (.slice Ao32 t221.length co32 : Value).ownBlock) (Kd.R_keptB (HO_215000.out) hkp (fun k_ hk_ hs_ => (hk_.2) hs_)) (fun k_ hk_ => ⟨hk_.1.1, hk_.1.2⟩)); have n1_ := Aside0.mk (Kd.R_mono (ok' := fun k_ => some k_ ≠ (.slice Ao20 t207.length co20 : Value).ownBlock ∧ some k_ ≠ (.slice Ao32 t221.length co32 : Value).ownBlock) (Kd.R_keptB (HO_221000.out) hkp (fun k_ hk_ hs_ => (hk_.2) hs_)) (fun k_ hk_ => ⟨hk_.1.1, hk_.1.2⟩)); have n2_ := Aside0.mk (Kd.R_reok rfl hy0 (fun k_ e_ => HO_229000.out.1 k_ e_)); have n3_ := Aside0.mk (blk_kept B8x1_ hkp (fun hs_ => (fun e_ => (Kd.R_ne HO_229000.out BK200.out (by decide)) e_) hs_)); have n4_ := Aside0.mk (blk_kept B8x3_ hkp (fun hs_ => (fun e_ => (Kd.R_ne HO_229000.out BK214.out (by decide)) e_) hs_)); have n5_ := Aside0.mk (blk_kept B8x8_ hkp (fun hs_ => (fun e_ => (Kd.R_ne HO_229000.out BK220.out (by decide)) e_) hs_)); have n6_ := Aside0.mk (blk_kept B8x9_ hkp (fun hs_ => (fun e_ => (Kd.R_ne HO_229000.out BK228.out (by decide)) e_) hs_)); have n7_ := Aside0.mk (hb); clear HO_215000; clear HO_221000; clear HO_229000; clear BK200; clear BK214; clear BK220; clear BK228; clear HB; have HO_215000 := n0_; have HO_221000 := n1_; have HO_229000 := n2_; have BK200 := n3_; have BK214 := n4_; have BK220 := n5_; have BK228 := n6_; have HB := n7_; clear n0_ n1_ n2_ n3_ n4_ n5_ n6_ n7_; (try clear hb); (try clear hkp); (try clear hy0); obtain ⟨hcz120_0, hcz120_1, hcz120_2⟩ := cl3 BK228.out; obtain ⟨hfz120_0, hfz120_1, hfz120_2⟩ := fr3 BK228.out) | ((with_reducible refine gate_callee (f := 41) rfl ?_); refine goesL_ (some 82) rfl rfl Try.func41 B8x39_ rfl #[.agg #[.slice Ao32 t240.length co32, .int .i64 t224, .int .i64 t225], .int .i64 1] rfl (by (try simp only [List.map_toArray, List.map_cons, List.map_nil]); first | done | (rw [show t240.length = t221.length from (Kd.R_reads' HO_229000.out).1.symm] <;> rfl) | rfl | (simp only [List.length_drop, List.length_take]; rfl)) ?_; (with_reducible refine (laws_heldRing.calls kj68 _ _ t240 t224 t225 1 t241 _ ?side1 ?side2 A109.out).mono ?_); (case side1 => repeat (first | exact (Kd.R_reads' HO_229000.out).2.2 | (with_reducible refine Kd.C_alloc ?_ _) | (with_reducible refine Kd.C_drewN ?_ _) | (with_reducible refine Kd.C_drew ?_))); (case side2 => rw [show t240.length = t221.length from (Kd.R_reads' HO_229000.out).1.symm]; exact (Kd.R_reads' HO_229000.out).2.1); rintro e w121 ⟨rfl, hb⟩; refine ⟨_, rfl, ?_⟩; have n0_ := Aside0.mk (Kd.R_below B8x13_ hb); have n1_ := Aside0.mk (Kd.R_below B8x14_ hb); have n2_ := Aside0.mk (Kd.R_below B8x15_ hb); have n3_ := Aside0.mk (blk_below (g := gb200) (o := .cells #[.slice A0_0 l0_0.length c0_0, .int .i64 a0_1, .int .i64 a0_2] 60 (0, 0)) B8x1_ hb); have n4_ := Aside0.mk (blk_below (g := gb214) (o := .cells #[.slice Ao20 t207.length co20, .int .i64 t210, .int .i64 t211] 64 (0, 0)) B8x3_ hb); have n5_ := Aside0.mk (blk_below (g := gb220) (o := .cells #[.slice Ao26 t237.length co26, .int .i64 t218, .int .i64 t219] 64 (0, 0)) B8x8_ hb); have n6_ := Aside0.mk (blk_below (g := gb228) (o := .cells #[.slice Ao32 t221.length co32, .int .i64 t224, .int .i64 t225] 64 (0, 0)) B8x9_ hb); have n7_ := Aside0.mk (below_step B8x0_ hb); clear HO_215000; clear HO_221000; clear HO_229000; clear BK200; clear BK214; clear BK220; clear BK228; clear HB; have HO_215000 := n0_; have HO_221000 := n1_; have HO_229000 := n2_; have BK200 := n3_; have BK214 := n4_; have BK220 := n5_; have BK228 := n6_; have HB := n7_; clear n0_ n1_ n2_ n3_ n4_ n5_ n6_ n7_; (try clear hb); (try clear hb2); (try clear hk); (try clear hi); have hnb122 := NB200_214.out; have hnc122 := NB214_200.out; have hnb123 := NB200_220.out; have hnc123 := NB220_200.out; obtain ⟨hcz124_0, hcz124_1, hcz124_2⟩ := cl3 BK200.out; obtain ⟨hfz124_0, hfz124_1, hfz124_2⟩ := fr3 BK200.out) | ((with_reducible refine gate_callee (f := 37) rfl ?_); refine goesL_ (some 90) rfl rfl Try.func37 B8x39_ rfl #[.agg #[.slice A0_0 l0_0.length c0_0, .int .i64 a0_1, .int .i64 a0_2]] rfl B8x2_ ?_; (with_reducible refine (laws_toRing.calls kj68 _ _ l0_0 a0_1 a0_2 t242 t245 t246 _ ?side1 ?side2 A112.out).mono ?_); (case side1 => repeat (first | exact (Kd.C_below HR0_0.out HB.out) | (with_reducible refine Kd.C_alloc ?_ _) | (with_reducible refine Kd.C_drewN ?_ _) | (with_reducible refine Kd.C_drew ?_))); (case side2 => exact HC0_0.out); rintro e w125 ⟨v243, rfl, ho0, hb⟩; refine ⟨_, rfl, ?_⟩; have n0_ := Aside0.mk (Kd.R_elder' B8x13_ (Kd.R_base ho0) hb); have n1_ := Aside0.mk (Kd.R_elder' B8x14_ (Kd.R_base ho0) hb); have n2_ := Aside0.mk (Kd.R_elder' B8x15_ (Kd.R_base ho0) hb); have n3_ := Aside0.mk (Kd.R_lower (Kd.R_new' (Kd.R_new' (Kd.R_new' ho0 (Kd.R_lt B8x13_)) (Kd.R_lt B8x14_)) (Kd.R_lt B8x15_)) (below_size B8x0_)); have n4_ := Aside0.mk (blk_below (g := gb200) (o := .cells #[.slice A0_0 l0_0.length c0_0, .int .i64 a0_1, .int .i64 a0_2] 60 (0, 0)) B8x1_ hb); have n5_ := Aside0.mk (blk_below (g := gb214) (o := .cells #[.slice Ao20 t207.length co20, .int .i64 t210, .int .i64 t211] 64 (0, 0)) B8x3_ hb); have n6_ := Aside0.mk (blk_below (g := gb220) (o := .cells #[.slice Ao26 t237.length co26, .int .i64 t218, .int .i64 t219] 64 (0, 0)) B8x8_ hb); have n7_ := Aside0.mk (blk_below (g := gb228) (o := .cells #[.slice Ao32 t221.length co32, .int .i64 t224, .int .i64 t225] 64 (0, 0)) B8x9_ hb); have n8_ := Aside0.mk (below_step B8x0_ hb); clear HO_215000; clear HO_221000; clear HO_229000; clear BK200; clear BK214; clear BK220; clear BK228; clear HB; have HO_215000 := n0_; have HO_221000 := n1_; have HO_229000 := n2_; have HO244 := n3_; have BK200 := n4_; have BK214 := n5_; have BK220 := n6_; have BK228 := n7_; have HB := n8_; clear n0_ n1_ n2_ n3_ n4_ n5_ n6_ n7_ n8_; (try clear hb); (try clear hb2); (try clear hk); (try clear hi); (try clear ho0); obtain ⟨Ao126, co126, eo126⟩ := Kd.R_slice HO244.out; subst eo126) | ((with_reducible refine gate_callee (f := 38) rfl ?_); refine goesL_ (some 91) rfl rfl Try.func38 B8x39_ rfl #[.agg #[.slice Ao126 t242.length co126, .int .i64 t245, .int .i64 t246]] rfl B8x2_ ?_; (with_reducible refine (impl_TakeRing.calls kj68 _ _ t242 t245 t246 t247 t250 t251 t252 t253 _ ?side1 ?side2 A113.out).mono ?_); (case side1 => repeat (first | exact (Kd.R_reads' HO244.out).2.2 | (with_reducible refine Kd.C_alloc ?_ _) | (with_reducible refine Kd.C_drewN ?_ _) | (with_reducible refine Kd.C_drew ?_))); (case side2 => exact (Kd.R_reads' HO244.out).2.1); rintro e w127 ⟨v248, rfl, ho0, hb⟩; refine ⟨_, rfl, ?_⟩; have n0_ := Aside0.mk (Kd.R_elder' B8x13_ (Kd.R_base ho0) hb); have n1_ := Aside0.mk (Kd.R_elder' B8x14_ (Kd.R_base ho0) hb); have n2_ := Aside0.mk (Kd.R_elder' B8x15_ (Kd.R_base ho0) hb); have n3_ := Aside0.mk (Kd.R_elder' B8x41_ (Kd.R_base ho0) hb); have n4_ := Aside0.mk (Kd.R_lower (Kd.R_new' (Kd.R_new' (Kd.R_new' (Kd.R_new' ho0 (Kd.R_lt B8x13_)) (Kd.R_lt B8x14_)) (Kd.R_lt B8x15_)) (Kd.R_lt B8x41_)) (below_size B8x0_)); have n5_ := Aside0.mk (blk_below (g := gb200) (o := .cells #[.slice A0_0 l0_0.length c0_0, .int .i64 a0_1, .int .i64 a0_2] 60 (0, 0)) B8x1_ hb); have n6_ := Aside0.mk (blk_below (g := gb214) (o := .cells #[.slice Ao20 t207.length co20, .int .i64 t210, .int .i64 t211] 64 (0, 0)) B8x3_ hb); have n7_ := Aside0.mk (blk_below (g := gb220) (o := .cells #[.slice Ao26 t237.length co26, .int .i64 t218, .int .i64 t219] 64 (0, 0)) B8x8_ hb); have n8_ := Aside0.mk (blk_below (g := gb228) (o := .cells #[.slice Ao32 t221.length co32, .int .i64 t224, .int .i64 t225] 64 (0, 0)) B8x9_ hb); have n9_ := Aside0.mk (below_step B8x0_ hb); clear HO_215000; clear HO_221000; clear HO_229000; clear HO244; clear BK200; clear BK214; clear BK220; clear BK228; clear HB; have HO_215000 := n0_; have HO_221000 := n1_; have HO_229000 := n2_; have HO244 := n3_; have HO249 := n4_; have BK200 := n5_; have BK214 := n6_; have BK220 := n7_; have BK228 := n8_; have HB := n9_; clear n0_ n1_ n2_ n3_ n4_ n5_ n6_ n7_ n8_ n9_; (try clear hb); (try clear hb2); (try clear hk); (try clear hi); (try clear ho0)) | ((with_reducible refine gate_dst (N := 14) rfl ?_); refine box_event ?hg (N := 14) ?hd (cs := #[.slice none 0 0, .int .i64 0, .int .i64 0]) (t := 64) ?hr ?_; (case hd => rfl); (case hg => rfl); (case hr => first | (go_simp; done) | (go_simp; rfl)); intro gb254 hg w128 hbox hb; have n0_ := Aside0.mk (Kd.R_below B8x13_ hb); have n1_ := Aside0.mk (Kd.R_below B8x14_ hb); have n2_ := Aside0.mk (Kd.R_below B8x15_ hb); have n3_ := Aside0.mk (Kd.R_below B8x41_ hb); have n4_ := Aside0.mk (Kd.R_below (by (with_reducible repeat (first | apply Kd.R_alloc | apply Kd.R_drewN | apply Kd.R_drew)); exact HO249.out) hb); have n5_ := Aside0.mk (blk_below (g := gb200) (o := .cells #[.slice A0_0 l0_0.length c0_0, .int .i64 a0_1, .int .i64 a0_2] 60 (0, 0)) B8x1_ hb); have n6_ := Aside0.mk (blk_below (g := gb214) (o := .cells #[.slice Ao20 t207.length co20, .int .i64 t210, .int .i64 t211] 64 (0, 0)) B8x3_ hb); have n7_ := Aside0.mk (blk_below (g := gb220) (o := .cells #[.slice Ao26 t237.length co26, .int .i64 t218, .int .i64 t219] 64 (0, 0)) B8x8_ hb); have n8_ := Aside0.mk (blk_below (g := gb228) (o := .cells #[.slice Ao32 t221.length co32, .int .i64 t224, .int .i64 t225] 64 (0, 0)) B8x9_ hb); have n9_ := Aside0.mk (below_step B8x0_ hb); have n10_ := Aside0.mk (hbox); have n11_ := Aside0.mk ((by rw [hg]; exact (below_size B8x0_) : w.heap.size ≤ gb254)); have n12_ := Aside0.mk ((by rw [hg]; exact (below_size B8x0_) : w.heap.size ≤ gb254)); have n13_ := Aside0.mk ((by rw [hg]; exact Nat.ne_of_lt (blk_lt (g := gb200) (o := .cells #[.slice A0_0 l0_0.length c0_0, .int .i64 a0_1, .int .i64 a0_2] 60 (0, 0)) B8x1_) : gb200 ≠ gb254)); have n14_ := Aside0.mk ((by rw [hg]; exact Nat.ne_of_gt (blk_lt (g := gb200) (o := .cells #[.slice A0_0 l0_0.length c0_0, .int .i64 a0_1, .int .i64 a0_2] 60 (0, 0)) B8x1_) : gb254 ≠ gb200)); have n15_ := Aside0.mk ((by rw [hg]; exact Nat.ne_of_lt (blk_lt (g := gb214) (o := .cells #[.slice Ao20 t207.length co20, .int .i64 t210, .int .i64 t211] 64 (0, 0)) B8x3_) : gb214 ≠ gb254)); have n16_ := Aside0.mk ((by rw [hg]; exact Nat.ne_of_gt (blk_lt (g := gb214) (o := .cells #[.slice Ao20 t207.length co20, .int .i64 t210, .int .i64 t211] 64 (0, 0)) B8x3_) : gb254 ≠ gb214)); have n17_ := Aside0.mk ((by rw [hg]; exact Nat.ne_of_lt (blk_lt (g := gb220) (o := .cells #[.slice Ao26 t237.length co26, .int .i64 t218, .int .i64 t219] 64 (0, 0)) B8x8_) : gb220 ≠ gb254)); have n18_ := Aside0.mk ((by rw [hg]; exact Nat.ne_of_gt (blk_lt (g := gb220) (o := .cells #[.slice Ao26 t237.length co26, .int .i64 t218, .int .i64 t219] 64 (0, 0)) B8x8_) : gb254 ≠ gb220)); have n19_ := Aside0.mk ((by rw [hg]; exact Nat.ne_of_lt (blk_lt (g := gb228) (o := .cells #[.slice Ao32 t221.length co32, .int .i64 t224, .int .i64 t225] 64 (0, 0)) B8x9_) : gb228 ≠ gb254)); have n20_ := Aside0.mk ((by rw [hg]; exact Nat.ne_of_gt (blk_lt (g := gb228) (o := .cells #[.slice Ao32 t221.length co32, .int .i64 t224, .int .i64 t225] 64 (0, 0)) B8x9_) : gb254 ≠ gb228)); clear HO_215000; clear HO_221000; clear HO_229000; clear HO244; clear HO249; clear BK200; clear BK214; clear BK220; clear BK228; clear HB; have HO_215000 := n0_; have HO_221000 := n1_; have HO_229000 := n2_; have HO244 := n3_; have HO249 := n4_; have BK200 := n5_; have BK214 := n6_; have BK220 := n7_; have BK228 := n8_; have HB := n9_; have BK254 := n10_; have GW254 := n11_; have GE254 := n12_; have NB200_254 := n13_; have NB254_200 := n14_; have NB214_254 := n15_; have NB254_214 := n16_; have NB220_254 := n17_; have NB254_220 := n18_; have NB228_254 := n19_; have NB254_228 := n20_; clear n0_ n1_ n2_ n3_ n4_ n5_ n6_ n7_ n8_ n9_ n10_ n11_ n12_ n13_ n14_ n15_ n16_ n17_ n18_ n19_ n20_; clear hb hbox hg; obtain ⟨Ao129, co129, eo129⟩ := Kd.R_slice HO249.out; subst eo129; have hnb130 := NB254_200.out; have hnc130 := NB200_254.out; have hnb131 := NB254_214.out; have hnc131 := NB214_254.out; have hnb132 := NB254_220.out; have hnc132 := NB220_254.out; have hnb133 := NB254_228.out; have hnc133 := NB228_254.out; obtain ⟨hcz134_0, hcz134_1, hcz134_2⟩ := cl3 BK254.out; obtain ⟨hfz134_0, hfz134_1, hfz134_2⟩ := fr3 BK254.out))
           (try simp only [Act.put, List.setIfInBounds_toArray, List.set_cons_zero, List.set_cons_succ])
           go_cut [108] (fun v108 wc => ∃ (kq : Nat) (x108_113 : Bool), v108 = .bool x108_113 ∧ Aside0 (laws_FnExactTakeRing.j2 kq t239 x108_113 t240 t224 t225 = some r) ∧ Aside0 (kq ≤ kj68) ∧ Aside0 (Kd.R k144 144 wc w.heap.size (fun k_ => some k_ ≠ ((.slice Ao26 t237.length co26) : Value).ownBlock ∧ some k_ ≠ ((.slice Ao32 t221.length co32) : Value).ownBlock ∧ some k_ ≠ ((.slice Ao129 t247.length co129) : Value).ownBlock) (.slice Ao20 t207.length co20) t207) ∧ Aside0 (Kd.R k144 144 wc w.heap.size (fun k_ => some k_ ≠ ((.slice Ao20 t207.length co20) : Value).ownBlock ∧ some k_ ≠ ((.slice Ao32 t221.length co32) : Value).ownBlock ∧ some k_ ≠ ((.slice Ao129 t247.length co129) : Value).ownBlock) (.slice Ao26 t237.length co26) t237) ∧ Aside0 (Kd.R k144 144 wc w.heap.size (fun k_ => some k_ ≠ ((.slice Ao20 t207.length co20) : Value).ownBlock ∧ some k_ ≠ ((.slice Ao26 t237.length co26) : Value).ownBlock ∧ some k_ ≠ ((.slice Ao129 t247.length co129) : Value).ownBlock) (.slice Ao32 t221.length co32) t240) ∧ Aside0 (Kd.R k144 144 wc w.heap.size (fun k_ => some k_ ≠ ((.slice Ao20 t207.length co20) : Value).ownBlock ∧ some k_ ≠ ((.slice Ao26 t237.length co26) : Value).ownBlock ∧ some k_ ≠ ((.slice Ao32 t221.length co32) : Value).ownBlock) (.slice Ao129 t247.length co129) t247) ∧ Aside0 (wc.heap[gb200]? = some (.cells #[(.slice A0_0 l0_0.length c0_0), .int .i64 a0_1, .int .i64 a0_2] 60 (0, 0))) ∧ Aside0 (wc.heap[gb214]? = some (.cells #[(.slice Ao20 t207.length co20), .int .i64 t210, .int .i64 t211] 64 (0, 0))) ∧ Aside0 (wc.heap[gb220]? = some (.cells #[(.slice Ao26 t237.length co26), .int .i64 t218, .int .i64 t219] 64 (0, 0))) ∧ Aside0 (wc.heap[gb228]? = some (.cells #[(.slice Ao32 t221.length co32), .int .i64 t224, .int .i64 t225] 64 (0, 0))) ∧ Aside0 (wc.heap[gb254]? = some (.cells #[(.slice Ao129 t247.length co129), .int .i64 t250, .int .i64 t251] 64 (0, 0))) ∧ Aside0 (Below w.heap.size w wc))
           case first =>
            have H := HC114.out
            clear HC114
            replace H := Option.bind_eq_some_iff.mp H
            obtain ⟨t255, A1350, H⟩ := H
            (try dsimp only at H)
            have A135 := Aside0.mk A1350
            clear A1350
            by_cases c136 : t255 = true
            ·subst c136
             rw [if_pos rfl] at H
             by_cases c137 : t252.toList = t212.toList
             ·rw [if_pos c137] at H
              have c137b0 : (t252.toList == t212.toList) = true := beq_iff_eq.mpr c137
              have c137b1 : (t252.toList != t212.toList) = false := bne_eq_false_iff_eq.mpr c137
              clear c137
              (first | rw [c137b0] | (simp only [i64_w, i32_w]; rw [c137b0]) | skip)
              have H' := Aside0.mk H
              clear H
              have hnb138 := NB254_200.out
              have hnc138 := NB200_254.out
              have hnb139 := NB254_214.out
              have hnc139 := NB214_254.out
              have hnb140 := NB254_220.out
              have hnc140 := NB220_254.out
              have hnb141 := NB254_228.out
              have hnc141 := NB228_254.out
              obtain ⟨hcz142_0, hcz142_1, hcz142_2⟩ := cl3 BK254.out
              obtain ⟨hfz142_0, hfz142_1, hfz142_2⟩ := fr3 BK254.out
              have hnb143 := NB214_200.out
              have hnc143 := NB200_214.out
              have hnb144 := NB214_220.out
              have hnc144 := NB220_214.out
              have hnb145 := NB214_228.out
              have hnc145 := NB228_214.out
              obtain ⟨hcz146_0, hcz146_1, hcz146_2⟩ := cl3 BK214.out
              obtain ⟨hfz146_0, hfz146_1, hfz146_2⟩ := fr3 BK214.out
              go_wp2_with (first | ((with_reducible refine gate_callee (f := 39) rfl ?_); refine goesL_ (some 97) rfl rfl Try.func39 B8x39_ rfl #[.agg #[.slice Ao129 t247.length co129, .int .i64 t250, .int .i64 t251], .agg #[.slice Ao20 t207.length co20, .int .i64 t210, .int .i64 t211]] rfl B8x2_ ?_; (with_reducible refine (laws_eqRing.calls kj68 _ _ t247 t250 t251 _ _ t207 t210 t211 true _ ?side1 ?side2 ?side3 ?side4 A135.out).mono ?_); (case side1 => refine (Kd.R_reads' (e := 144) (base := w.heap.size) (ok := fun k_ => ((((True ∧ some k_ ≠ (.slice Ao20 t207.length co20 : Value).ownBlock) ∧ some k_ ≠ (.slice Ao26 t237.length co26 : Value).ownBlock) ∧ some k_ ≠ (.slice Ao32 t221.length co32 : Value).ownBlock) ∧ some k_ ≠ (.slice Ao126 t242.length co126 : Value).ownBlock)) (n := t247.length) (c := co129) ?_).2.2; exact B8x5_); (case side2 => exact (Kd.R_reads' HO249.out).2.1); (case side3 => refine (Kd.R_reads' (e := 144) (base := w.heap.size) (ok := fun k_ => (((some k_ ≠ (.slice Ao26 t237.length co26 : Value).ownBlock ∧ some k_ ≠ (.slice Ao32 t221.length co32 : Value).ownBlock) ∧ some k_ ≠ (.slice Ao126 t242.length co126 : Value).ownBlock) ∧ some k_ ≠ (.slice Ao129 t247.length co129 : Value).ownBlock)) (n := t207.length) (c := co20) ?_).2.2; exact B8x4_); (case side4 => exact (Kd.R_reads' HO_215000.out).2.1); rintro e w147 ⟨rfl, hb⟩; refine ⟨_, rfl, ?_⟩; have n0_ := Aside0.mk (Kd.R_below B8x4_ hb); have n1_ := Aside0.mk (Kd.R_below B8x26_ hb); have n2_ := Aside0.mk (Kd.R_below B8x27_ hb); have n3_ := Aside0.mk (Kd.R_below B8x28_ hb); have n4_ := Aside0.mk (Kd.R_below B8x5_ hb); have n5_ := Aside0.mk (blk_below (g := gb200) (o := .cells #[.slice A0_0 l0_0.length c0_0, .int .i64 a0_1, .int .i64 a0_2] 60 (0, 0)) B8x17_ hb); have n6_ := Aside0.mk (blk_below (g := gb214) (o := .cells #[.slice Ao20 t207.length co20, .int .i64 t210, .int .i64 t211] 64 (0, 0)) B8x19_ hb); have n7_ := Aside0.mk (blk_below (g := gb220) (o := .cells #[.slice Ao26 t237.length co26, .int .i64 t218, .int .i64 t219] 64 (0, 0)) B8x21_ hb); have n8_ := Aside0.mk (blk_below (g := gb228) (o := .cells #[.slice Ao32 t221.length co32, .int .i64 t224, .int .i64 t225] 64 (0, 0)) B8x22_ hb); have n9_ := Aside0.mk (blk_below (g := gb254) (o := .cells #[.slice Ao129 t247.length co129, .int .i64 t250, .int .i64 t251] 64 (0, 0)) B8x10_ hb); have n10_ := Aside0.mk (below_step B8x25_ hb); clear HO_215000; clear HO_221000; clear HO_229000; clear HO244; clear HO249; clear BK200; clear BK214; clear BK220; clear BK228; clear BK254; clear HB; have HO_215000 := n0_; have HO_221000 := n1_; have HO_229000 := n2_; have HO244 := n3_; have HO249 := n4_; have BK200 := n5_; have BK214 := n6_; have BK220 := n7_; have BK228 := n8_; have BK254 := n9_; have HB := n10_; clear n0_ n1_ n2_ n3_ n4_ n5_ n6_ n7_ n8_ n9_ n10_; (try clear hb); (try clear hb2); (try clear hk); (try clear hi)))
              go_meet
              case rel => exact ⟨_, ((t253 != t213)), (be_), H', ⟨by have := HJ10.out; have := HJ68.out; first | omega | exact Nat.le_refl _⟩, ⟨by (try simp only [hl221000_68]); (with_reducible repeat (first | apply Kd.R_alloc | apply Kd.R_drewN | apply Kd.R_drew)); exact Kd.R_mono HO_215000.out (fun _ hk => ⟨hk.1.1.1, ⟨hk.1.1.2, hk.2⟩⟩)⟩, ⟨by (try simp only [hl221000_68]); (with_reducible repeat (first | apply Kd.R_alloc | apply Kd.R_drewN | apply Kd.R_drew)); exact Kd.R_mono HO_221000.out (fun _ hk => ⟨hk.1.1.1, ⟨hk.1.1.2, hk.2⟩⟩)⟩, ⟨by (try simp only [hl221000_68]); (with_reducible repeat (first | apply Kd.R_alloc | apply Kd.R_drewN | apply Kd.R_drew)); exact Kd.R_mono HO_229000.out (fun _ hk => ⟨hk.1.1.1, ⟨hk.1.1.2, hk.2⟩⟩)⟩, ⟨by (try simp only [hl221000_68]); (with_reducible repeat (first | apply Kd.R_alloc | apply Kd.R_drewN | apply Kd.R_drew)); exact Kd.R_mono HO249.out (fun _ hk => ⟨hk.1.1.1.2, ⟨hk.1.1.2, hk.1.2⟩⟩)⟩, ⟨by (try simp only [hl221000_68]); (with_reducible repeat (first | refine blk_drewN ?_ _ | refine blk_drew ?_ | refine blk_alloc ?_ _)); exact BK200.out⟩, ⟨by (try simp only [hl221000_68]); (with_reducible repeat (first | refine blk_drewN ?_ _ | refine blk_drew ?_ | refine blk_alloc ?_ _)); exact BK214.out⟩, ⟨by (try simp only [hl221000_68]); (with_reducible repeat (first | refine blk_drewN ?_ _ | refine blk_drew ?_ | refine blk_alloc ?_ _)); exact BK220.out⟩, ⟨by (try simp only [hl221000_68]); (with_reducible repeat (first | refine blk_drewN ?_ _ | refine blk_drew ?_ | refine blk_alloc ?_ _)); exact BK228.out⟩, ⟨by (try simp only [hl221000_68]); (with_reducible repeat (first | refine blk_drewN ?_ _ | refine blk_drew ?_ | refine blk_alloc ?_ _)); exact BK254.out⟩, ⟨by repeat (first | (with_reducible first | exact HB.out | apply below_alloc | apply pw_below_drewN | apply below_drew1 | refine below_set ?_ GE200.out | refine below_set ?_ GE214.out | refine below_set ?_ GE220.out | refine below_set ?_ GE228.out | refine below_set ?_ GE254.out) | exact HB.out)⟩⟩
             ·rw [if_neg c137] at H
              have c137b0 : (t252.toList == t212.toList) = false := beq_eq_false_iff_ne.mpr c137
              have c137b1 : (t252.toList != t212.toList) = true := bne_iff_ne.mpr c137
              (first | rw [c137b0] | (simp only [i64_w, i32_w]; rw [c137b0]) | skip)
              have H' := Aside0.mk H
              clear H
              have hnb148 := NB254_200.out
              have hnc148 := NB200_254.out
              have hnb149 := NB254_214.out
              have hnc149 := NB214_254.out
              have hnb150 := NB254_220.out
              have hnc150 := NB220_254.out
              have hnb151 := NB254_228.out
              have hnc151 := NB228_254.out
              obtain ⟨hcz152_0, hcz152_1, hcz152_2⟩ := cl3 BK254.out
              obtain ⟨hfz152_0, hfz152_1, hfz152_2⟩ := fr3 BK254.out
              have hnb153 := NB214_200.out
              have hnc153 := NB200_214.out
              have hnb154 := NB214_220.out
              have hnc154 := NB220_214.out
              have hnb155 := NB214_228.out
              have hnc155 := NB228_214.out
              obtain ⟨hcz156_0, hcz156_1, hcz156_2⟩ := cl3 BK214.out
              obtain ⟨hfz156_0, hfz156_1, hfz156_2⟩ := fr3 BK214.out
              go_wp2_with (first | ((with_reducible refine gate_callee (f := 39) rfl ?_); refine goesL_ (some 97) rfl rfl Try.func39 B8x39_ rfl #[.agg #[.slice Ao129 t247.length co129, .int .i64 t250, .int .i64 t251], .agg #[.slice Ao20 t207.length co20, .int .i64 t210, .int .i64 t211]] rfl B8x2_ ?_; (with_reducible refine (laws_eqRing.calls kj68 _ _ t247 t250 t251 _ _ t207 t210 t211 true _ ?side1 ?side2 ?side3 ?side4 A135.out).mono ?_); (case side1 => refine (Kd.R_reads' (e := 144) (base := w.heap.size) (ok := fun k_ => ((((True ∧ some k_ ≠ (.slice Ao20 t207.length co20 : Value).ownBlock) ∧ some k_ ≠ (.slice Ao26 t237.length co26 : Value).ownBlock) ∧ some k_ ≠ (.slice Ao32 t221.length co32 : Value).ownBlock) ∧ some k_ ≠ (.slice Ao126 t242.length co126 : Value).ownBlock)) (n := t247.length) (c := co129) ?_).2.2; exact B8x5_); (case side2 => exact (Kd.R_reads' HO249.out).2.1); (case side3 => refine (Kd.R_reads' (e := 144) (base := w.heap.size) (ok := fun k_ => (((some k_ ≠ (.slice Ao26 t237.length co26 : Value).ownBlock ∧ some k_ ≠ (.slice Ao32 t221.length co32 : Value).ownBlock) ∧ some k_ ≠ (.slice Ao126 t242.length co126 : Value).ownBlock) ∧ some k_ ≠ (.slice Ao129 t247.length co129 : Value).ownBlock)) (n := t207.length) (c := co20) ?_).2.2; exact B8x4_); (case side4 => exact (Kd.R_reads' HO_215000.out).2.1); rintro e w157 ⟨rfl, hb⟩; refine ⟨_, rfl, ?_⟩; have n0_ := Aside0.mk (Kd.R_below B8x4_ hb); have n1_ := Aside0.mk (Kd.R_below B8x26_ hb); have n2_ := Aside0.mk (Kd.R_below B8x27_ hb); have n3_ := Aside0.mk (Kd.R_below B8x28_ hb); have n4_ := Aside0.mk (Kd.R_below B8x5_ hb); have n5_ := Aside0.mk (blk_below (g := gb200) (o := .cells #[.slice A0_0 l0_0.length c0_0, .int .i64 a0_1, .int .i64 a0_2] 60 (0, 0)) B8x17_ hb); have n6_ := Aside0.mk (blk_below (g := gb214) (o := .cells #[.slice Ao20 t207.length co20, .int .i64 t210, .int .i64 t211] 64 (0, 0)) B8x19_ hb); have n7_ := Aside0.mk (blk_below (g := gb220) (o := .cells #[.slice Ao26 t237.length co26, .int .i64 t218, .int .i64 t219] 64 (0, 0)) B8x21_ hb); have n8_ := Aside0.mk (blk_below (g := gb228) (o := .cells #[.slice Ao32 t221.length co32, .int .i64 t224, .int .i64 t225] 64 (0, 0)) B8x22_ hb); have n9_ := Aside0.mk (blk_below (g := gb254) (o := .cells #[.slice Ao129 t247.length co129, .int .i64 t250, .int .i64 t251] 64 (0, 0)) B8x10_ hb); have n10_ := Aside0.mk (below_step B8x25_ hb); clear HO_215000; clear HO_221000; clear HO_229000; clear HO244; clear HO249; clear BK200; clear BK214; clear BK220; clear BK228; clear BK254; clear HB; have HO_215000 := n0_; have HO_221000 := n1_; have HO_229000 := n2_; have HO244 := n3_; have HO249 := n4_; have BK200 := n5_; have BK214 := n6_; have BK220 := n7_; have BK228 := n8_; have BK254 := n9_; have HB := n10_; clear n0_ n1_ n2_ n3_ n4_ n5_ n6_ n7_ n8_ n9_ n10_; (try clear hb); (try clear hb2); (try clear hk); (try clear hi)))
              go_meet
              case rel => exact ⟨_, (true), (be_), H', ⟨by have := HJ10.out; have := HJ68.out; first | omega | exact Nat.le_refl _⟩, ⟨by (try simp only [hl221000_68]); (with_reducible repeat (first | apply Kd.R_alloc | apply Kd.R_drewN | apply Kd.R_drew)); exact Kd.R_mono HO_215000.out (fun _ hk => ⟨hk.1.1.1, ⟨hk.1.1.2, hk.2⟩⟩)⟩, ⟨by (try simp only [hl221000_68]); (with_reducible repeat (first | apply Kd.R_alloc | apply Kd.R_drewN | apply Kd.R_drew)); exact Kd.R_mono HO_221000.out (fun _ hk => ⟨hk.1.1.1, ⟨hk.1.1.2, hk.2⟩⟩)⟩, ⟨by (try simp only [hl221000_68]); (with_reducible repeat (first | apply Kd.R_alloc | apply Kd.R_drewN | apply Kd.R_drew)); exact Kd.R_mono HO_229000.out (fun _ hk => ⟨hk.1.1.1, ⟨hk.1.1.2, hk.2⟩⟩)⟩, ⟨by (try simp only [hl221000_68]); (with_reducible repeat (first | apply Kd.R_alloc | apply Kd.R_drewN | apply Kd.R_drew)); exact Kd.R_mono HO249.out (fun _ hk => ⟨hk.1.1.1.2, ⟨hk.1.1.2, hk.1.2⟩⟩)⟩, ⟨by (try simp only [hl221000_68]); (with_reducible repeat (first | refine blk_drewN ?_ _ | refine blk_drew ?_ | refine blk_alloc ?_ _)); exact BK200.out⟩, ⟨by (try simp only [hl221000_68]); (with_reducible repeat (first | refine blk_drewN ?_ _ | refine blk_drew ?_ | refine blk_alloc ?_ _)); exact BK214.out⟩, ⟨by (try simp only [hl221000_68]); (with_reducible repeat (first | refine blk_drewN ?_ _ | refine blk_drew ?_ | refine blk_alloc ?_ _)); exact BK220.out⟩, ⟨by (try simp only [hl221000_68]); (with_reducible repeat (first | refine blk_drewN ?_ _ | refine blk_drew ?_ | refine blk_alloc ?_ _)); exact BK228.out⟩, ⟨by (try simp only [hl221000_68]); (with_reducible repeat (first | refine blk_drewN ?_ _ | refine blk_drew ?_ | refine blk_alloc ?_ _)); exact BK254.out⟩, ⟨by repeat (first | (with_reducible first | exact HB.out | apply below_alloc | apply pw_below_drewN | apply below_drew1 | refine below_set ?_ GE200.out | refine below_set ?_ GE214.out | refine below_set ?_ GE220.out | refine below_set ?_ GE228.out | refine below_set ?_ GE254.out) | exact HB.out)⟩⟩
            ·replace c136 := Bool.eq_false_iff.mpr c136
             subst c136
             rw [if_neg (show ¬ (false = true) by decide)] at H
             have H' := Aside0.mk H
             clear H
             have hnb158 := NB254_200.out
             have hnc158 := NB200_254.out
             have hnb159 := NB254_214.out
             have hnc159 := NB214_254.out
             have hnb160 := NB254_220.out
             have hnc160 := NB220_254.out
             have hnb161 := NB254_228.out
             have hnc161 := NB228_254.out
             obtain ⟨hcz162_0, hcz162_1, hcz162_2⟩ := cl3 BK254.out
             obtain ⟨hfz162_0, hfz162_1, hfz162_2⟩ := fr3 BK254.out
             have hnb163 := NB214_200.out
             have hnc163 := NB200_214.out
             have hnb164 := NB214_220.out
             have hnc164 := NB220_214.out
             have hnb165 := NB214_228.out
             have hnc165 := NB228_214.out
             obtain ⟨hcz166_0, hcz166_1, hcz166_2⟩ := cl3 BK214.out
             obtain ⟨hfz166_0, hfz166_1, hfz166_2⟩ := fr3 BK214.out
             go_wp2_with (first | ((with_reducible refine gate_callee (f := 39) rfl ?_); refine goesL_ (some 97) rfl rfl Try.func39 B8x39_ rfl #[.agg #[.slice Ao129 t247.length co129, .int .i64 t250, .int .i64 t251], .agg #[.slice Ao20 t207.length co20, .int .i64 t210, .int .i64 t211]] rfl B8x2_ ?_; (with_reducible refine (laws_eqRing.calls kj68 _ _ t247 t250 t251 _ _ t207 t210 t211 false _ ?side1 ?side2 ?side3 ?side4 A135.out).mono ?_); (case side1 => refine (Kd.R_reads' (e := 144) (base := w.heap.size) (ok := fun k_ => ((((True ∧ some k_ ≠ (.slice Ao20 t207.length co20 : Value).ownBlock) ∧ some k_ ≠ (.slice Ao26 t237.length co26 : Value).ownBlock) ∧ some k_ ≠ (.slice Ao32 t221.length co32 : Value).ownBlock) ∧ some k_ ≠ (.slice Ao126 t242.length co126 : Value).ownBlock)) (n := t247.length) (c := co129) ?_).2.2; exact B8x5_); (case side2 => exact (Kd.R_reads' HO249.out).2.1); (case side3 => refine (Kd.R_reads' (e := 144) (base := w.heap.size) (ok := fun k_ => (((some k_ ≠ (.slice Ao26 t237.length co26 : Value).ownBlock ∧ some k_ ≠ (.slice Ao32 t221.length co32 : Value).ownBlock) ∧ some k_ ≠ (.slice Ao126 t242.length co126 : Value).ownBlock) ∧ some k_ ≠ (.slice Ao129 t247.length co129 : Value).ownBlock)) (n := t207.length) (c := co20) ?_).2.2; exact B8x4_); (case side4 => exact (Kd.R_reads' HO_215000.out).2.1); rintro e w167 ⟨rfl, hb⟩; refine ⟨_, rfl, ?_⟩; have n0_ := Aside0.mk (Kd.R_below B8x4_ hb); have n1_ := Aside0.mk (Kd.R_below B8x26_ hb); have n2_ := Aside0.mk (Kd.R_below B8x27_ hb); have n3_ := Aside0.mk (Kd.R_below B8x28_ hb); have n4_ := Aside0.mk (Kd.R_below B8x5_ hb); have n5_ := Aside0.mk (blk_below (g := gb200) (o := .cells #[.slice A0_0 l0_0.length c0_0, .int .i64 a0_1, .int .i64 a0_2] 60 (0, 0)) B8x17_ hb); have n6_ := Aside0.mk (blk_below (g := gb214) (o := .cells #[.slice Ao20 t207.length co20, .int .i64 t210, .int .i64 t211] 64 (0, 0)) B8x19_ hb); have n7_ := Aside0.mk (blk_below (g := gb220) (o := .cells #[.slice Ao26 t237.length co26, .int .i64 t218, .int .i64 t219] 64 (0, 0)) B8x21_ hb); have n8_ := Aside0.mk (blk_below (g := gb228) (o := .cells #[.slice Ao32 t221.length co32, .int .i64 t224, .int .i64 t225] 64 (0, 0)) B8x22_ hb); have n9_ := Aside0.mk (blk_below (g := gb254) (o := .cells #[.slice Ao129 t247.length co129, .int .i64 t250, .int .i64 t251] 64 (0, 0)) B8x10_ hb); have n10_ := Aside0.mk (below_step B8x25_ hb); clear HO_215000; clear HO_221000; clear HO_229000; clear HO244; clear HO249; clear BK200; clear BK214; clear BK220; clear BK228; clear BK254; clear HB; have HO_215000 := n0_; have HO_221000 := n1_; have HO_229000 := n2_; have HO244 := n3_; have HO249 := n4_; have BK200 := n5_; have BK214 := n6_; have BK220 := n7_; have BK228 := n8_; have BK254 := n9_; have HB := n10_; clear n0_ n1_ n2_ n3_ n4_ n5_ n6_ n7_ n8_ n9_ n10_; (try clear hb); (try clear hb2); (try clear hk); (try clear hi)))
             go_meet
             case rel => exact ⟨_, (true), (be_), H', ⟨by have := HJ10.out; have := HJ68.out; first | omega | exact Nat.le_refl _⟩, ⟨by (try simp only [hl221000_68]); (with_reducible repeat (first | apply Kd.R_alloc | apply Kd.R_drewN | apply Kd.R_drew)); exact Kd.R_mono HO_215000.out (fun _ hk => ⟨hk.1.1.1, ⟨hk.1.1.2, hk.2⟩⟩)⟩, ⟨by (try simp only [hl221000_68]); (with_reducible repeat (first | apply Kd.R_alloc | apply Kd.R_drewN | apply Kd.R_drew)); exact Kd.R_mono HO_221000.out (fun _ hk => ⟨hk.1.1.1, ⟨hk.1.1.2, hk.2⟩⟩)⟩, ⟨by (try simp only [hl221000_68]); (with_reducible repeat (first | apply Kd.R_alloc | apply Kd.R_drewN | apply Kd.R_drew)); exact Kd.R_mono HO_229000.out (fun _ hk => ⟨hk.1.1.1, ⟨hk.1.1.2, hk.2⟩⟩)⟩, ⟨by (try simp only [hl221000_68]); (with_reducible repeat (first | apply Kd.R_alloc | apply Kd.R_drewN | apply Kd.R_drew)); exact Kd.R_mono HO249.out (fun _ hk => ⟨hk.1.1.1.2, ⟨hk.1.1.2, hk.1.2⟩⟩)⟩, ⟨by (try simp only [hl221000_68]); (with_reducible repeat (first | refine blk_drewN ?_ _ | refine blk_drew ?_ | refine blk_alloc ?_ _)); exact BK200.out⟩, ⟨by (try simp only [hl221000_68]); (with_reducible repeat (first | refine blk_drewN ?_ _ | refine blk_drew ?_ | refine blk_alloc ?_ _)); exact BK214.out⟩, ⟨by (try simp only [hl221000_68]); (with_reducible repeat (first | refine blk_drewN ?_ _ | refine blk_drew ?_ | refine blk_alloc ?_ _)); exact BK220.out⟩, ⟨by (try simp only [hl221000_68]); (with_reducible repeat (first | refine blk_drewN ?_ _ | refine blk_drew ?_ | refine blk_alloc ?_ _)); exact BK228.out⟩, ⟨by (try simp only [hl221000_68]); (with_reducible repeat (first | refine blk_drewN ?_ _ | refine blk_drew ?_ | refine blk_alloc ?_ _)); exact BK254.out⟩, ⟨by repeat (first | (with_reducible first | exact HB.out | apply below_alloc | apply pw_below_drewN | apply below_drew1 | refine below_set ?_ GE200.out | refine below_set ?_ GE214.out | refine below_set ?_ GE220.out | refine below_set ?_ GE228.out | refine below_set ?_ GE254.out) | exact HB.out)⟩⟩
           case rest =>
            clear HC114
            try clear c1
            try clear c2
            try clear p2
            try clear c3
            try clear c3b0
            try clear c4
            try clear c5
            try clear c6
            try clear c7
            try clear c8
            try clear c9
            try clear c10
            try clear c11
            try clear c12
            try clear c13
            try clear c14
            try clear c15
            try clear c16
            try clear c21
            try clear c27
            try clear c28
            try clear c33
            try clear c34
            try clear c35
            try clear c36
            try clear c37
            try clear c38
            try clear c39
            try clear c39b0
            try clear c39b1
            try clear c40
            try clear c41
            try clear c42
            try clear c44
            try clear c45
            try clear c48
            try clear c49
            try clear c50
            try clear c52
            try clear c53
            try clear c56
            try clear c57
            try clear c58
            try clear c60
            try clear c61
            try clear c64
            try clear c67
            try clear c74
            try clear c75
            try clear c76
            try clear c79
            try clear c79b0
            try clear c81
            try clear c82
            try clear c82b0
            try clear c82b1
            try clear c83
            try clear c84
            try clear c85
            try clear c87
            try clear c88
            try clear c91
            try clear c92
            try clear c93
            try clear c95
            try clear c96
            try clear c99
            try clear c100
            try clear c101
            try clear c103
            try clear c104
            try clear c107
            try clear c110
            try clear c110b0
            try clear c111
            try clear c111b0
            try clear c111b1
            try clear c115
            try clear c116
            try clear c117
            try clear c122
            try clear c123
            try clear c130
            try clear c131
            try clear c132
            try clear c133
            try clear c136
            try clear c137
            try clear c137b0
            try clear c137b1
            try clear c138
            try clear c139
            try clear c140
            try clear c141
            try clear c143
            try clear c144
            try clear c145
            try clear c148
            try clear c149
            try clear c150
            try clear c151
            try clear c153
            try clear c154
            try clear c155
            try clear c158
            try clear c159
            try clear c160
            try clear c161
            try clear c163
            try clear c164
            try clear c165
            try clear hcz102_0
            try clear hcz102_1
            try clear hcz102_2
            try clear hcz105_0
            try clear hcz105_1
            try clear hcz105_2
            try clear hcz118_0
            try clear hcz118_1
            try clear hcz118_2
            try clear hcz120_0
            try clear hcz120_1
            try clear hcz120_2
            try clear hcz124_0
            try clear hcz124_1
            try clear hcz124_2
            try clear hcz134_0
            try clear hcz134_1
            try clear hcz134_2
            try clear hcz13_0
            try clear hcz13_1
            try clear hcz13_2
            try clear hcz142_0
            try clear hcz142_1
            try clear hcz142_2
            try clear hcz146_0
            try clear hcz146_1
            try clear hcz146_2
            try clear hcz152_0
            try clear hcz152_1
            try clear hcz152_2
            try clear hcz156_0
            try clear hcz156_1
            try clear hcz156_2
            try clear hcz15_0
            try clear hcz15_1
            try clear hcz15_2
            try clear hcz162_0
            try clear hcz162_1
            try clear hcz162_2
            try clear hcz166_0
            try clear hcz166_1
            try clear hcz166_2
            try clear hcz22_0
            try clear hcz22_1
            try clear hcz22_2
            try clear hcz23_0
            try clear hcz23_1
            try clear hcz23_2
            try clear hcz29_0
            try clear hcz29_1
            try clear hcz29_2
            try clear hcz36_0
            try clear hcz36_1
            try clear hcz36_2
            try clear hcz43_0
            try clear hcz43_1
            try clear hcz43_2
            try clear hcz46_0
            try clear hcz46_1
            try clear hcz46_2
            try clear hcz51_0
            try clear hcz51_1
            try clear hcz51_2
            try clear hcz54_0
            try clear hcz54_1
            try clear hcz54_2
            try clear hcz59_0
            try clear hcz59_1
            try clear hcz59_2
            try clear hcz5_0
            try clear hcz5_1
            try clear hcz5_2
            try clear hcz62_0
            try clear hcz62_1
            try clear hcz62_2
            try clear hcz77_0
            try clear hcz77_1
            try clear hcz77_2
            try clear hcz86_0
            try clear hcz86_1
            try clear hcz86_2
            try clear hcz89_0
            try clear hcz89_1
            try clear hcz89_2
            try clear hcz94_0
            try clear hcz94_1
            try clear hcz94_2
            try clear hcz97_0
            try clear hcz97_1
            try clear hcz97_2
            try clear hfz102_0
            try clear hfz102_1
            try clear hfz102_2
            try clear hfz105_0
            try clear hfz105_1
            try clear hfz105_2
            try clear hfz118_0
            try clear hfz118_1
            try clear hfz118_2
            try clear hfz120_0
            try clear hfz120_1
            try clear hfz120_2
            try clear hfz124_0
            try clear hfz124_1
            try clear hfz124_2
            try clear hfz134_0
            try clear hfz134_1
            try clear hfz134_2
            try clear hfz13_0
            try clear hfz13_1
            try clear hfz13_2
            try clear hfz142_0
            try clear hfz142_1
            try clear hfz142_2
            try clear hfz146_0
            try clear hfz146_1
            try clear hfz146_2
            try clear hfz152_0
            try clear hfz152_1
            try clear hfz152_2
            try clear hfz156_0
            try clear hfz156_1
            try clear hfz156_2
            try clear hfz15_0
            try clear hfz15_1
            try clear hfz15_2
            try clear hfz162_0
            try clear hfz162_1
            try clear hfz162_2
            try clear hfz166_0
            try clear hfz166_1
            try clear hfz166_2
            try clear hfz22_0
            try clear hfz22_1
            try clear hfz22_2
            try clear hfz23_0
            try clear hfz23_1
            try clear hfz23_2
            try clear hfz29_0
            try clear hfz29_1
            try clear hfz29_2
            try clear hfz36_0
            try clear hfz36_1
            try clear hfz36_2
            try clear hfz43_0
            try clear hfz43_1
            try clear hfz43_2
            try clear hfz46_0
            try clear hfz46_1
            try clear hfz46_2
            try clear hfz51_0
            try clear hfz51_1
            try clear hfz51_2
            try clear hfz54_0
            try clear hfz54_1
            try clear hfz54_2
            try clear hfz59_0
            try clear hfz59_1
            try clear hfz59_2
            try clear hfz5_0
            try clear hfz5_1
            try clear hfz5_2
            try clear hfz62_0
            try clear hfz62_1
            try clear hfz62_2
            try clear hfz77_0
            try clear hfz77_1
            try clear hfz77_2
            try clear hfz86_0
            try clear hfz86_1
            try clear hfz86_2
            try clear hfz89_0
            try clear hfz89_1
            try clear hfz89_2
            try clear hfz94_0
            try clear hfz94_1
            try clear hfz94_2
            try clear hfz97_0
            try clear hfz97_1
            try clear hfz97_2
            try clear p2
            obtain ⟨kq, x108_113, rfl, HA, HJ113, HO_215000, HO_221000, HO_229000, HO_255000, BK200, BK214, BK220, BK228, BK254, HB⟩ := hcut
            have hl229000_113 := (Kd.R_reads' HO_229000.out).1
            rw [hl229000_113] at HO_229000
            (try simp only [hl229000_113])
            (try simp only [hl229000_113] at BK200)
            (try simp only [hl229000_113] at BK214)
            (try simp only [hl229000_113] at BK220)
            (try simp only [hl229000_113] at BK228)
            (try simp only [hl229000_113] at BK254)
            (try simp only [hl229000_113] at HO_215000)
            (try simp only [hl229000_113] at HO_221000)
            (try simp only [hl229000_113] at HO_255000)
            cases kq with
            | zero => exact absurd HA.out (by simp [laws_FnExactTakeRing.j2])
            | succ kj113 =>
             have H := HA.out
             clear HA
             simp only [laws_FnExactTakeRing.j2] at H
             by_cases c168 : x108_113 = true
             ·subst c168
              rw [if_pos rfl] at H
              exact absurd ((Option.some.inj H).trans hr_.out) (by decide)
             ·replace c168 := Bool.eq_false_iff.mpr c168
              subst c168
              rw [if_neg (show ¬ (false = true) by decide)] at H
              replace H := Option.bind_eq_some_iff.mp H
              obtain ⟨t256, A1690, H⟩ := H
              (try dsimp only at H)
              have A169 := Aside0.mk A1690
              clear A1690
              by_cases c170 : t256 < 0
              ·rw [if_pos c170] at H
               have c170b0 : decide (t256 < 0) = true := decide_eq_true c170
               clear c170
               exact absurd ((Option.some.inj H).trans hr_.out) (by decide)
              ·rw [if_neg c170] at H
               have c170b0 : decide (t256 < 0) = false := decide_eq_false c170
               clear c170
               by_cases c171 : t256 = t239
               ·rw [if_pos c171] at H
                have c171b0 : (t256 == t239) = true := beq_iff_eq.mpr c171
                have c171b1 : (t256 != t239) = false := bne_eq_false_iff_eq.mpr c171
                clear c171
                obtain rfl := Option.some.inj H
                have hnb172 := NB228_200.out
                have hnc172 := NB200_228.out
                have hnb173 := NB228_214.out
                have hnc173 := NB214_228.out
                have hnb174 := NB228_220.out
                have hnc174 := NB220_228.out
                have hnb175 := NB228_254.out
                have hnc175 := NB254_228.out
                obtain ⟨hcz176_0, hcz176_1, hcz176_2⟩ := cl3 BK228.out
                obtain ⟨hfz176_0, hfz176_1, hfz176_2⟩ := fr3 BK228.out
                go_wp2_with (first | ((with_reducible refine gate_callee (f := 41) rfl ?_); refine goesL_ (some 111) rfl rfl Try.func41 B8x39_ rfl #[.agg #[.slice Ao32 t240.length co32, .int .i64 t224, .int .i64 t225], .int .i64 1] rfl B8x2_ ?_; (with_reducible refine (laws_heldRing.calls kj113 _ _ t240 t224 t225 1 t256 _ ?side1 ?side2 A169.out).mono ?_); (case side1 => repeat (first | exact (Kd.R_reads' HO_229000.out).2.2 | (with_reducible refine Kd.C_alloc ?_ _) | (with_reducible refine Kd.C_drewN ?_ _) | (with_reducible refine Kd.C_drew ?_))); (case side2 => exact (Kd.R_reads' HO_229000.out).2.1); rintro e w177 ⟨rfl, hb⟩; refine ⟨_, rfl, ?_⟩; have n0_ := Aside0.mk (Kd.R_below B8x13_ hb); have n1_ := Aside0.mk (Kd.R_below B8x14_ hb); have n2_ := Aside0.mk (Kd.R_below B8x15_ hb); have n3_ := Aside0.mk (Kd.R_below (by (with_reducible repeat (first | apply Kd.R_alloc | apply Kd.R_drewN | apply Kd.R_drew)); exact HO_255000.out) hb); have n4_ := Aside0.mk (blk_below (g := gb200) (o := .cells #[.slice A0_0 l0_0.length c0_0, .int .i64 a0_1, .int .i64 a0_2] 60 (0, 0)) B8x1_ hb); have n5_ := Aside0.mk (blk_below (g := gb214) (o := .cells #[.slice Ao20 t207.length co20, .int .i64 t210, .int .i64 t211] 64 (0, 0)) B8x3_ hb); have n6_ := Aside0.mk (blk_below (g := gb220) (o := .cells #[.slice Ao26 t237.length co26, .int .i64 t218, .int .i64 t219] 64 (0, 0)) B8x8_ hb); have n7_ := Aside0.mk (blk_below (g := gb228) (o := .cells #[.slice Ao32 t240.length co32, .int .i64 t224, .int .i64 t225] 64 (0, 0)) B8x9_ hb); have n8_ := Aside0.mk (blk_below (g := gb254) (o := .cells #[.slice Ao129 t247.length co129, .int .i64 t250, .int .i64 t251] 64 (0, 0)) (by (with_reducible repeat (first | refine blk_drewN ?_ _ | refine blk_drew ?_ | refine blk_alloc ?_ _)); exact BK254.out) hb); have n9_ := Aside0.mk (below_step B8x25_ hb); clear HO_215000; clear HO_221000; clear HO_229000; clear HO_255000; clear BK200; clear BK214; clear BK220; clear BK228; clear BK254; clear HB; have HO_215000 := n0_; have HO_221000 := n1_; have HO_229000 := n2_; have HO_255000 := n3_; have BK200 := n4_; have BK214 := n5_; have BK220 := n6_; have BK228 := n7_; have BK254 := n8_; have HB := n9_; clear n0_ n1_ n2_ n3_ n4_ n5_ n6_ n7_ n8_ n9_; (try clear hb); (try clear hb2); (try clear hk); (try clear hi)))
                go_ret
                exact ⟨by first | rfl | (simp [errW_none, errW_some] <;> rfl) | (simp [*, errW_none, errW_some] <;> rfl), by repeat (first | (with_reducible first | exact HB.out | apply below_alloc | apply pw_below_drewN | apply below_drew1 | refine below_set ?_ GE200.out | refine below_set ?_ GE214.out | refine below_set ?_ GE220.out | refine below_set ?_ GE228.out | refine below_set ?_ GE254.out) | exact HB.out)⟩
               ·rw [if_neg c171] at H
                have c171b0 : (t256 == t239) = false := beq_eq_false_iff_ne.mpr c171
                have c171b1 : (t256 != t239) = true := bne_iff_ne.mpr c171
                exact absurd ((Option.some.inj H).trans hr_.out) (by decide)
          ·rw [if_neg c111] at H
           have c111b0 : (t241 == t239) = false := beq_eq_false_iff_ne.mpr c111
           have c111b1 : (t241 != t239) = true := bne_iff_ne.mpr c111
           exact absurd ((Option.some.inj H).trans hr_.out) (by decide)
     ·replace c67 := Bool.eq_false_iff.mpr c67
      subst c67
      rw [if_neg (show ¬ (false = true) by decide)] at H
      exact absurd ((Option.some.inj H).trans hr_.out) (by decide)

end Go.Proofs.Ytjijbffecppeiaa.QFnExactTakeRing
