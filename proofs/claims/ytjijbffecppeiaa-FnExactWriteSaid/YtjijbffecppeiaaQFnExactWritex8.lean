/- Functions that a law reaches, as functions of Lean, and the walks that show that the calls come to their answers: written by a program of this project out of the translation. No condition. -/
import Derived.Test.YtjijbffecppeiaaQFnExactWritex0
import Derived.Test.YtjijbffecppeiaaQFnExactWritex1
import Derived.Test.YtjijbffecppeiaaQFnExactWritex2
import Derived.Test.YtjijbffecppeiaaQFnExactWritex5
import Derived.Test.YtjijbffecppeiaaQFnExactWritex7
import Derived.Test.YtjijbffecppeiaaVFnExactWriteShort3
import Derived.Test.YtjijbffecppeiaaVFnExactWriteShort2
import Derived.Test.YtjijbffecppeiaaVFnExactWriteShort
namespace Go.Proofs.Ytjijbffecppeiaa.QFnExactWrite
open Go.RowKit Go.Proofs.YtjijbffecppeiaaW.PrintWords Go.Proofs.YtjijbffecppeiaaW.PrintLast Go.Proofs.YtjijbffecppeiaaW.PrintMore Go.Proofs.Ytjijbffecppeiaa.Short
attribute [local go_sem] max2_int min2_int max_two min_two max_three min_three max_four min_four   -- for this text's walks alone
set_option linter.unusedVariables false
set_option linter.unusedSimpArgs false

theorem B8x0_ {p : Prop} (h : p := by (with_reducible repeat (first | refine blk_drewN ?_ _ | refine blk_drew ?_ | refine blk_alloc ?_ _)); refine blk_put (cs := #[.int .i64 t354, .int .i64 t355, .int .i64 t356, .int .i64 t357, .string t358, .int .i64 t359, .int .i64 t360, .bool t361, .string t362, .slice Ao119 t363.length co119, .bool t366, .int .i64 t367, .int .i64 0]) ?_ 12 _ rfl; (with_reducible repeat (first | refine blk_drewN ?_ _ | refine blk_drew ?_ | refine blk_alloc ?_ _)); refine blk_put (cs := #[.int .i64 t354, .int .i64 t355, .int .i64 t356, .int .i64 t357, .string t358, .int .i64 t359, .int .i64 t360, .bool t361, .string t362, .slice Ao119 t363.length co119, .bool t366, .int .i64 0, .int .i64 0]) ?_ 11 _ rfl; (with_reducible repeat (first | refine blk_drewN ?_ _ | refine blk_drew ?_ | refine blk_alloc ?_ _)); refine blk_put (cs := #[.int .i64 t354, .int .i64 t355, .int .i64 t356, .int .i64 t357, .string t358, .int .i64 t359, .int .i64 t360, .bool t361, .string t362, .slice Ao119 t363.length co119, .bool false, .int .i64 0, .int .i64 0]) ?_ 10 _ rfl; (with_reducible repeat (first | refine blk_drewN ?_ _ | refine blk_drew ?_ | refine blk_alloc ?_ _)); refine blk_put (cs := #[.int .i64 t354, .int .i64 t355, .int .i64 t356, .int .i64 t357, .string t358, .int .i64 t359, .int .i64 t360, .bool t361, .string t362, .slice none 0 0, .bool false, .int .i64 0, .int .i64 0]) ?_ 9 _ rfl; (with_reducible repeat (first | refine blk_drewN ?_ _ | refine blk_drew ?_ | refine blk_alloc ?_ _)); refine blk_put (cs := #[.int .i64 t354, .int .i64 t355, .int .i64 t356, .int .i64 t357, .string t358, .int .i64 t359, .int .i64 t360, .bool t361, .string (⟨#[]⟩ : ByteArray), .slice none 0 0, .bool false, .int .i64 0, .int .i64 0]) ?_ 8 _ rfl; (with_reducible repeat (first | refine blk_drewN ?_ _ | refine blk_drew ?_ | refine blk_alloc ?_ _)); refine blk_put (cs := #[.int .i64 t354, .int .i64 t355, .int .i64 t356, .int .i64 t357, .string t358, .int .i64 t359, .int .i64 t360, .bool false, .string (⟨#[]⟩ : ByteArray), .slice none 0 0, .bool false, .int .i64 0, .int .i64 0]) ?_ 7 _ rfl; (with_reducible repeat (first | refine blk_drewN ?_ _ | refine blk_drew ?_ | refine blk_alloc ?_ _)); refine blk_put (cs := #[.int .i64 t354, .int .i64 t355, .int .i64 t356, .int .i64 t357, .string t358, .int .i64 t359, .int .i64 0, .bool false, .string (⟨#[]⟩ : ByteArray), .slice none 0 0, .bool false, .int .i64 0, .int .i64 0]) ?_ 6 _ rfl; (with_reducible repeat (first | refine blk_drewN ?_ _ | refine blk_drew ?_ | refine blk_alloc ?_ _)); refine blk_put (cs := #[.int .i64 t354, .int .i64 t355, .int .i64 t356, .int .i64 t357, .string t358, .int .i64 0, .int .i64 0, .bool false, .string (⟨#[]⟩ : ByteArray), .slice none 0 0, .bool false, .int .i64 0, .int .i64 0]) ?_ 5 _ rfl; (with_reducible repeat (first | refine blk_drewN ?_ _ | refine blk_drew ?_ | refine blk_alloc ?_ _)); refine blk_put (cs := #[.int .i64 t354, .int .i64 t355, .int .i64 t356, .int .i64 t357, .string (⟨#[]⟩ : ByteArray), .int .i64 0, .int .i64 0, .bool false, .string (⟨#[]⟩ : ByteArray), .slice none 0 0, .bool false, .int .i64 0, .int .i64 0]) ?_ 4 _ rfl; (with_reducible repeat (first | refine blk_drewN ?_ _ | refine blk_drew ?_ | refine blk_alloc ?_ _)); refine blk_put (cs := #[.int .i64 t354, .int .i64 t355, .int .i64 t356, .int .i64 0, .string (⟨#[]⟩ : ByteArray), .int .i64 0, .int .i64 0, .bool false, .string (⟨#[]⟩ : ByteArray), .slice none 0 0, .bool false, .int .i64 0, .int .i64 0]) ?_ 3 _ rfl; (with_reducible repeat (first | refine blk_drewN ?_ _ | refine blk_drew ?_ | refine blk_alloc ?_ _)); refine blk_put (cs := #[.int .i64 t354, .int .i64 t355, .int .i64 0, .int .i64 0, .string (⟨#[]⟩ : ByteArray), .int .i64 0, .int .i64 0, .bool false, .string (⟨#[]⟩ : ByteArray), .slice none 0 0, .bool false, .int .i64 0, .int .i64 0]) ?_ 2 _ rfl; (with_reducible repeat (first | refine blk_drewN ?_ _ | refine blk_drew ?_ | refine blk_alloc ?_ _)); refine blk_put (cs := #[.int .i64 t354, .int .i64 0, .int .i64 0, .int .i64 0, .string (⟨#[]⟩ : ByteArray), .int .i64 0, .int .i64 0, .bool false, .string (⟨#[]⟩ : ByteArray), .slice none 0 0, .bool false, .int .i64 0, .int .i64 0]) ?_ 1 _ rfl; (with_reducible repeat (first | refine blk_drewN ?_ _ | refine blk_drew ?_ | refine blk_alloc ?_ _)); refine blk_put (cs := #[.int .i64 0, .int .i64 0, .int .i64 0, .int .i64 0, .string (⟨#[]⟩ : ByteArray), .int .i64 0, .int .i64 0, .bool false, .string (⟨#[]⟩ : ByteArray), .slice none 0 0, .bool false, .int .i64 0, .int .i64 0]) ?_ 0 _ rfl; (with_reducible repeat (first | refine blk_drewN ?_ _ | refine blk_drew ?_ | refine blk_alloc ?_ _)); exact BK370.out) : p := h
theorem B8x1_ {p : Prop} (h : p := by (with_reducible repeat (first | refine blk_drewN ?_ _ | refine blk_drew ?_ | refine blk_alloc ?_ _)); refine blk_put (cs := #[.int .i64 t299, .int .i64 t300, .int .i64 t301, .int .i64 t302, .string t303, .int .i64 t304, .int .i64 t305, .bool t306, .string t307, .slice Ao39 t308.length co39, .bool t311, .int .i64 t312, .int .i64 0]) ?_ 12 _ rfl; (with_reducible repeat (first | refine blk_drewN ?_ _ | refine blk_drew ?_ | refine blk_alloc ?_ _)); refine blk_put (cs := #[.int .i64 t299, .int .i64 t300, .int .i64 t301, .int .i64 t302, .string t303, .int .i64 t304, .int .i64 t305, .bool t306, .string t307, .slice Ao39 t308.length co39, .bool t311, .int .i64 0, .int .i64 0]) ?_ 11 _ rfl; (with_reducible repeat (first | refine blk_drewN ?_ _ | refine blk_drew ?_ | refine blk_alloc ?_ _)); refine blk_put (cs := #[.int .i64 t299, .int .i64 t300, .int .i64 t301, .int .i64 t302, .string t303, .int .i64 t304, .int .i64 t305, .bool t306, .string t307, .slice Ao39 t308.length co39, .bool false, .int .i64 0, .int .i64 0]) ?_ 10 _ rfl; (with_reducible repeat (first | refine blk_drewN ?_ _ | refine blk_drew ?_ | refine blk_alloc ?_ _)); refine blk_put (cs := #[.int .i64 t299, .int .i64 t300, .int .i64 t301, .int .i64 t302, .string t303, .int .i64 t304, .int .i64 t305, .bool t306, .string t307, .slice none 0 0, .bool false, .int .i64 0, .int .i64 0]) ?_ 9 _ rfl; (with_reducible repeat (first | refine blk_drewN ?_ _ | refine blk_drew ?_ | refine blk_alloc ?_ _)); refine blk_put (cs := #[.int .i64 t299, .int .i64 t300, .int .i64 t301, .int .i64 t302, .string t303, .int .i64 t304, .int .i64 t305, .bool t306, .string (⟨#[]⟩ : ByteArray), .slice none 0 0, .bool false, .int .i64 0, .int .i64 0]) ?_ 8 _ rfl; (with_reducible repeat (first | refine blk_drewN ?_ _ | refine blk_drew ?_ | refine blk_alloc ?_ _)); refine blk_put (cs := #[.int .i64 t299, .int .i64 t300, .int .i64 t301, .int .i64 t302, .string t303, .int .i64 t304, .int .i64 t305, .bool false, .string (⟨#[]⟩ : ByteArray), .slice none 0 0, .bool false, .int .i64 0, .int .i64 0]) ?_ 7 _ rfl; (with_reducible repeat (first | refine blk_drewN ?_ _ | refine blk_drew ?_ | refine blk_alloc ?_ _)); refine blk_put (cs := #[.int .i64 t299, .int .i64 t300, .int .i64 t301, .int .i64 t302, .string t303, .int .i64 t304, .int .i64 0, .bool false, .string (⟨#[]⟩ : ByteArray), .slice none 0 0, .bool false, .int .i64 0, .int .i64 0]) ?_ 6 _ rfl; (with_reducible repeat (first | refine blk_drewN ?_ _ | refine blk_drew ?_ | refine blk_alloc ?_ _)); refine blk_put (cs := #[.int .i64 t299, .int .i64 t300, .int .i64 t301, .int .i64 t302, .string t303, .int .i64 0, .int .i64 0, .bool false, .string (⟨#[]⟩ : ByteArray), .slice none 0 0, .bool false, .int .i64 0, .int .i64 0]) ?_ 5 _ rfl; (with_reducible repeat (first | refine blk_drewN ?_ _ | refine blk_drew ?_ | refine blk_alloc ?_ _)); refine blk_put (cs := #[.int .i64 t299, .int .i64 t300, .int .i64 t301, .int .i64 t302, .string (⟨#[]⟩ : ByteArray), .int .i64 0, .int .i64 0, .bool false, .string (⟨#[]⟩ : ByteArray), .slice none 0 0, .bool false, .int .i64 0, .int .i64 0]) ?_ 4 _ rfl; (with_reducible repeat (first | refine blk_drewN ?_ _ | refine blk_drew ?_ | refine blk_alloc ?_ _)); refine blk_put (cs := #[.int .i64 t299, .int .i64 t300, .int .i64 t301, .int .i64 0, .string (⟨#[]⟩ : ByteArray), .int .i64 0, .int .i64 0, .bool false, .string (⟨#[]⟩ : ByteArray), .slice none 0 0, .bool false, .int .i64 0, .int .i64 0]) ?_ 3 _ rfl; (with_reducible repeat (first | refine blk_drewN ?_ _ | refine blk_drew ?_ | refine blk_alloc ?_ _)); refine blk_put (cs := #[.int .i64 t299, .int .i64 t300, .int .i64 0, .int .i64 0, .string (⟨#[]⟩ : ByteArray), .int .i64 0, .int .i64 0, .bool false, .string (⟨#[]⟩ : ByteArray), .slice none 0 0, .bool false, .int .i64 0, .int .i64 0]) ?_ 2 _ rfl; (with_reducible repeat (first | refine blk_drewN ?_ _ | refine blk_drew ?_ | refine blk_alloc ?_ _)); refine blk_put (cs := #[.int .i64 t299, .int .i64 0, .int .i64 0, .int .i64 0, .string (⟨#[]⟩ : ByteArray), .int .i64 0, .int .i64 0, .bool false, .string (⟨#[]⟩ : ByteArray), .slice none 0 0, .bool false, .int .i64 0, .int .i64 0]) ?_ 1 _ rfl; (with_reducible repeat (first | refine blk_drewN ?_ _ | refine blk_drew ?_ | refine blk_alloc ?_ _)); refine blk_put (cs := #[.int .i64 0, .int .i64 0, .int .i64 0, .int .i64 0, .string (⟨#[]⟩ : ByteArray), .int .i64 0, .int .i64 0, .bool false, .string (⟨#[]⟩ : ByteArray), .slice none 0 0, .bool false, .int .i64 0, .int .i64 0]) ?_ 0 _ rfl; (with_reducible repeat (first | refine blk_drewN ?_ _ | refine blk_drew ?_ | refine blk_alloc ?_ _)); exact BK315.out) : p := h
theorem B8x2_ {p : Prop} (h : p := by repeat (first | (with_reducible first | exact HB.out | apply below_alloc | apply pw_below_drewN | apply below_drew1 | refine below_set ?_ GE249.out | refine below_set ?_ GE282.out | refine below_set ?_ GE298.out | refine below_set ?_ GE315.out) | exact HB.out)) : p := h
theorem B8x3_ {p : Prop} (h : p := by (with_reducible repeat (first | apply Kd.R_alloc | apply Kd.R_drewN | apply Kd.R_drew)); exact (Kd.R_mono (Kd.R_far (p := ⟨gb370, 12, none⟩) (Kd.R_far (p := ⟨gb370, 11, none⟩) (Kd.R_far (p := ⟨gb370, 10, none⟩) (Kd.R_far (p := ⟨gb370, 9, none⟩) (Kd.R_far (p := ⟨gb370, 8, none⟩) (Kd.R_far (p := ⟨gb370, 7, none⟩) (Kd.R_far (p := ⟨gb370, 6, none⟩) (Kd.R_far (p := ⟨gb370, 5, none⟩) (Kd.R_far (p := ⟨gb370, 4, none⟩) (Kd.R_far (p := ⟨gb370, 3, none⟩) (Kd.R_far (p := ⟨gb370, 2, none⟩) (Kd.R_far (p := ⟨gb370, 1, none⟩) (Kd.R_far (p := ⟨gb370, 0, none⟩) (Kd.R_types HO_283009.out BK370.out (by decide)) (fun _ hk => hk.2) (.int .i64 t354)) (fun _ hk => hk.2) (.int .i64 t355)) (fun _ hk => hk.2) (.int .i64 t356)) (fun _ hk => hk.2) (.int .i64 t357)) (fun _ hk => hk.2) (.string t358)) (fun _ hk => hk.2) (.int .i64 t359)) (fun _ hk => hk.2) (.int .i64 t360)) (fun _ hk => hk.2) (.bool t361)) (fun _ hk => hk.2) (.string t362)) (fun _ hk => hk.2) (.slice Ao119 t363.length co119)) (fun _ hk => hk.2) (.bool t366)) (fun _ hk => hk.2) (.int .i64 t367)) (fun _ hk => hk.2) (.int .i64 t368)) (fun _ h_ => h_.1))) : p := h
theorem B8x4_ {p : Prop} (h : p := by (with_reducible repeat (first | apply Kd.R_alloc | apply Kd.R_drewN | apply Kd.R_drew)); exact (Kd.R_mono (Kd.R_far (p := ⟨gb370, 12, none⟩) (Kd.R_far (p := ⟨gb370, 11, none⟩) (Kd.R_far (p := ⟨gb370, 10, none⟩) (Kd.R_far (p := ⟨gb370, 9, none⟩) (Kd.R_far (p := ⟨gb370, 8, none⟩) (Kd.R_far (p := ⟨gb370, 7, none⟩) (Kd.R_far (p := ⟨gb370, 6, none⟩) (Kd.R_far (p := ⟨gb370, 5, none⟩) (Kd.R_far (p := ⟨gb370, 4, none⟩) (Kd.R_far (p := ⟨gb370, 3, none⟩) (Kd.R_far (p := ⟨gb370, 2, none⟩) (Kd.R_far (p := ⟨gb370, 1, none⟩) (Kd.R_far (p := ⟨gb370, 0, none⟩) (Kd.R_types HO365.out BK370.out (by decide)) (fun _ hk => hk.2) (.int .i64 t354)) (fun _ hk => hk.2) (.int .i64 t355)) (fun _ hk => hk.2) (.int .i64 t356)) (fun _ hk => hk.2) (.int .i64 t357)) (fun _ hk => hk.2) (.string t358)) (fun _ hk => hk.2) (.int .i64 t359)) (fun _ hk => hk.2) (.int .i64 t360)) (fun _ hk => hk.2) (.bool t361)) (fun _ hk => hk.2) (.string t362)) (fun _ hk => hk.2) (.slice Ao119 t363.length co119)) (fun _ hk => hk.2) (.bool t366)) (fun _ hk => hk.2) (.int .i64 t367)) (fun _ hk => hk.2) (.int .i64 t368)) (fun _ h_ => h_.1))) : p := h
theorem B8x5_ {p : Prop} (h : p := by (with_reducible repeat (first | apply Kd.R_alloc | apply Kd.R_drewN | apply Kd.R_drew)); exact (Kd.R_mono (Kd.R_far (p := ⟨gb315, 12, none⟩) (Kd.R_far (p := ⟨gb315, 11, none⟩) (Kd.R_far (p := ⟨gb315, 10, none⟩) (Kd.R_far (p := ⟨gb315, 9, none⟩) (Kd.R_far (p := ⟨gb315, 8, none⟩) (Kd.R_far (p := ⟨gb315, 7, none⟩) (Kd.R_far (p := ⟨gb315, 6, none⟩) (Kd.R_far (p := ⟨gb315, 5, none⟩) (Kd.R_far (p := ⟨gb315, 4, none⟩) (Kd.R_far (p := ⟨gb315, 3, none⟩) (Kd.R_far (p := ⟨gb315, 2, none⟩) (Kd.R_far (p := ⟨gb315, 1, none⟩) (Kd.R_far (p := ⟨gb315, 0, none⟩) (Kd.R_types HO277.out BK315.out (by decide)) (fun _ hk => hk.2) (.int .i64 t299)) (fun _ hk => hk.2) (.int .i64 t300)) (fun _ hk => hk.2) (.int .i64 t301)) (fun _ hk => hk.2) (.int .i64 t302)) (fun _ hk => hk.2) (.string t303)) (fun _ hk => hk.2) (.int .i64 t304)) (fun _ hk => hk.2) (.int .i64 t305)) (fun _ hk => hk.2) (.bool t306)) (fun _ hk => hk.2) (.string t307)) (fun _ hk => hk.2) (.slice Ao39 t308.length co39)) (fun _ hk => hk.2) (.bool t311)) (fun _ hk => hk.2) (.int .i64 t312)) (fun _ hk => hk.2) (.int .i64 t313)) (fun _ h_ => h_.1))) : p := h
theorem B8x6_ {p : Prop} (h : p := by (with_reducible repeat (first | apply Kd.R_alloc | apply Kd.R_drewN | apply Kd.R_drew)); exact (Kd.R_mono (Kd.R_far (p := ⟨gb315, 12, none⟩) (Kd.R_far (p := ⟨gb315, 11, none⟩) (Kd.R_far (p := ⟨gb315, 10, none⟩) (Kd.R_far (p := ⟨gb315, 9, none⟩) (Kd.R_far (p := ⟨gb315, 8, none⟩) (Kd.R_far (p := ⟨gb315, 7, none⟩) (Kd.R_far (p := ⟨gb315, 6, none⟩) (Kd.R_far (p := ⟨gb315, 5, none⟩) (Kd.R_far (p := ⟨gb315, 4, none⟩) (Kd.R_far (p := ⟨gb315, 3, none⟩) (Kd.R_far (p := ⟨gb315, 2, none⟩) (Kd.R_far (p := ⟨gb315, 1, none⟩) (Kd.R_far (p := ⟨gb315, 0, none⟩) (Kd.R_types HO310.out BK315.out (by decide)) (fun _ hk => hk.2) (.int .i64 t299)) (fun _ hk => hk.2) (.int .i64 t300)) (fun _ hk => hk.2) (.int .i64 t301)) (fun _ hk => hk.2) (.int .i64 t302)) (fun _ hk => hk.2) (.string t303)) (fun _ hk => hk.2) (.int .i64 t304)) (fun _ hk => hk.2) (.int .i64 t305)) (fun _ hk => hk.2) (.bool t306)) (fun _ hk => hk.2) (.string t307)) (fun _ hk => hk.2) (.slice Ao39 t308.length co39)) (fun _ hk => hk.2) (.bool t311)) (fun _ hk => hk.2) (.int .i64 t312)) (fun _ hk => hk.2) (.int .i64 t313)) (fun _ h_ => h_.1))) : p := h
theorem B8x7_ {p : Prop} (h : p := by (with_reducible repeat (first | refine blk_drewN ?_ _ | refine blk_drew ?_ | refine blk_alloc ?_ _)); exact BK249.out) : p := h
theorem B8x8_ {p : Prop} (h : p := by (with_reducible repeat (first | apply Kd.R_alloc | apply Kd.R_drewN | apply Kd.R_drew)); exact (Kd.R_mono (Kd.R_far (p := ⟨gb298, 12, none⟩) (Kd.R_far (p := ⟨gb298, 11, none⟩) (Kd.R_far (p := ⟨gb298, 10, none⟩) (Kd.R_far (p := ⟨gb298, 9, none⟩) (Kd.R_far (p := ⟨gb298, 8, none⟩) (Kd.R_far (p := ⟨gb298, 7, none⟩) (Kd.R_far (p := ⟨gb298, 6, none⟩) (Kd.R_far (p := ⟨gb298, 5, none⟩) (Kd.R_far (p := ⟨gb298, 4, none⟩) (Kd.R_far (p := ⟨gb298, 3, none⟩) (Kd.R_far (p := ⟨gb298, 2, none⟩) (Kd.R_far (p := ⟨gb298, 1, none⟩) (Kd.R_far (p := ⟨gb298, 0, none⟩) (Kd.R_types HO294.out BK298.out (by decide)) (fun _ hk => hk.2) (.int .i64 t283)) (fun _ hk => hk.2) (.int .i64 t284)) (fun _ hk => hk.2) (.int .i64 t285)) (fun _ hk => hk.2) (.int .i64 t286)) (fun _ hk => hk.2) (.string t287)) (fun _ hk => hk.2) (.int .i64 t288)) (fun _ hk => hk.2) (.int .i64 t289)) (fun _ hk => hk.2) (.bool t290)) (fun _ hk => hk.2) (.string t291)) (fun _ hk => hk.2) (.slice Ao32 t292.length co32)) (fun _ hk => hk.2) (.bool t295)) (fun _ hk => hk.2) (.int .i64 t296)) (fun _ hk => hk.2) (.int .i64 t297)) (fun _ h_ => h_.1))) : p := h
theorem B8x9_ {p : Prop} (h : p := by (try simp only [List.map_toArray, List.map_cons, List.map_nil]); first | done | rfl | (simp only [List.length_drop, List.length_take]; rfl)) : p := h
theorem B8x10_ {p : Prop} (h : p := by (with_reducible repeat (first | refine blk_drewN ?_ _ | refine blk_drew ?_ | refine blk_alloc ?_ _)); exact BK282.out) : p := h
theorem B8x11_ {p : Prop} (h : p := by (with_reducible repeat (first | refine blk_drewN ?_ _ | refine blk_drew ?_ | refine blk_alloc ?_ _)); refine blk_far ?_ NB249_315.out _; (with_reducible repeat (first | refine blk_drewN ?_ _ | refine blk_drew ?_ | refine blk_alloc ?_ _)); refine blk_far ?_ NB249_315.out _; (with_reducible repeat (first | refine blk_drewN ?_ _ | refine blk_drew ?_ | refine blk_alloc ?_ _)); refine blk_far ?_ NB249_315.out _; (with_reducible repeat (first | refine blk_drewN ?_ _ | refine blk_drew ?_ | refine blk_alloc ?_ _)); refine blk_far ?_ NB249_315.out _; (with_reducible repeat (first | refine blk_drewN ?_ _ | refine blk_drew ?_ | refine blk_alloc ?_ _)); refine blk_far ?_ NB249_315.out _; (with_reducible repeat (first | refine blk_drewN ?_ _ | refine blk_drew ?_ | refine blk_alloc ?_ _)); refine blk_far ?_ NB249_315.out _; (with_reducible repeat (first | refine blk_drewN ?_ _ | refine blk_drew ?_ | refine blk_alloc ?_ _)); refine blk_far ?_ NB249_315.out _; (with_reducible repeat (first | refine blk_drewN ?_ _ | refine blk_drew ?_ | refine blk_alloc ?_ _)); refine blk_far ?_ NB249_315.out _; (with_reducible repeat (first | refine blk_drewN ?_ _ | refine blk_drew ?_ | refine blk_alloc ?_ _)); refine blk_far ?_ NB249_315.out _; (with_reducible repeat (first | refine blk_drewN ?_ _ | refine blk_drew ?_ | refine blk_alloc ?_ _)); refine blk_far ?_ NB249_315.out _; (with_reducible repeat (first | refine blk_drewN ?_ _ | refine blk_drew ?_ | refine blk_alloc ?_ _)); refine blk_far ?_ NB249_315.out _; (with_reducible repeat (first | refine blk_drewN ?_ _ | refine blk_drew ?_ | refine blk_alloc ?_ _)); refine blk_far ?_ NB249_315.out _; (with_reducible repeat (first | refine blk_drewN ?_ _ | refine blk_drew ?_ | refine blk_alloc ?_ _)); refine blk_far ?_ NB249_315.out _; (with_reducible repeat (first | refine blk_drewN ?_ _ | refine blk_drew ?_ | refine blk_alloc ?_ _)); exact BK249.out) : p := h
theorem B8x12_ {p : Prop} (h : p := by (with_reducible repeat (first | refine blk_drewN ?_ _ | refine blk_drew ?_ | refine blk_alloc ?_ _)); refine blk_far ?_ NB249_370.out _; (with_reducible repeat (first | refine blk_drewN ?_ _ | refine blk_drew ?_ | refine blk_alloc ?_ _)); refine blk_far ?_ NB249_370.out _; (with_reducible repeat (first | refine blk_drewN ?_ _ | refine blk_drew ?_ | refine blk_alloc ?_ _)); refine blk_far ?_ NB249_370.out _; (with_reducible repeat (first | refine blk_drewN ?_ _ | refine blk_drew ?_ | refine blk_alloc ?_ _)); refine blk_far ?_ NB249_370.out _; (with_reducible repeat (first | refine blk_drewN ?_ _ | refine blk_drew ?_ | refine blk_alloc ?_ _)); refine blk_far ?_ NB249_370.out _; (with_reducible repeat (first | refine blk_drewN ?_ _ | refine blk_drew ?_ | refine blk_alloc ?_ _)); refine blk_far ?_ NB249_370.out _; (with_reducible repeat (first | refine blk_drewN ?_ _ | refine blk_drew ?_ | refine blk_alloc ?_ _)); refine blk_far ?_ NB249_370.out _; (with_reducible repeat (first | refine blk_drewN ?_ _ | refine blk_drew ?_ | refine blk_alloc ?_ _)); refine blk_far ?_ NB249_370.out _; (with_reducible repeat (first | refine blk_drewN ?_ _ | refine blk_drew ?_ | refine blk_alloc ?_ _)); refine blk_far ?_ NB249_370.out _; (with_reducible repeat (first | refine blk_drewN ?_ _ | refine blk_drew ?_ | refine blk_alloc ?_ _)); refine blk_far ?_ NB249_370.out _; (with_reducible repeat (first | refine blk_drewN ?_ _ | refine blk_drew ?_ | refine blk_alloc ?_ _)); refine blk_far ?_ NB249_370.out _; (with_reducible repeat (first | refine blk_drewN ?_ _ | refine blk_drew ?_ | refine blk_alloc ?_ _)); refine blk_far ?_ NB249_370.out _; (with_reducible repeat (first | refine blk_drewN ?_ _ | refine blk_drew ?_ | refine blk_alloc ?_ _)); refine blk_far ?_ NB249_370.out _; (with_reducible repeat (first | refine blk_drewN ?_ _ | refine blk_drew ?_ | refine blk_alloc ?_ _)); exact BK249.out) : p := h
theorem B8x13_ {p : Prop} (h : p := by (with_reducible repeat (first | refine blk_drewN ?_ _ | refine blk_drew ?_ | refine blk_alloc ?_ _)); refine blk_far ?_ NB282_315.out _; (with_reducible repeat (first | refine blk_drewN ?_ _ | refine blk_drew ?_ | refine blk_alloc ?_ _)); refine blk_far ?_ NB282_315.out _; (with_reducible repeat (first | refine blk_drewN ?_ _ | refine blk_drew ?_ | refine blk_alloc ?_ _)); refine blk_far ?_ NB282_315.out _; (with_reducible repeat (first | refine blk_drewN ?_ _ | refine blk_drew ?_ | refine blk_alloc ?_ _)); refine blk_far ?_ NB282_315.out _; (with_reducible repeat (first | refine blk_drewN ?_ _ | refine blk_drew ?_ | refine blk_alloc ?_ _)); refine blk_far ?_ NB282_315.out _; (with_reducible repeat (first | refine blk_drewN ?_ _ | refine blk_drew ?_ | refine blk_alloc ?_ _)); refine blk_far ?_ NB282_315.out _; (with_reducible repeat (first | refine blk_drewN ?_ _ | refine blk_drew ?_ | refine blk_alloc ?_ _)); refine blk_far ?_ NB282_315.out _; (with_reducible repeat (first | refine blk_drewN ?_ _ | refine blk_drew ?_ | refine blk_alloc ?_ _)); refine blk_far ?_ NB282_315.out _; (with_reducible repeat (first | refine blk_drewN ?_ _ | refine blk_drew ?_ | refine blk_alloc ?_ _)); refine blk_far ?_ NB282_315.out _; (with_reducible repeat (first | refine blk_drewN ?_ _ | refine blk_drew ?_ | refine blk_alloc ?_ _)); refine blk_far ?_ NB282_315.out _; (with_reducible repeat (first | refine blk_drewN ?_ _ | refine blk_drew ?_ | refine blk_alloc ?_ _)); refine blk_far ?_ NB282_315.out _; (with_reducible repeat (first | refine blk_drewN ?_ _ | refine blk_drew ?_ | refine blk_alloc ?_ _)); refine blk_far ?_ NB282_315.out _; (with_reducible repeat (first | refine blk_drewN ?_ _ | refine blk_drew ?_ | refine blk_alloc ?_ _)); refine blk_far ?_ NB282_315.out _; (with_reducible repeat (first | refine blk_drewN ?_ _ | refine blk_drew ?_ | refine blk_alloc ?_ _)); exact BK282.out) : p := h
theorem B8x14_ {p : Prop} (h : p := by (with_reducible repeat (first | refine blk_drewN ?_ _ | refine blk_drew ?_ | refine blk_alloc ?_ _)); refine blk_far ?_ NB282_370.out _; (with_reducible repeat (first | refine blk_drewN ?_ _ | refine blk_drew ?_ | refine blk_alloc ?_ _)); refine blk_far ?_ NB282_370.out _; (with_reducible repeat (first | refine blk_drewN ?_ _ | refine blk_drew ?_ | refine blk_alloc ?_ _)); refine blk_far ?_ NB282_370.out _; (with_reducible repeat (first | refine blk_drewN ?_ _ | refine blk_drew ?_ | refine blk_alloc ?_ _)); refine blk_far ?_ NB282_370.out _; (with_reducible repeat (first | refine blk_drewN ?_ _ | refine blk_drew ?_ | refine blk_alloc ?_ _)); refine blk_far ?_ NB282_370.out _; (with_reducible repeat (first | refine blk_drewN ?_ _ | refine blk_drew ?_ | refine blk_alloc ?_ _)); refine blk_far ?_ NB282_370.out _; (with_reducible repeat (first | refine blk_drewN ?_ _ | refine blk_drew ?_ | refine blk_alloc ?_ _)); refine blk_far ?_ NB282_370.out _; (with_reducible repeat (first | refine blk_drewN ?_ _ | refine blk_drew ?_ | refine blk_alloc ?_ _)); refine blk_far ?_ NB282_370.out _; (with_reducible repeat (first | refine blk_drewN ?_ _ | refine blk_drew ?_ | refine blk_alloc ?_ _)); refine blk_far ?_ NB282_370.out _; (with_reducible repeat (first | refine blk_drewN ?_ _ | refine blk_drew ?_ | refine blk_alloc ?_ _)); refine blk_far ?_ NB282_370.out _; (with_reducible repeat (first | refine blk_drewN ?_ _ | refine blk_drew ?_ | refine blk_alloc ?_ _)); refine blk_far ?_ NB282_370.out _; (with_reducible repeat (first | refine blk_drewN ?_ _ | refine blk_drew ?_ | refine blk_alloc ?_ _)); refine blk_far ?_ NB282_370.out _; (with_reducible repeat (first | refine blk_drewN ?_ _ | refine blk_drew ?_ | refine blk_alloc ?_ _)); refine blk_far ?_ NB282_370.out _; (with_reducible repeat (first | refine blk_drewN ?_ _ | refine blk_drew ?_ | refine blk_alloc ?_ _)); exact BK282.out) : p := h
theorem B8x15_ {p : Prop} (h : p := by (with_reducible repeat (first | refine blk_drewN ?_ _ | refine blk_drew ?_ | refine blk_alloc ?_ _)); refine blk_far ?_ NB298_315.out _; (with_reducible repeat (first | refine blk_drewN ?_ _ | refine blk_drew ?_ | refine blk_alloc ?_ _)); refine blk_far ?_ NB298_315.out _; (with_reducible repeat (first | refine blk_drewN ?_ _ | refine blk_drew ?_ | refine blk_alloc ?_ _)); refine blk_far ?_ NB298_315.out _; (with_reducible repeat (first | refine blk_drewN ?_ _ | refine blk_drew ?_ | refine blk_alloc ?_ _)); refine blk_far ?_ NB298_315.out _; (with_reducible repeat (first | refine blk_drewN ?_ _ | refine blk_drew ?_ | refine blk_alloc ?_ _)); refine blk_far ?_ NB298_315.out _; (with_reducible repeat (first | refine blk_drewN ?_ _ | refine blk_drew ?_ | refine blk_alloc ?_ _)); refine blk_far ?_ NB298_315.out _; (with_reducible repeat (first | refine blk_drewN ?_ _ | refine blk_drew ?_ | refine blk_alloc ?_ _)); refine blk_far ?_ NB298_315.out _; (with_reducible repeat (first | refine blk_drewN ?_ _ | refine blk_drew ?_ | refine blk_alloc ?_ _)); refine blk_far ?_ NB298_315.out _; (with_reducible repeat (first | refine blk_drewN ?_ _ | refine blk_drew ?_ | refine blk_alloc ?_ _)); refine blk_far ?_ NB298_315.out _; (with_reducible repeat (first | refine blk_drewN ?_ _ | refine blk_drew ?_ | refine blk_alloc ?_ _)); refine blk_far ?_ NB298_315.out _; (with_reducible repeat (first | refine blk_drewN ?_ _ | refine blk_drew ?_ | refine blk_alloc ?_ _)); refine blk_far ?_ NB298_315.out _; (with_reducible repeat (first | refine blk_drewN ?_ _ | refine blk_drew ?_ | refine blk_alloc ?_ _)); refine blk_far ?_ NB298_315.out _; (with_reducible repeat (first | refine blk_drewN ?_ _ | refine blk_drew ?_ | refine blk_alloc ?_ _)); refine blk_far ?_ NB298_315.out _; (with_reducible repeat (first | refine blk_drewN ?_ _ | refine blk_drew ?_ | refine blk_alloc ?_ _)); exact BK298.out) : p := h
theorem B8x16_ {p : Prop} (h : p := by (with_reducible repeat (first | refine blk_drewN ?_ _ | refine blk_drew ?_ | refine blk_alloc ?_ _)); refine blk_far ?_ NB298_370.out _; (with_reducible repeat (first | refine blk_drewN ?_ _ | refine blk_drew ?_ | refine blk_alloc ?_ _)); refine blk_far ?_ NB298_370.out _; (with_reducible repeat (first | refine blk_drewN ?_ _ | refine blk_drew ?_ | refine blk_alloc ?_ _)); refine blk_far ?_ NB298_370.out _; (with_reducible repeat (first | refine blk_drewN ?_ _ | refine blk_drew ?_ | refine blk_alloc ?_ _)); refine blk_far ?_ NB298_370.out _; (with_reducible repeat (first | refine blk_drewN ?_ _ | refine blk_drew ?_ | refine blk_alloc ?_ _)); refine blk_far ?_ NB298_370.out _; (with_reducible repeat (first | refine blk_drewN ?_ _ | refine blk_drew ?_ | refine blk_alloc ?_ _)); refine blk_far ?_ NB298_370.out _; (with_reducible repeat (first | refine blk_drewN ?_ _ | refine blk_drew ?_ | refine blk_alloc ?_ _)); refine blk_far ?_ NB298_370.out _; (with_reducible repeat (first | refine blk_drewN ?_ _ | refine blk_drew ?_ | refine blk_alloc ?_ _)); refine blk_far ?_ NB298_370.out _; (with_reducible repeat (first | refine blk_drewN ?_ _ | refine blk_drew ?_ | refine blk_alloc ?_ _)); refine blk_far ?_ NB298_370.out _; (with_reducible repeat (first | refine blk_drewN ?_ _ | refine blk_drew ?_ | refine blk_alloc ?_ _)); refine blk_far ?_ NB298_370.out _; (with_reducible repeat (first | refine blk_drewN ?_ _ | refine blk_drew ?_ | refine blk_alloc ?_ _)); refine blk_far ?_ NB298_370.out _; (with_reducible repeat (first | refine blk_drewN ?_ _ | refine blk_drew ?_ | refine blk_alloc ?_ _)); refine blk_far ?_ NB298_370.out _; (with_reducible repeat (first | refine blk_drewN ?_ _ | refine blk_drew ?_ | refine blk_alloc ?_ _)); refine blk_far ?_ NB298_370.out _; (with_reducible repeat (first | refine blk_drewN ?_ _ | refine blk_drew ?_ | refine blk_alloc ?_ _)); exact BK298.out) : p := h
theorem B8x17_ {p : Prop} (h : p := by (with_reducible repeat (first | refine blk_drewN ?_ _ | refine blk_drew ?_ | refine blk_alloc ?_ _)); refine blk_far ?_ NB315_370.out _; (with_reducible repeat (first | refine blk_drewN ?_ _ | refine blk_drew ?_ | refine blk_alloc ?_ _)); refine blk_far ?_ NB315_370.out _; (with_reducible repeat (first | refine blk_drewN ?_ _ | refine blk_drew ?_ | refine blk_alloc ?_ _)); refine blk_far ?_ NB315_370.out _; (with_reducible repeat (first | refine blk_drewN ?_ _ | refine blk_drew ?_ | refine blk_alloc ?_ _)); refine blk_far ?_ NB315_370.out _; (with_reducible repeat (first | refine blk_drewN ?_ _ | refine blk_drew ?_ | refine blk_alloc ?_ _)); refine blk_far ?_ NB315_370.out _; (with_reducible repeat (first | refine blk_drewN ?_ _ | refine blk_drew ?_ | refine blk_alloc ?_ _)); refine blk_far ?_ NB315_370.out _; (with_reducible repeat (first | refine blk_drewN ?_ _ | refine blk_drew ?_ | refine blk_alloc ?_ _)); refine blk_far ?_ NB315_370.out _; (with_reducible repeat (first | refine blk_drewN ?_ _ | refine blk_drew ?_ | refine blk_alloc ?_ _)); refine blk_far ?_ NB315_370.out _; (with_reducible repeat (first | refine blk_drewN ?_ _ | refine blk_drew ?_ | refine blk_alloc ?_ _)); refine blk_far ?_ NB315_370.out _; (with_reducible repeat (first | refine blk_drewN ?_ _ | refine blk_drew ?_ | refine blk_alloc ?_ _)); refine blk_far ?_ NB315_370.out _; (with_reducible repeat (first | refine blk_drewN ?_ _ | refine blk_drew ?_ | refine blk_alloc ?_ _)); refine blk_far ?_ NB315_370.out _; (with_reducible repeat (first | refine blk_drewN ?_ _ | refine blk_drew ?_ | refine blk_alloc ?_ _)); refine blk_far ?_ NB315_370.out _; (with_reducible repeat (first | refine blk_drewN ?_ _ | refine blk_drew ?_ | refine blk_alloc ?_ _)); refine blk_far ?_ NB315_370.out _; (with_reducible repeat (first | refine blk_drewN ?_ _ | refine blk_drew ?_ | refine blk_alloc ?_ _)); exact BK315.out) : p := h
theorem B8x18_ {p : Prop} (h : p := by (with_reducible repeat (first | refine blk_drewN ?_ _ | refine blk_drew ?_ | refine blk_alloc ?_ _)); exact BK298.out) : p := h
theorem B8x19_ {p : Prop} (h : p := by (with_reducible repeat (first | refine blk_drewN ?_ _ | refine blk_drew ?_ | refine blk_alloc ?_ _)); exact BK315.out) : p := h
theorem B8x20_ {p : Prop} (h : p := by repeat (first | (with_reducible first | exact HB.out | apply below_alloc | apply pw_below_drewN | apply below_drew1 | refine below_set ?_ GE249.out) | exact HB.out)) : p := h
theorem B8x21_ {p : Prop} (h : p := by (with_reducible repeat (first | apply Kd.R_alloc | apply Kd.R_drewN | apply Kd.R_drew)); exact HO_283009.out) : p := h
theorem B8x22_ {p : Prop} (h : p := by (with_reducible repeat (first | apply Kd.R_alloc | apply Kd.R_drewN | apply Kd.R_drew)); exact HO_299009.out) : p := h
theorem B8x23_ {p : Prop} (h : p := by (with_reducible repeat (first | apply Kd.R_alloc | apply Kd.R_drewN | apply Kd.R_drew)); exact HO_316009.out) : p := h
theorem B8x24_ {p : Prop} (h : p := by (with_reducible repeat (first | apply Kd.R_alloc | apply Kd.R_drewN | apply Kd.R_drew)); exact (Kd.R_mono (Kd.R_far (p := ⟨gb370, 12, none⟩) (Kd.R_far (p := ⟨gb370, 11, none⟩) (Kd.R_far (p := ⟨gb370, 10, none⟩) (Kd.R_far (p := ⟨gb370, 9, none⟩) (Kd.R_far (p := ⟨gb370, 8, none⟩) (Kd.R_far (p := ⟨gb370, 7, none⟩) (Kd.R_far (p := ⟨gb370, 6, none⟩) (Kd.R_far (p := ⟨gb370, 5, none⟩) (Kd.R_far (p := ⟨gb370, 4, none⟩) (Kd.R_far (p := ⟨gb370, 3, none⟩) (Kd.R_far (p := ⟨gb370, 2, none⟩) (Kd.R_far (p := ⟨gb370, 1, none⟩) (Kd.R_far (p := ⟨gb370, 0, none⟩) (Kd.R_types HO_299009.out BK370.out (by decide)) (fun _ hk => hk.2) (.int .i64 t354)) (fun _ hk => hk.2) (.int .i64 t355)) (fun _ hk => hk.2) (.int .i64 t356)) (fun _ hk => hk.2) (.int .i64 t357)) (fun _ hk => hk.2) (.string t358)) (fun _ hk => hk.2) (.int .i64 t359)) (fun _ hk => hk.2) (.int .i64 t360)) (fun _ hk => hk.2) (.bool t361)) (fun _ hk => hk.2) (.string t362)) (fun _ hk => hk.2) (.slice Ao119 t363.length co119)) (fun _ hk => hk.2) (.bool t366)) (fun _ hk => hk.2) (.int .i64 t367)) (fun _ hk => hk.2) (.int .i64 t368)) (fun _ h_ => h_.1))) : p := h
theorem B8x25_ {p : Prop} (h : p := by (with_reducible repeat (first | apply Kd.R_alloc | apply Kd.R_drewN | apply Kd.R_drew)); exact (Kd.R_mono (Kd.R_far (p := ⟨gb370, 12, none⟩) (Kd.R_far (p := ⟨gb370, 11, none⟩) (Kd.R_far (p := ⟨gb370, 10, none⟩) (Kd.R_far (p := ⟨gb370, 9, none⟩) (Kd.R_far (p := ⟨gb370, 8, none⟩) (Kd.R_far (p := ⟨gb370, 7, none⟩) (Kd.R_far (p := ⟨gb370, 6, none⟩) (Kd.R_far (p := ⟨gb370, 5, none⟩) (Kd.R_far (p := ⟨gb370, 4, none⟩) (Kd.R_far (p := ⟨gb370, 3, none⟩) (Kd.R_far (p := ⟨gb370, 2, none⟩) (Kd.R_far (p := ⟨gb370, 1, none⟩) (Kd.R_far (p := ⟨gb370, 0, none⟩) (Kd.R_types HO_316009.out BK370.out (by decide)) (fun _ hk => hk.2) (.int .i64 t354)) (fun _ hk => hk.2) (.int .i64 t355)) (fun _ hk => hk.2) (.int .i64 t356)) (fun _ hk => hk.2) (.int .i64 t357)) (fun _ hk => hk.2) (.string t358)) (fun _ hk => hk.2) (.int .i64 t359)) (fun _ hk => hk.2) (.int .i64 t360)) (fun _ hk => hk.2) (.bool t361)) (fun _ hk => hk.2) (.string t362)) (fun _ hk => hk.2) (.slice Ao119 t363.length co119)) (fun _ hk => hk.2) (.bool t366)) (fun _ hk => hk.2) (.int .i64 t367)) (fun _ hk => hk.2) (.int .i64 t368)) (fun _ h_ => h_.1))) : p := h
theorem B8x26_ {p : Prop} (h : p := by (with_reducible repeat (first | apply Kd.R_alloc | apply Kd.R_drewN | apply Kd.R_drew)); exact (Kd.R_mono (Kd.R_far (p := ⟨gb370, 12, none⟩) (Kd.R_far (p := ⟨gb370, 11, none⟩) (Kd.R_far (p := ⟨gb370, 10, none⟩) (Kd.R_far (p := ⟨gb370, 9, none⟩) (Kd.R_far (p := ⟨gb370, 8, none⟩) (Kd.R_far (p := ⟨gb370, 7, none⟩) (Kd.R_far (p := ⟨gb370, 6, none⟩) (Kd.R_far (p := ⟨gb370, 5, none⟩) (Kd.R_far (p := ⟨gb370, 4, none⟩) (Kd.R_far (p := ⟨gb370, 3, none⟩) (Kd.R_far (p := ⟨gb370, 2, none⟩) (Kd.R_far (p := ⟨gb370, 1, none⟩) (Kd.R_far (p := ⟨gb370, 0, none⟩) (Kd.R_types HO350.out BK370.out (by decide)) (fun _ hk => hk.2) (.int .i64 t354)) (fun _ hk => hk.2) (.int .i64 t355)) (fun _ hk => hk.2) (.int .i64 t356)) (fun _ hk => hk.2) (.int .i64 t357)) (fun _ hk => hk.2) (.string t358)) (fun _ hk => hk.2) (.int .i64 t359)) (fun _ hk => hk.2) (.int .i64 t360)) (fun _ hk => hk.2) (.bool t361)) (fun _ hk => hk.2) (.string t362)) (fun _ hk => hk.2) (.slice Ao119 t363.length co119)) (fun _ hk => hk.2) (.bool t366)) (fun _ hk => hk.2) (.int .i64 t367)) (fun _ hk => hk.2) (.int .i64 t368)) (fun _ h_ => h_.1))) : p := h
theorem B8x27_ {p : Prop} (h : p := by (with_reducible repeat (first | apply Kd.R_alloc | apply Kd.R_drewN | apply Kd.R_drew)); exact (Kd.R_mono (Kd.R_far (p := ⟨gb282, 12, none⟩) (Kd.R_far (p := ⟨gb282, 11, none⟩) (Kd.R_far (p := ⟨gb282, 10, none⟩) (Kd.R_far (p := ⟨gb282, 9, none⟩) (Kd.R_far (p := ⟨gb282, 8, none⟩) (Kd.R_far (p := ⟨gb282, 7, none⟩) (Kd.R_far (p := ⟨gb282, 6, none⟩) (Kd.R_far (p := ⟨gb282, 5, none⟩) (Kd.R_far (p := ⟨gb282, 4, none⟩) (Kd.R_far (p := ⟨gb282, 3, none⟩) (Kd.R_far (p := ⟨gb282, 2, none⟩) (Kd.R_far (p := ⟨gb282, 1, none⟩) (Kd.R_far (p := ⟨gb282, 0, none⟩) (Kd.R_types HO262.out BK282.out (by decide)) (fun _ hk => hk.2) (.int .i64 t266)) (fun _ hk => hk.2) (.int .i64 t267)) (fun _ hk => hk.2) (.int .i64 t268)) (fun _ hk => hk.2) (.int .i64 t269)) (fun _ hk => hk.2) (.string t270)) (fun _ hk => hk.2) (.int .i64 t271)) (fun _ hk => hk.2) (.int .i64 t272)) (fun _ hk => hk.2) (.bool t273)) (fun _ hk => hk.2) (.string t274)) (fun _ hk => hk.2) (.slice Ao25 t275.length co25)) (fun _ hk => hk.2) (.bool t278)) (fun _ hk => hk.2) (.int .i64 t279)) (fun _ hk => hk.2) (.int .i64 t280)) (fun _ h_ => h_.1))) : p := h
theorem B8x28_ {p : Prop} (h : p := by (with_reducible repeat (first | apply Kd.R_alloc | apply Kd.R_drewN | apply Kd.R_drew)); exact (Kd.R_mono (Kd.R_far (p := ⟨gb282, 12, none⟩) (Kd.R_far (p := ⟨gb282, 11, none⟩) (Kd.R_far (p := ⟨gb282, 10, none⟩) (Kd.R_far (p := ⟨gb282, 9, none⟩) (Kd.R_far (p := ⟨gb282, 8, none⟩) (Kd.R_far (p := ⟨gb282, 7, none⟩) (Kd.R_far (p := ⟨gb282, 6, none⟩) (Kd.R_far (p := ⟨gb282, 5, none⟩) (Kd.R_far (p := ⟨gb282, 4, none⟩) (Kd.R_far (p := ⟨gb282, 3, none⟩) (Kd.R_far (p := ⟨gb282, 2, none⟩) (Kd.R_far (p := ⟨gb282, 1, none⟩) (Kd.R_far (p := ⟨gb282, 0, none⟩) (Kd.R_types HO277.out BK282.out (by decide)) (fun _ hk => hk.2) (.int .i64 t266)) (fun _ hk => hk.2) (.int .i64 t267)) (fun _ hk => hk.2) (.int .i64 t268)) (fun _ hk => hk.2) (.int .i64 t269)) (fun _ hk => hk.2) (.string t270)) (fun _ hk => hk.2) (.int .i64 t271)) (fun _ hk => hk.2) (.int .i64 t272)) (fun _ hk => hk.2) (.bool t273)) (fun _ hk => hk.2) (.string t274)) (fun _ hk => hk.2) (.slice Ao25 t275.length co25)) (fun _ hk => hk.2) (.bool t278)) (fun _ hk => hk.2) (.int .i64 t279)) (fun _ hk => hk.2) (.int .i64 t280)) (fun _ h_ => h_.1))) : p := h
theorem B8x29_ {p : Prop} (h : p := by (with_reducible repeat (first | apply Kd.R_alloc | apply Kd.R_drewN | apply Kd.R_drew)); exact (Kd.R_mono (Kd.R_far (p := ⟨gb298, 12, none⟩) (Kd.R_far (p := ⟨gb298, 11, none⟩) (Kd.R_far (p := ⟨gb298, 10, none⟩) (Kd.R_far (p := ⟨gb298, 9, none⟩) (Kd.R_far (p := ⟨gb298, 8, none⟩) (Kd.R_far (p := ⟨gb298, 7, none⟩) (Kd.R_far (p := ⟨gb298, 6, none⟩) (Kd.R_far (p := ⟨gb298, 5, none⟩) (Kd.R_far (p := ⟨gb298, 4, none⟩) (Kd.R_far (p := ⟨gb298, 3, none⟩) (Kd.R_far (p := ⟨gb298, 2, none⟩) (Kd.R_far (p := ⟨gb298, 1, none⟩) (Kd.R_far (p := ⟨gb298, 0, none⟩) (Kd.R_types HO262.out BK298.out (by decide)) (fun _ hk => hk.2) (.int .i64 t283)) (fun _ hk => hk.2) (.int .i64 t284)) (fun _ hk => hk.2) (.int .i64 t285)) (fun _ hk => hk.2) (.int .i64 t286)) (fun _ hk => hk.2) (.string t287)) (fun _ hk => hk.2) (.int .i64 t288)) (fun _ hk => hk.2) (.int .i64 t289)) (fun _ hk => hk.2) (.bool t290)) (fun _ hk => hk.2) (.string t291)) (fun _ hk => hk.2) (.slice Ao32 t292.length co32)) (fun _ hk => hk.2) (.bool t295)) (fun _ hk => hk.2) (.int .i64 t296)) (fun _ hk => hk.2) (.int .i64 t297)) (fun _ h_ => h_.1))) : p := h
theorem B8x30_ {p : Prop} (h : p := by (with_reducible repeat (first | apply Kd.R_alloc | apply Kd.R_drewN | apply Kd.R_drew)); exact (Kd.R_mono (Kd.R_far (p := ⟨gb298, 12, none⟩) (Kd.R_far (p := ⟨gb298, 11, none⟩) (Kd.R_far (p := ⟨gb298, 10, none⟩) (Kd.R_far (p := ⟨gb298, 9, none⟩) (Kd.R_far (p := ⟨gb298, 8, none⟩) (Kd.R_far (p := ⟨gb298, 7, none⟩) (Kd.R_far (p := ⟨gb298, 6, none⟩) (Kd.R_far (p := ⟨gb298, 5, none⟩) (Kd.R_far (p := ⟨gb298, 4, none⟩) (Kd.R_far (p := ⟨gb298, 3, none⟩) (Kd.R_far (p := ⟨gb298, 2, none⟩) (Kd.R_far (p := ⟨gb298, 1, none⟩) (Kd.R_far (p := ⟨gb298, 0, none⟩) (Kd.R_types HO277.out BK298.out (by decide)) (fun _ hk => hk.2) (.int .i64 t283)) (fun _ hk => hk.2) (.int .i64 t284)) (fun _ hk => hk.2) (.int .i64 t285)) (fun _ hk => hk.2) (.int .i64 t286)) (fun _ hk => hk.2) (.string t287)) (fun _ hk => hk.2) (.int .i64 t288)) (fun _ hk => hk.2) (.int .i64 t289)) (fun _ hk => hk.2) (.bool t290)) (fun _ hk => hk.2) (.string t291)) (fun _ hk => hk.2) (.slice Ao32 t292.length co32)) (fun _ hk => hk.2) (.bool t295)) (fun _ hk => hk.2) (.int .i64 t296)) (fun _ hk => hk.2) (.int .i64 t297)) (fun _ h_ => h_.1))) : p := h
theorem B8x31_ {p : Prop} (h : p := by (with_reducible repeat (first | apply Kd.R_alloc | apply Kd.R_drewN | apply Kd.R_drew)); exact (Kd.R_mono (Kd.R_far (p := ⟨gb315, 12, none⟩) (Kd.R_far (p := ⟨gb315, 11, none⟩) (Kd.R_far (p := ⟨gb315, 10, none⟩) (Kd.R_far (p := ⟨gb315, 9, none⟩) (Kd.R_far (p := ⟨gb315, 8, none⟩) (Kd.R_far (p := ⟨gb315, 7, none⟩) (Kd.R_far (p := ⟨gb315, 6, none⟩) (Kd.R_far (p := ⟨gb315, 5, none⟩) (Kd.R_far (p := ⟨gb315, 4, none⟩) (Kd.R_far (p := ⟨gb315, 3, none⟩) (Kd.R_far (p := ⟨gb315, 2, none⟩) (Kd.R_far (p := ⟨gb315, 1, none⟩) (Kd.R_far (p := ⟨gb315, 0, none⟩) (Kd.R_types HO262.out BK315.out (by decide)) (fun _ hk => hk.2) (.int .i64 t299)) (fun _ hk => hk.2) (.int .i64 t300)) (fun _ hk => hk.2) (.int .i64 t301)) (fun _ hk => hk.2) (.int .i64 t302)) (fun _ hk => hk.2) (.string t303)) (fun _ hk => hk.2) (.int .i64 t304)) (fun _ hk => hk.2) (.int .i64 t305)) (fun _ hk => hk.2) (.bool t306)) (fun _ hk => hk.2) (.string t307)) (fun _ hk => hk.2) (.slice Ao39 t308.length co39)) (fun _ hk => hk.2) (.bool t311)) (fun _ hk => hk.2) (.int .i64 t312)) (fun _ hk => hk.2) (.int .i64 t313)) (fun _ h_ => h_.1))) : p := h
theorem B8x32_ {p : Prop} (h : p := by (with_reducible repeat (first | apply Kd.R_alloc | apply Kd.R_drewN | apply Kd.R_drew)); exact (Kd.R_mono (Kd.R_far (p := ⟨gb315, 12, none⟩) (Kd.R_far (p := ⟨gb315, 11, none⟩) (Kd.R_far (p := ⟨gb315, 10, none⟩) (Kd.R_far (p := ⟨gb315, 9, none⟩) (Kd.R_far (p := ⟨gb315, 8, none⟩) (Kd.R_far (p := ⟨gb315, 7, none⟩) (Kd.R_far (p := ⟨gb315, 6, none⟩) (Kd.R_far (p := ⟨gb315, 5, none⟩) (Kd.R_far (p := ⟨gb315, 4, none⟩) (Kd.R_far (p := ⟨gb315, 3, none⟩) (Kd.R_far (p := ⟨gb315, 2, none⟩) (Kd.R_far (p := ⟨gb315, 1, none⟩) (Kd.R_far (p := ⟨gb315, 0, none⟩) (Kd.R_types HO294.out BK315.out (by decide)) (fun _ hk => hk.2) (.int .i64 t299)) (fun _ hk => hk.2) (.int .i64 t300)) (fun _ hk => hk.2) (.int .i64 t301)) (fun _ hk => hk.2) (.int .i64 t302)) (fun _ hk => hk.2) (.string t303)) (fun _ hk => hk.2) (.int .i64 t304)) (fun _ hk => hk.2) (.int .i64 t305)) (fun _ hk => hk.2) (.bool t306)) (fun _ hk => hk.2) (.string t307)) (fun _ hk => hk.2) (.slice Ao39 t308.length co39)) (fun _ hk => hk.2) (.bool t311)) (fun _ hk => hk.2) (.int .i64 t312)) (fun _ hk => hk.2) (.int .i64 t313)) (fun _ h_ => h_.1))) : p := h
theorem B8x33_ {p : Prop} (h : p := by repeat (first | (with_reducible first | exact HB.out | apply below_alloc | apply pw_below_drewN | apply below_drew1) | exact HB.out)) : p := h
theorem B8x34_ {p : Prop} (h : p := by repeat (first | (with_reducible first | exact HB.out | apply below_alloc | apply pw_below_drewN | apply below_drew1 | refine below_set ?_ GE249.out | refine below_set ?_ GE282.out) | exact HB.out)) : p := h
theorem B8x35_ {p : Prop} (h : p := by repeat (first | (with_reducible first | exact HB.out | apply below_alloc | apply pw_below_drewN | apply below_drew1 | refine below_set ?_ GE249.out | refine below_set ?_ GE282.out | refine below_set ?_ GE298.out) | exact HB.out)) : p := h
theorem B8x36_ {p : Prop} (h : p := by repeat (first | (with_reducible first | exact HB.out | apply below_alloc | apply pw_below_drewN | apply below_drew1 | refine below_set ?_ GE249.out | refine below_set ?_ GE282.out | refine below_set ?_ GE298.out | refine below_set ?_ GE315.out | refine below_set ?_ GE370.out) | exact HB.out)) : p := h
theorem B8x37_ {p : Prop} (h : p := by (with_reducible repeat (first | apply Kd.R_alloc | apply Kd.R_drewN | apply Kd.R_drew)); exact HO262.out) : p := h
theorem B8x38_ {p : Prop} (h : p := by kernel_rfl) : p := h
theorem B8x39_ {p : Prop} (h : p := by (with_reducible repeat (first | apply Kd.R_alloc | apply Kd.R_drewN | apply Kd.R_drew)); exact HO277.out) : p := h
theorem B8x40_ {p : Prop} (h : p := by (with_reducible repeat (first | apply Kd.R_alloc | apply Kd.R_drewN | apply Kd.R_drew)); exact HO328.out) : p := h
theorem B8x41_ {p : Prop} (h : p := by (with_reducible repeat (first | apply Kd.R_alloc | apply Kd.R_drewN | apply Kd.R_drew)); exact HO350.out) : p := h
theorem B8x42_ {p : Prop} (h : p := by (with_reducible repeat (first | apply Kd.R_alloc | apply Kd.R_drewN | apply Kd.R_drew)); exact HO294.out) : p := h
/-! ### laws_FnExactWrite: function 12 -/
mutual
def laws_FnExactWrite.j0 : Nat → ByteArray → Bool → Bool → Bool → Int → Int → Int → Int → ByteArray → Int → Int → Bool → ByteArray → List (S170) → Bool → Int → Int → Int → Int → Int → Int → ByteArray → Int → Int → Bool → ByteArray → List (S112) → Bool → Int → Int → Int → Int → Int → Int → ByteArray → Int → Int → Bool → ByteArray → List (S112) → Bool → Int → Int → Int → Int → Int → Int → ByteArray → Int → Int → Bool → ByteArray → List (S112) → Bool → Int → Int → Option (Bool)
 | 0, _, _, _, _, _, _, _, _, _, _, _, _, _, _, _, _, _, _, _, _, _, _, _, _, _, _, _, _, _, _, _, _, _, _, _, _, _, _, _, _, _, _, _, _, _, _, _, _, _, _, _, _, _, _, _, _ => none
 | k + 1, x1, x7, x10, x47, x250000, x250001, x250002, x250003, x250004, x250005, x250006, x250007, x250008, x250009, x250010, x250011, x250012, x283000, x283001, x283002, x283003, x283004, x283005, x283006, x283007, x283008, x283009, x283010, x283011, x283012, x299000, x299001, x299002, x299003, x299004, x299005, x299006, x299007, x299008, x299009, x299010, x299011, x299012, x316000, x316001, x316002, x316003, x316004, x316005, x316006, x316007, x316008, x316009, x316010, x316011, x316012 => if x47 = true then (some false) else ((laws_toStream.f k x250000 x250001 x250002 x250003 x250004 x250005 x250006 x250007 x250008 x250009 x250010 x250011 x250012).bind fun bt317 => ((laws_eqStream.f k x299000 x299001 x299002 x299003 x299004 x299005 x299006 x299007 x299008 x299009 x299010 x299011 x299012 bt317.1 bt317.2.1 bt317.2.2.1 bt317.2.2.2.1 bt317.2.2.2.2.1 bt317.2.2.2.2.2.1 bt317.2.2.2.2.2.2.1 bt317.2.2.2.2.2.2.2.1 bt317.2.2.2.2.2.2.2.2.1 bt317.2.2.2.2.2.2.2.2.2.1 bt317.2.2.2.2.2.2.2.2.2.2.1 bt317.2.2.2.2.2.2.2.2.2.2.2.1 bt317.2.2.2.2.2.2.2.2.2.2.2.2).bind fun t332 => (if t332 = true then ((laws_markStream.f k x299000 x299001 x299002 x299003 x299004 x299005 x299006 x299007 x299008 x299009 x299010 x299011 x299012 1).bind fun bt333 => (if bt333.1 < 0 then (laws_FnExactWrite.j1 k x1 x7 true x250000 x250001 x250002 x250003 x250004 x250005 x250006 x250007 x250008 x250009 x250010 x250011 x250012 x283000 x283001 x283002 x283003 x283004 x283005 x283006 x283007 x283008 x283009 x283010 x283011 x283012 x316000 x316001 x316002 x316003 x316004 x316005 x316006 x316007 x316008 x316009 x316010 x316011 x316012) else ((laws_eqStream.f k x316000 x316001 x316002 x316003 x316004 x316005 x316006 x316007 x316008 x316009 x316010 x316011 x316012 x283000 x283001 x283002 x283003 x283004 x283005 x283006 x283007 x283008 x283009 x283010 x283011 x283012).bind fun t335 => (if t335 = true then (laws_FnExactWrite.j1 k x1 x7 (x10 != x7) x250000 x250001 x250002 x250003 x250004 x250005 x250006 x250007 x250008 x250009 x250010 x250011 x250012 x283000 x283001 x283002 x283003 x283004 x283005 x283006 x283007 x283008 x283009 x283010 x283011 x283012 x316000 x316001 x316002 x316003 x316004 x316005 x316006 x316007 x316008 x316009 x316010 x316011 x316012) else (laws_FnExactWrite.j1 k x1 x7 true x250000 x250001 x250002 x250003 x250004 x250005 x250006 x250007 x250008 x250009 x250010 x250011 x250012 x283000 x283001 x283002 x283003 x283004 x283005 x283006 x283007 x283008 x283009 x283010 x283011 x283012 x316000 x316001 x316002 x316003 x316004 x316005 x316006 x316007 x316008 x316009 x316010 x316011 x316012))))) else (some false))))
def laws_FnExactWrite.j1 : Nat → ByteArray → Bool → Bool → Int → Int → Int → Int → ByteArray → Int → Int → Bool → ByteArray → List (S170) → Bool → Int → Int → Int → Int → Int → Int → ByteArray → Int → Int → Bool → ByteArray → List (S112) → Bool → Int → Int → Int → Int → Int → Int → ByteArray → Int → Int → Bool → ByteArray → List (S112) → Bool → Int → Int → Option (Bool)
 | 0, _, _, _, _, _, _, _, _, _, _, _, _, _, _, _, _, _, _, _, _, _, _, _, _, _, _, _, _, _, _, _, _, _, _, _, _, _, _, _, _, _, _ => none
 | k + 1, x1, x7, x68, x250000, x250001, x250002, x250003, x250004, x250005, x250006, x250007, x250008, x250009, x250010, x250011, x250012, x283000, x283001, x283002, x283003, x283004, x283005, x283006, x283007, x283008, x283009, x283010, x283011, x283012, x316000, x316001, x316002, x316003, x316004, x316005, x316006, x316007, x316008, x316009, x316010, x316011, x316012 => if x68 = true then (some false) else ((laws_markStream.f k x316000 x316001 x316002 x316003 x316004 x316005 x316006 x316007 x316008 x316009 x316010 x316011 x316012 1).bind fun bt336 => ((laws_heldStream.f k x316000 x316001 x316002 x316003 x316004 x316005 x316006 x316007 x316008 bt336.2 x316010 x316011 x316012 1).bind fun t338 => (if t338 < 0 then (some false) else (if t338 = bt336.1 then ((laws_toStream.f k x250000 x250001 x250002 x250003 x250004 x250005 x250006 x250007 x250008 x250009 x250010 x250011 x250012).bind fun bt339 => ((impl_Write.f k bt339.1 bt339.2.1 bt339.2.2.1 bt339.2.2.2.1 bt339.2.2.2.2.1 bt339.2.2.2.2.2.1 bt339.2.2.2.2.2.2.1 bt339.2.2.2.2.2.2.2.1 bt339.2.2.2.2.2.2.2.2.1 bt339.2.2.2.2.2.2.2.2.2.1 bt339.2.2.2.2.2.2.2.2.2.2.1 bt339.2.2.2.2.2.2.2.2.2.2.2.1 bt339.2.2.2.2.2.2.2.2.2.2.2.2 x1).bind fun bt354 => ((laws_eqStream.f k bt354.1 bt354.2.1 bt354.2.2.1 bt354.2.2.2.1 bt354.2.2.2.2.1 bt354.2.2.2.2.2.1 bt354.2.2.2.2.2.2.1 bt354.2.2.2.2.2.2.2.1 bt354.2.2.2.2.2.2.2.2.1 bt354.2.2.2.2.2.2.2.2.2.1 bt354.2.2.2.2.2.2.2.2.2.2.1 bt354.2.2.2.2.2.2.2.2.2.2.2.1 bt354.2.2.2.2.2.2.2.2.2.2.2.2.1 x283000 x283001 x283002 x283003 x283004 x283005 x283006 x283007 x283008 x283009 x283010 x283011 x283012).bind fun t371 => (if t371 = true then (laws_FnExactWrite.j2 k bt336.1 (bt354.2.2.2.2.2.2.2.2.2.2.2.2.2 != x7) x316000 x316001 x316002 x316003 x316004 x316005 x316006 x316007 x316008 bt336.2 x316010 x316011 x316012) else (laws_FnExactWrite.j2 k bt336.1 true x316000 x316001 x316002 x316003 x316004 x316005 x316006 x316007 x316008 bt336.2 x316010 x316011 x316012))))) else (some false)))))
def laws_FnExactWrite.j2 : Nat → Int → Bool → Int → Int → Int → Int → ByteArray → Int → Int → Bool → ByteArray → List (S112) → Bool → Int → Int → Option (Bool)
 | 0, _, _, _, _, _, _, _, _, _, _, _, _, _, _, _ => none
 | k + 1, x12, x95, x316000, x316001, x316002, x316003, x316004, x316005, x316006, x316007, x316008, x316009, x316010, x316011, x316012 => if x95 = true then (some false) else ((laws_heldStream.f k x316000 x316001 x316002 x316003 x316004 x316005 x316006 x316007 x316008 x316009 x316010 x316011 x316012 1).bind fun t372 => (if t372 < 0 then (some false) else (if t372 = x12 then (some true) else (some false))))
end
def laws_FnExactWrite.f (k : Nat) (a0_0 : Int) (a0_1 : Int) (a0_2 : Int) (a0_3 : Int) (a0_4 : ByteArray) (a0_5 : Int) (a0_6 : Int) (a0_7 : Bool) (a0_8 : ByteArray) (l0_9 : List (S170)) (a0_10 : Bool) (a0_11 : Int) (a0_12 : Int) (a1 : ByteArray) : Option (Bool) := if (a1.size : Int) > 1048576 then (some true) else ((laws_szStream.f k a0_0 a0_1 a0_2 a0_3 a0_4 a0_5 a0_6 a0_7 a0_8 l0_9 a0_10 a0_11 a0_12 1048576).bind fun t250 => (if t250 < 0 then (some true) else ((laws_toStream.f k a0_0 a0_1 a0_2 a0_3 a0_4 a0_5 a0_6 a0_7 a0_8 l0_9 a0_10 a0_11 a0_12).bind fun bt251 => ((spec_Write.f k bt251.1 bt251.2.1 bt251.2.2.1 bt251.2.2.2.1 bt251.2.2.2.2.1 bt251.2.2.2.2.2.1 bt251.2.2.2.2.2.2.1 bt251.2.2.2.2.2.2.2.1 bt251.2.2.2.2.2.2.2.2.1 bt251.2.2.2.2.2.2.2.2.2.1 bt251.2.2.2.2.2.2.2.2.2.2.1 bt251.2.2.2.2.2.2.2.2.2.2.2.1 bt251.2.2.2.2.2.2.2.2.2.2.2.2 a1).bind fun bt266 => ((laws_toStream.f k a0_0 a0_1 a0_2 a0_3 a0_4 a0_5 a0_6 a0_7 a0_8 l0_9 a0_10 a0_11 a0_12).bind fun bt283 => ((impl_Write.f k bt283.1 bt283.2.1 bt283.2.2.1 bt283.2.2.2.1 bt283.2.2.2.2.1 bt283.2.2.2.2.2.1 bt283.2.2.2.2.2.2.1 bt283.2.2.2.2.2.2.2.1 bt283.2.2.2.2.2.2.2.2.1 bt283.2.2.2.2.2.2.2.2.2.1 bt283.2.2.2.2.2.2.2.2.2.2.1 bt283.2.2.2.2.2.2.2.2.2.2.2.1 bt283.2.2.2.2.2.2.2.2.2.2.2.2 a1).bind fun bt299 => ((laws_eqStream.f k bt299.1 bt299.2.1 bt299.2.2.1 bt299.2.2.2.1 bt299.2.2.2.2.1 bt299.2.2.2.2.2.1 bt299.2.2.2.2.2.2.1 bt299.2.2.2.2.2.2.2.1 bt299.2.2.2.2.2.2.2.2.1 bt299.2.2.2.2.2.2.2.2.2.1 bt299.2.2.2.2.2.2.2.2.2.2.1 bt299.2.2.2.2.2.2.2.2.2.2.2.1 bt299.2.2.2.2.2.2.2.2.2.2.2.2.1 bt266.1 bt266.2.1 bt266.2.2.1 bt266.2.2.2.1 bt266.2.2.2.2.1 bt266.2.2.2.2.2.1 bt266.2.2.2.2.2.2.1 bt266.2.2.2.2.2.2.2.1 bt266.2.2.2.2.2.2.2.2.1 bt266.2.2.2.2.2.2.2.2.2.1 bt266.2.2.2.2.2.2.2.2.2.2.1 bt266.2.2.2.2.2.2.2.2.2.2.2.1 bt266.2.2.2.2.2.2.2.2.2.2.2.2.1).bind fun t316 => (if t316 = true then (laws_FnExactWrite.j0 k a1 bt266.2.2.2.2.2.2.2.2.2.2.2.2.2 bt299.2.2.2.2.2.2.2.2.2.2.2.2.2 (bt299.2.2.2.2.2.2.2.2.2.2.2.2.2 != bt266.2.2.2.2.2.2.2.2.2.2.2.2.2) a0_0 a0_1 a0_2 a0_3 a0_4 a0_5 a0_6 a0_7 a0_8 l0_9 a0_10 a0_11 a0_12 bt266.1 bt266.2.1 bt266.2.2.1 bt266.2.2.2.1 bt266.2.2.2.2.1 bt266.2.2.2.2.2.1 bt266.2.2.2.2.2.2.1 bt266.2.2.2.2.2.2.2.1 bt266.2.2.2.2.2.2.2.2.1 bt266.2.2.2.2.2.2.2.2.2.1 bt266.2.2.2.2.2.2.2.2.2.2.1 bt266.2.2.2.2.2.2.2.2.2.2.2.1 bt266.2.2.2.2.2.2.2.2.2.2.2.2.1 bt283.1 bt283.2.1 bt283.2.2.1 bt283.2.2.2.1 bt283.2.2.2.2.1 bt283.2.2.2.2.2.1 bt283.2.2.2.2.2.2.1 bt283.2.2.2.2.2.2.2.1 bt283.2.2.2.2.2.2.2.2.1 bt283.2.2.2.2.2.2.2.2.2.1 bt283.2.2.2.2.2.2.2.2.2.2.1 bt283.2.2.2.2.2.2.2.2.2.2.2.1 bt283.2.2.2.2.2.2.2.2.2.2.2.2 bt299.1 bt299.2.1 bt299.2.2.1 bt299.2.2.2.1 bt299.2.2.2.2.1 bt299.2.2.2.2.2.1 bt299.2.2.2.2.2.2.1 bt299.2.2.2.2.2.2.2.1 bt299.2.2.2.2.2.2.2.2.1 bt299.2.2.2.2.2.2.2.2.2.1 bt299.2.2.2.2.2.2.2.2.2.2.1 bt299.2.2.2.2.2.2.2.2.2.2.2.1 bt299.2.2.2.2.2.2.2.2.2.2.2.2.1) else (laws_FnExactWrite.j0 k a1 bt266.2.2.2.2.2.2.2.2.2.2.2.2.2 bt299.2.2.2.2.2.2.2.2.2.2.2.2.2 true a0_0 a0_1 a0_2 a0_3 a0_4 a0_5 a0_6 a0_7 a0_8 l0_9 a0_10 a0_11 a0_12 bt266.1 bt266.2.1 bt266.2.2.1 bt266.2.2.2.1 bt266.2.2.2.2.1 bt266.2.2.2.2.2.1 bt266.2.2.2.2.2.2.1 bt266.2.2.2.2.2.2.2.1 bt266.2.2.2.2.2.2.2.2.1 bt266.2.2.2.2.2.2.2.2.2.1 bt266.2.2.2.2.2.2.2.2.2.2.1 bt266.2.2.2.2.2.2.2.2.2.2.2.1 bt266.2.2.2.2.2.2.2.2.2.2.2.2.1 bt283.1 bt283.2.1 bt283.2.2.1 bt283.2.2.2.1 bt283.2.2.2.2.1 bt283.2.2.2.2.2.1 bt283.2.2.2.2.2.2.1 bt283.2.2.2.2.2.2.2.1 bt283.2.2.2.2.2.2.2.2.1 bt283.2.2.2.2.2.2.2.2.2.1 bt283.2.2.2.2.2.2.2.2.2.2.1 bt283.2.2.2.2.2.2.2.2.2.2.2.1 bt283.2.2.2.2.2.2.2.2.2.2.2.2 bt299.1 bt299.2.1 bt299.2.2.1 bt299.2.2.2.1 bt299.2.2.2.2.1 bt299.2.2.2.2.2.1 bt299.2.2.2.2.2.2.1 bt299.2.2.2.2.2.2.2.1 bt299.2.2.2.2.2.2.2.2.1 bt299.2.2.2.2.2.2.2.2.2.1 bt299.2.2.2.2.2.2.2.2.2.2.1 bt299.2.2.2.2.2.2.2.2.2.2.2.1 bt299.2.2.2.2.2.2.2.2.2.2.2.2.1)))))))))
theorem laws_FnExactWrite.mono_l : ∀ k, (∀ y0 y1 y2 y3 y4 y5 y6 y7 y8 y9 y10 y11 y12 y13 y14 y15 y16 y17 y18 y19 y20 y21 y22 y23 y24 y25 y26 y27 y28 y29 y30 y31 y32 y33 y34 y35 y36 y37 y38 y39 y40 y41 y42 y43 y44 y45 y46 y47 y48 y49 y50 y51 y52 y53 y54 y55, LeO (laws_FnExactWrite.j0 k y0 y1 y2 y3 y4 y5 y6 y7 y8 y9 y10 y11 y12 y13 y14 y15 y16 y17 y18 y19 y20 y21 y22 y23 y24 y25 y26 y27 y28 y29 y30 y31 y32 y33 y34 y35 y36 y37 y38 y39 y40 y41 y42 y43 y44 y45 y46 y47 y48 y49 y50 y51 y52 y53 y54 y55) (laws_FnExactWrite.j0 (k + 1) y0 y1 y2 y3 y4 y5 y6 y7 y8 y9 y10 y11 y12 y13 y14 y15 y16 y17 y18 y19 y20 y21 y22 y23 y24 y25 y26 y27 y28 y29 y30 y31 y32 y33 y34 y35 y36 y37 y38 y39 y40 y41 y42 y43 y44 y45 y46 y47 y48 y49 y50 y51 y52 y53 y54 y55)) ∧ (∀ y0 y1 y2 y3 y4 y5 y6 y7 y8 y9 y10 y11 y12 y13 y14 y15 y16 y17 y18 y19 y20 y21 y22 y23 y24 y25 y26 y27 y28 y29 y30 y31 y32 y33 y34 y35 y36 y37 y38 y39 y40 y41, LeO (laws_FnExactWrite.j1 k y0 y1 y2 y3 y4 y5 y6 y7 y8 y9 y10 y11 y12 y13 y14 y15 y16 y17 y18 y19 y20 y21 y22 y23 y24 y25 y26 y27 y28 y29 y30 y31 y32 y33 y34 y35 y36 y37 y38 y39 y40 y41) (laws_FnExactWrite.j1 (k + 1) y0 y1 y2 y3 y4 y5 y6 y7 y8 y9 y10 y11 y12 y13 y14 y15 y16 y17 y18 y19 y20 y21 y22 y23 y24 y25 y26 y27 y28 y29 y30 y31 y32 y33 y34 y35 y36 y37 y38 y39 y40 y41)) ∧ (∀ y0 y1 y2 y3 y4 y5 y6 y7 y8 y9 y10 y11 y12 y13 y14, LeO (laws_FnExactWrite.j2 k y0 y1 y2 y3 y4 y5 y6 y7 y8 y9 y10 y11 y12 y13 y14) (laws_FnExactWrite.j2 (k + 1) y0 y1 y2 y3 y4 y5 y6 y7 y8 y9 y10 y11 y12 y13 y14))
 | 0 => ⟨fun _ _ _ _ _ _ _ _ _ _ _ _ _ _ _ _ _ _ _ _ _ _ _ _ _ _ _ _ _ _ _ _ _ _ _ _ _ _ _ _ _ _ _ _ _ _ _ _ _ _ _ _ _ _ _ _ r h => by simp [laws_FnExactWrite.j0] at h, fun _ _ _ _ _ _ _ _ _ _ _ _ _ _ _ _ _ _ _ _ _ _ _ _ _ _ _ _ _ _ _ _ _ _ _ _ _ _ _ _ _ _ r h => by simp [laws_FnExactWrite.j1] at h, fun _ _ _ _ _ _ _ _ _ _ _ _ _ _ _ r h => by simp [laws_FnExactWrite.j2] at h⟩
 | k + 1 => by
  obtain ⟨ih0, ih1, ih2⟩ := laws_FnExactWrite.mono_l k
  refine ⟨?_, ?_, ?_⟩
  ·intro y0 y1 y2 y3 y4 y5 y6 y7 y8 y9 y10 y11 y12 y13 y14 y15 y16 y17 y18 y19 y20 y21 y22 y23 y24 y25 y26 y27 y28 y29 y30 y31 y32 y33 y34 y35 y36 y37 y38 y39 y40 y41 y42 y43 y44 y45 y46 y47 y48 y49 y50 y51 y52 y53 y54 y55
   unfold laws_FnExactWrite.j0
   repeat' first
   | (with_reducible exact ih0 _ _ _ _ _ _ _ _ _ _ _ _ _ _ _ _ _ _ _ _ _ _ _ _ _ _ _ _ _ _ _ _ _ _ _ _ _ _ _ _ _ _ _ _ _ _ _ _ _ _ _ _ _ _ _ _)
   | (with_reducible exact ih1 _ _ _ _ _ _ _ _ _ _ _ _ _ _ _ _ _ _ _ _ _ _ _ _ _ _ _ _ _ _ _ _ _ _ _ _ _ _ _ _ _ _)
   | (with_reducible exact ih2 _ _ _ _ _ _ _ _ _ _ _ _ _ _ _)
   | (with_reducible exact impl_Write.mono _ _ _ _ _ _ _ _ _ _ _ _ _ _ _)
   | (with_reducible exact laws_eqStream.mono _ _ _ _ _ _ _ _ _ _ _ _ _ _ _ _ _ _ _ _ _ _ _ _ _ _ _)
   | (with_reducible exact laws_heldStream.mono _ _ _ _ _ _ _ _ _ _ _ _ _ _ _)
   | (with_reducible exact laws_markStream.mono _ _ _ _ _ _ _ _ _ _ _ _ _ _ _)
   | (with_reducible exact laws_szStream.mono _ _ _ _ _ _ _ _ _ _ _ _ _ _ _)
   | (with_reducible exact laws_toStream.mono _ _ _ _ _ _ _ _ _ _ _ _ _ _)
   | (with_reducible exact spec_Write.mono _ _ _ _ _ _ _ _ _ _ _ _ _ _ _)
   | (with_reducible exact LeO.refl _)
   | (with_reducible exact LeO.none _)
   | (with_reducible refine LeO.ite ?_ ?_)
   | (with_reducible refine LeO.bind ?_ (fun _ => ?_))
   | exact ih0 _ _ _ _ _ _ _ _ _ _ _ _ _ _ _ _ _ _ _ _ _ _ _ _ _ _ _ _ _ _ _ _ _ _ _ _ _ _ _ _ _ _ _ _ _ _ _ _ _ _ _ _ _ _ _ _
   | exact ih1 _ _ _ _ _ _ _ _ _ _ _ _ _ _ _ _ _ _ _ _ _ _ _ _ _ _ _ _ _ _ _ _ _ _ _ _ _ _ _ _ _ _
   | exact ih2 _ _ _ _ _ _ _ _ _ _ _ _ _ _ _
   | exact impl_Write.mono _ _ _ _ _ _ _ _ _ _ _ _ _ _ _
   | exact laws_eqStream.mono _ _ _ _ _ _ _ _ _ _ _ _ _ _ _ _ _ _ _ _ _ _ _ _ _ _ _
   | exact laws_heldStream.mono _ _ _ _ _ _ _ _ _ _ _ _ _ _ _
   | exact laws_markStream.mono _ _ _ _ _ _ _ _ _ _ _ _ _ _ _
   | exact laws_szStream.mono _ _ _ _ _ _ _ _ _ _ _ _ _ _ _
   | exact laws_toStream.mono _ _ _ _ _ _ _ _ _ _ _ _ _ _
   | exact spec_Write.mono _ _ _ _ _ _ _ _ _ _ _ _ _ _ _
   | exact LeO.none _
   | refine LeO.ite ?_ ?_
   | refine LeO.bind ?_ (fun _ => ?_)
  ·intro y0 y1 y2 y3 y4 y5 y6 y7 y8 y9 y10 y11 y12 y13 y14 y15 y16 y17 y18 y19 y20 y21 y22 y23 y24 y25 y26 y27 y28 y29 y30 y31 y32 y33 y34 y35 y36 y37 y38 y39 y40 y41
   unfold laws_FnExactWrite.j1
   repeat' first
   | (with_reducible exact ih0 _ _ _ _ _ _ _ _ _ _ _ _ _ _ _ _ _ _ _ _ _ _ _ _ _ _ _ _ _ _ _ _ _ _ _ _ _ _ _ _ _ _ _ _ _ _ _ _ _ _ _ _ _ _ _ _)
   | (with_reducible exact ih1 _ _ _ _ _ _ _ _ _ _ _ _ _ _ _ _ _ _ _ _ _ _ _ _ _ _ _ _ _ _ _ _ _ _ _ _ _ _ _ _ _ _)
   | (with_reducible exact ih2 _ _ _ _ _ _ _ _ _ _ _ _ _ _ _)
   | (with_reducible exact impl_Write.mono _ _ _ _ _ _ _ _ _ _ _ _ _ _ _)
   | (with_reducible exact laws_eqStream.mono _ _ _ _ _ _ _ _ _ _ _ _ _ _ _ _ _ _ _ _ _ _ _ _ _ _ _)
   | (with_reducible exact laws_heldStream.mono _ _ _ _ _ _ _ _ _ _ _ _ _ _ _)
   | (with_reducible exact laws_markStream.mono _ _ _ _ _ _ _ _ _ _ _ _ _ _ _)
   | (with_reducible exact laws_szStream.mono _ _ _ _ _ _ _ _ _ _ _ _ _ _ _)
   | (with_reducible exact laws_toStream.mono _ _ _ _ _ _ _ _ _ _ _ _ _ _)
   | (with_reducible exact spec_Write.mono _ _ _ _ _ _ _ _ _ _ _ _ _ _ _)
   | (with_reducible exact LeO.refl _)
   | (with_reducible exact LeO.none _)
   | (with_reducible refine LeO.ite ?_ ?_)
   | (with_reducible refine LeO.bind ?_ (fun _ => ?_))
   | exact ih0 _ _ _ _ _ _ _ _ _ _ _ _ _ _ _ _ _ _ _ _ _ _ _ _ _ _ _ _ _ _ _ _ _ _ _ _ _ _ _ _ _ _ _ _ _ _ _ _ _ _ _ _ _ _ _ _
   | exact ih1 _ _ _ _ _ _ _ _ _ _ _ _ _ _ _ _ _ _ _ _ _ _ _ _ _ _ _ _ _ _ _ _ _ _ _ _ _ _ _ _ _ _
   | exact ih2 _ _ _ _ _ _ _ _ _ _ _ _ _ _ _
   | exact impl_Write.mono _ _ _ _ _ _ _ _ _ _ _ _ _ _ _
   | exact laws_eqStream.mono _ _ _ _ _ _ _ _ _ _ _ _ _ _ _ _ _ _ _ _ _ _ _ _ _ _ _
   | exact laws_heldStream.mono _ _ _ _ _ _ _ _ _ _ _ _ _ _ _
   | exact laws_markStream.mono _ _ _ _ _ _ _ _ _ _ _ _ _ _ _
   | exact laws_szStream.mono _ _ _ _ _ _ _ _ _ _ _ _ _ _ _
   | exact laws_toStream.mono _ _ _ _ _ _ _ _ _ _ _ _ _ _
   | exact spec_Write.mono _ _ _ _ _ _ _ _ _ _ _ _ _ _ _
   | exact LeO.none _
   | refine LeO.ite ?_ ?_
   | refine LeO.bind ?_ (fun _ => ?_)
  ·intro y0 y1 y2 y3 y4 y5 y6 y7 y8 y9 y10 y11 y12 y13 y14
   unfold laws_FnExactWrite.j2
   repeat' first
   | (with_reducible exact ih0 _ _ _ _ _ _ _ _ _ _ _ _ _ _ _ _ _ _ _ _ _ _ _ _ _ _ _ _ _ _ _ _ _ _ _ _ _ _ _ _ _ _ _ _ _ _ _ _ _ _ _ _ _ _ _ _)
   | (with_reducible exact ih1 _ _ _ _ _ _ _ _ _ _ _ _ _ _ _ _ _ _ _ _ _ _ _ _ _ _ _ _ _ _ _ _ _ _ _ _ _ _ _ _ _ _)
   | (with_reducible exact ih2 _ _ _ _ _ _ _ _ _ _ _ _ _ _ _)
   | (with_reducible exact impl_Write.mono _ _ _ _ _ _ _ _ _ _ _ _ _ _ _)
   | (with_reducible exact laws_eqStream.mono _ _ _ _ _ _ _ _ _ _ _ _ _ _ _ _ _ _ _ _ _ _ _ _ _ _ _)
   | (with_reducible exact laws_heldStream.mono _ _ _ _ _ _ _ _ _ _ _ _ _ _ _)
   | (with_reducible exact laws_markStream.mono _ _ _ _ _ _ _ _ _ _ _ _ _ _ _)
   | (with_reducible exact laws_szStream.mono _ _ _ _ _ _ _ _ _ _ _ _ _ _ _)
   | (with_reducible exact laws_toStream.mono _ _ _ _ _ _ _ _ _ _ _ _ _ _)
   | (with_reducible exact spec_Write.mono _ _ _ _ _ _ _ _ _ _ _ _ _ _ _)
   | (with_reducible exact LeO.refl _)
   | (with_reducible exact LeO.none _)
   | (with_reducible refine LeO.ite ?_ ?_)
   | (with_reducible refine LeO.bind ?_ (fun _ => ?_))
   | exact ih0 _ _ _ _ _ _ _ _ _ _ _ _ _ _ _ _ _ _ _ _ _ _ _ _ _ _ _ _ _ _ _ _ _ _ _ _ _ _ _ _ _ _ _ _ _ _ _ _ _ _ _ _ _ _ _ _
   | exact ih1 _ _ _ _ _ _ _ _ _ _ _ _ _ _ _ _ _ _ _ _ _ _ _ _ _ _ _ _ _ _ _ _ _ _ _ _ _ _ _ _ _ _
   | exact ih2 _ _ _ _ _ _ _ _ _ _ _ _ _ _ _
   | exact impl_Write.mono _ _ _ _ _ _ _ _ _ _ _ _ _ _ _
   | exact laws_eqStream.mono _ _ _ _ _ _ _ _ _ _ _ _ _ _ _ _ _ _ _ _ _ _ _ _ _ _ _
   | exact laws_heldStream.mono _ _ _ _ _ _ _ _ _ _ _ _ _ _ _
   | exact laws_markStream.mono _ _ _ _ _ _ _ _ _ _ _ _ _ _ _
   | exact laws_szStream.mono _ _ _ _ _ _ _ _ _ _ _ _ _ _ _
   | exact laws_toStream.mono _ _ _ _ _ _ _ _ _ _ _ _ _ _
   | exact spec_Write.mono _ _ _ _ _ _ _ _ _ _ _ _ _ _ _
   | exact LeO.none _
   | refine LeO.ite ?_ ?_
   | refine LeO.bind ?_ (fun _ => ?_)
theorem laws_FnExactWrite.mono : ∀ a0 a1 a2 a3 a4 a5 a6 a7 a8 a9 a10 a11 a12 a13 k, LeO (laws_FnExactWrite.f k a0 a1 a2 a3 a4 a5 a6 a7 a8 a9 a10 a11 a12 a13) (laws_FnExactWrite.f (k + 1) a0 a1 a2 a3 a4 a5 a6 a7 a8 a9 a10 a11 a12 a13) := by
 intro a0 a1 a2 a3 a4 a5 a6 a7 a8 a9 a10 a11 a12 a13 k
 obtain ⟨ih0, ih1, ih2⟩ := laws_FnExactWrite.mono_l k
 unfold laws_FnExactWrite.f
 repeat' first
   | (with_reducible exact ih0 _ _ _ _ _ _ _ _ _ _ _ _ _ _ _ _ _ _ _ _ _ _ _ _ _ _ _ _ _ _ _ _ _ _ _ _ _ _ _ _ _ _ _ _ _ _ _ _ _ _ _ _ _ _ _ _)
   | (with_reducible exact ih1 _ _ _ _ _ _ _ _ _ _ _ _ _ _ _ _ _ _ _ _ _ _ _ _ _ _ _ _ _ _ _ _ _ _ _ _ _ _ _ _ _ _)
   | (with_reducible exact ih2 _ _ _ _ _ _ _ _ _ _ _ _ _ _ _)
   | (with_reducible exact impl_Write.mono _ _ _ _ _ _ _ _ _ _ _ _ _ _ _)
   | (with_reducible exact laws_eqStream.mono _ _ _ _ _ _ _ _ _ _ _ _ _ _ _ _ _ _ _ _ _ _ _ _ _ _ _)
   | (with_reducible exact laws_heldStream.mono _ _ _ _ _ _ _ _ _ _ _ _ _ _ _)
   | (with_reducible exact laws_markStream.mono _ _ _ _ _ _ _ _ _ _ _ _ _ _ _)
   | (with_reducible exact laws_szStream.mono _ _ _ _ _ _ _ _ _ _ _ _ _ _ _)
   | (with_reducible exact laws_toStream.mono _ _ _ _ _ _ _ _ _ _ _ _ _ _)
   | (with_reducible exact spec_Write.mono _ _ _ _ _ _ _ _ _ _ _ _ _ _ _)
   | (with_reducible exact LeO.refl _)
   | (with_reducible exact LeO.none _)
   | (with_reducible refine LeO.ite ?_ ?_)
   | (with_reducible refine LeO.bind ?_ (fun _ => ?_))
   | exact ih0 _ _ _ _ _ _ _ _ _ _ _ _ _ _ _ _ _ _ _ _ _ _ _ _ _ _ _ _ _ _ _ _ _ _ _ _ _ _ _ _ _ _ _ _ _ _ _ _ _ _ _ _ _ _ _ _
   | exact ih1 _ _ _ _ _ _ _ _ _ _ _ _ _ _ _ _ _ _ _ _ _ _ _ _ _ _ _ _ _ _ _ _ _ _ _ _ _ _ _ _ _ _
   | exact ih2 _ _ _ _ _ _ _ _ _ _ _ _ _ _ _
   | exact impl_Write.mono _ _ _ _ _ _ _ _ _ _ _ _ _ _ _
   | exact laws_eqStream.mono _ _ _ _ _ _ _ _ _ _ _ _ _ _ _ _ _ _ _ _ _ _ _ _ _ _ _
   | exact laws_heldStream.mono _ _ _ _ _ _ _ _ _ _ _ _ _ _ _
   | exact laws_markStream.mono _ _ _ _ _ _ _ _ _ _ _ _ _ _ _
   | exact laws_szStream.mono _ _ _ _ _ _ _ _ _ _ _ _ _ _ _
   | exact laws_toStream.mono _ _ _ _ _ _ _ _ _ _ _ _ _ _
   | exact spec_Write.mono _ _ _ _ _ _ _ _ _ _ _ _ _ _ _
   | exact LeO.none _
   | refine LeO.ite ?_ ?_
   | refine LeO.bind ?_ (fun _ => ?_)
set_option maxHeartbeats 8000000 in
set_option maxRecDepth 100000 in
theorem laws_FnExactWrite.calls (k : Nat) (a0_0 : Int) (a0_1 : Int) (a0_2 : Int) (a0_3 : Int) (a0_4 : ByteArray) (a0_5 : Int) (a0_6 : Int) (a0_7 : Bool) (a0_8 : ByteArray) (A0_9 : Option Addr) (c0_9 : Nat) (l0_9 : List (S170)) (a0_10 : Bool) (a0_11 : Int) (a0_12 : Int) (a1 : ByteArray) (r : Bool) (w : World) (hr0_9 : Kd.C k170 w A0_9 l0_9.length l0_9) (hc0_9 : l0_9.length ≤ c0_9) (h : laws_FnExactWrite.f k a0_0 a0_1 a0_2 a0_3 a0_4 a0_5 a0_6 a0_7 a0_8 l0_9 a0_10 a0_11 a0_12 a1 = some r) (hr_ : Aside0 (r = true)) :
  Calls Try.prog 12 #[.agg #[.int .i64 a0_0, .int .i64 a0_1, .int .i64 a0_2, .int .i64 a0_3, .string a0_4, .int .i64 a0_5, .int .i64 a0_6, .bool a0_7, .string a0_8, .slice A0_9 l0_9.length c0_9, .bool a0_10, .int .i64 a0_11, .int .i64 a0_12], .string a1] w fun e w' => e = .returned (.bool r) ∧ Below w.heap.size w w' := by
 have hu24 := Try.underlying24
 have hu29 := Try.underlying29
 have HR0_9 := Aside0.mk hr0_9
 have HC0_9 := Aside0.mk hc0_9
 clear hr0_9 hc0_9
 have HB := Aside0.mk (Below.refl w.heap.size w)
 have H : (if (a1.size : Int) > 1048576 then (some true) else ((laws_szStream.f k a0_0 a0_1 a0_2 a0_3 a0_4 a0_5 a0_6 a0_7 a0_8 l0_9 a0_10 a0_11 a0_12 1048576).bind fun t250 => (if t250 < 0 then (some true) else ((laws_toStream.f k a0_0 a0_1 a0_2 a0_3 a0_4 a0_5 a0_6 a0_7 a0_8 l0_9 a0_10 a0_11 a0_12).bind fun bt251 => ((spec_Write.f k bt251.1 bt251.2.1 bt251.2.2.1 bt251.2.2.2.1 bt251.2.2.2.2.1 bt251.2.2.2.2.2.1 bt251.2.2.2.2.2.2.1 bt251.2.2.2.2.2.2.2.1 bt251.2.2.2.2.2.2.2.2.1 bt251.2.2.2.2.2.2.2.2.2.1 bt251.2.2.2.2.2.2.2.2.2.2.1 bt251.2.2.2.2.2.2.2.2.2.2.2.1 bt251.2.2.2.2.2.2.2.2.2.2.2.2 a1).bind fun bt266 => ((laws_toStream.f k a0_0 a0_1 a0_2 a0_3 a0_4 a0_5 a0_6 a0_7 a0_8 l0_9 a0_10 a0_11 a0_12).bind fun bt283 => ((impl_Write.f k bt283.1 bt283.2.1 bt283.2.2.1 bt283.2.2.2.1 bt283.2.2.2.2.1 bt283.2.2.2.2.2.1 bt283.2.2.2.2.2.2.1 bt283.2.2.2.2.2.2.2.1 bt283.2.2.2.2.2.2.2.2.1 bt283.2.2.2.2.2.2.2.2.2.1 bt283.2.2.2.2.2.2.2.2.2.2.1 bt283.2.2.2.2.2.2.2.2.2.2.2.1 bt283.2.2.2.2.2.2.2.2.2.2.2.2 a1).bind fun bt299 => ((laws_eqStream.f k bt299.1 bt299.2.1 bt299.2.2.1 bt299.2.2.2.1 bt299.2.2.2.2.1 bt299.2.2.2.2.2.1 bt299.2.2.2.2.2.2.1 bt299.2.2.2.2.2.2.2.1 bt299.2.2.2.2.2.2.2.2.1 bt299.2.2.2.2.2.2.2.2.2.1 bt299.2.2.2.2.2.2.2.2.2.2.1 bt299.2.2.2.2.2.2.2.2.2.2.2.1 bt299.2.2.2.2.2.2.2.2.2.2.2.2.1 bt266.1 bt266.2.1 bt266.2.2.1 bt266.2.2.2.1 bt266.2.2.2.2.1 bt266.2.2.2.2.2.1 bt266.2.2.2.2.2.2.1 bt266.2.2.2.2.2.2.2.1 bt266.2.2.2.2.2.2.2.2.1 bt266.2.2.2.2.2.2.2.2.2.1 bt266.2.2.2.2.2.2.2.2.2.2.1 bt266.2.2.2.2.2.2.2.2.2.2.2.1 bt266.2.2.2.2.2.2.2.2.2.2.2.2.1).bind fun t316 => (if t316 = true then (laws_FnExactWrite.j0 k a1 bt266.2.2.2.2.2.2.2.2.2.2.2.2.2 bt299.2.2.2.2.2.2.2.2.2.2.2.2.2 (bt299.2.2.2.2.2.2.2.2.2.2.2.2.2 != bt266.2.2.2.2.2.2.2.2.2.2.2.2.2) a0_0 a0_1 a0_2 a0_3 a0_4 a0_5 a0_6 a0_7 a0_8 l0_9 a0_10 a0_11 a0_12 bt266.1 bt266.2.1 bt266.2.2.1 bt266.2.2.2.1 bt266.2.2.2.2.1 bt266.2.2.2.2.2.1 bt266.2.2.2.2.2.2.1 bt266.2.2.2.2.2.2.2.1 bt266.2.2.2.2.2.2.2.2.1 bt266.2.2.2.2.2.2.2.2.2.1 bt266.2.2.2.2.2.2.2.2.2.2.1 bt266.2.2.2.2.2.2.2.2.2.2.2.1 bt266.2.2.2.2.2.2.2.2.2.2.2.2.1 bt283.1 bt283.2.1 bt283.2.2.1 bt283.2.2.2.1 bt283.2.2.2.2.1 bt283.2.2.2.2.2.1 bt283.2.2.2.2.2.2.1 bt283.2.2.2.2.2.2.2.1 bt283.2.2.2.2.2.2.2.2.1 bt283.2.2.2.2.2.2.2.2.2.1 bt283.2.2.2.2.2.2.2.2.2.2.1 bt283.2.2.2.2.2.2.2.2.2.2.2.1 bt283.2.2.2.2.2.2.2.2.2.2.2.2 bt299.1 bt299.2.1 bt299.2.2.1 bt299.2.2.2.1 bt299.2.2.2.2.1 bt299.2.2.2.2.2.1 bt299.2.2.2.2.2.2.1 bt299.2.2.2.2.2.2.2.1 bt299.2.2.2.2.2.2.2.2.1 bt299.2.2.2.2.2.2.2.2.2.1 bt299.2.2.2.2.2.2.2.2.2.2.1 bt299.2.2.2.2.2.2.2.2.2.2.2.1 bt299.2.2.2.2.2.2.2.2.2.2.2.2.1) else (laws_FnExactWrite.j0 k a1 bt266.2.2.2.2.2.2.2.2.2.2.2.2.2 bt299.2.2.2.2.2.2.2.2.2.2.2.2.2 true a0_0 a0_1 a0_2 a0_3 a0_4 a0_5 a0_6 a0_7 a0_8 l0_9 a0_10 a0_11 a0_12 bt266.1 bt266.2.1 bt266.2.2.1 bt266.2.2.2.1 bt266.2.2.2.2.1 bt266.2.2.2.2.2.1 bt266.2.2.2.2.2.2.1 bt266.2.2.2.2.2.2.2.1 bt266.2.2.2.2.2.2.2.2.1 bt266.2.2.2.2.2.2.2.2.2.1 bt266.2.2.2.2.2.2.2.2.2.2.1 bt266.2.2.2.2.2.2.2.2.2.2.2.1 bt266.2.2.2.2.2.2.2.2.2.2.2.2.1 bt283.1 bt283.2.1 bt283.2.2.1 bt283.2.2.2.1 bt283.2.2.2.2.1 bt283.2.2.2.2.2.1 bt283.2.2.2.2.2.2.1 bt283.2.2.2.2.2.2.2.1 bt283.2.2.2.2.2.2.2.2.1 bt283.2.2.2.2.2.2.2.2.2.1 bt283.2.2.2.2.2.2.2.2.2.2.1 bt283.2.2.2.2.2.2.2.2.2.2.2.1 bt283.2.2.2.2.2.2.2.2.2.2.2.2 bt299.1 bt299.2.1 bt299.2.2.1 bt299.2.2.2.1 bt299.2.2.2.2.1 bt299.2.2.2.2.2.1 bt299.2.2.2.2.2.2.1 bt299.2.2.2.2.2.2.2.1 bt299.2.2.2.2.2.2.2.2.1 bt299.2.2.2.2.2.2.2.2.2.1 bt299.2.2.2.2.2.2.2.2.2.2.1 bt299.2.2.2.2.2.2.2.2.2.2.2.1 bt299.2.2.2.2.2.2.2.2.2.2.2.2.1)))))))))) = some r := h
 clear h
 by_cases c3 : (a1.size : Int) > 1048576
 ·rw [if_pos c3] at H
  have c3b0 : decide (1048576 < (a1.size : Int)) = true := decide_eq_true c3
  have c3b1 : decide (1048576 < a1.size) = true := decide_eq_true (by omega)
  clear c3
  obtain rfl := Option.some.inj H
  go_enter Try.func12, Try.ntmps12
  go_wp2_with (first | ((with_reducible refine gate_dst (N := 2) rfl ?_); refine box_event ?hg (N := 2) ?hd (cs := #[.int .i64 a0_0, .int .i64 a0_1, .int .i64 a0_2, .int .i64 a0_3, .string a0_4, .int .i64 a0_5, .int .i64 a0_6, .bool a0_7, .string a0_8, .slice A0_9 l0_9.length c0_9, .bool a0_10, .int .i64 a0_11, .int .i64 a0_12]) (t := 24) ?hr ?_; (case hd => rfl); (case hg => rfl); (case hr => first | (go_simp; done) | (go_simp; rfl)); intro gb249 hg w4 hbox hb; have n0_ := Aside0.mk (below_step B8x33_ hb); have n1_ := Aside0.mk (hbox); have n2_ := Aside0.mk ((by rw [hg]; exact (below_size B8x33_) : w.heap.size ≤ gb249)); have n3_ := Aside0.mk ((by rw [hg]; exact (below_size B8x33_) : w.heap.size ≤ gb249)); clear HB; have HB := n0_; have BK249 := n1_; have GW249 := n2_; have GE249 := n3_; clear n0_ n1_ n2_ n3_; clear hb hbox hg))
  go_ret
  exact ⟨by first | rfl | (simp [errW_none, errW_some] <;> rfl) | (simp [*, errW_none, errW_some] <;> rfl), by repeat (first | (with_reducible first | exact HB.out | apply below_alloc | apply pw_below_drewN | apply below_drew1 | refine below_set ?_ GE249.out) | exact HB.out)⟩
 ·rw [if_neg c3] at H
  have c3b0 : decide (1048576 < (a1.size : Int)) = false := decide_eq_false c3
  have c3b1 : decide (1048576 < a1.size) = false := decide_eq_false (by omega)
  clear c3
  replace H := Option.bind_eq_some_iff.mp H
  obtain ⟨t250, A50, H⟩ := H
  (try dsimp only at H)
  have A5 := Aside0.mk A50
  clear A50
  by_cases c6 : t250 < 0
  ·rw [if_pos c6] at H
   have c6b0 : decide (t250 < 0) = true := decide_eq_true c6
   clear c6
   obtain rfl := Option.some.inj H
   go_enter Try.func12, Try.ntmps12
   go_wp2_with (first | ((with_reducible refine gate_dst (N := 2) rfl ?_); refine box_event ?hg (N := 2) ?hd (cs := #[.int .i64 a0_0, .int .i64 a0_1, .int .i64 a0_2, .int .i64 a0_3, .string a0_4, .int .i64 a0_5, .int .i64 a0_6, .bool a0_7, .string a0_8, .slice A0_9 l0_9.length c0_9, .bool a0_10, .int .i64 a0_11, .int .i64 a0_12]) (t := 24) ?hr ?_; (case hd => rfl); (case hg => rfl); (case hr => first | (go_simp; done) | (go_simp; rfl)); intro gb249 hg w7 hbox hb; have n0_ := Aside0.mk (below_step B8x33_ hb); have n1_ := Aside0.mk (hbox); have n2_ := Aside0.mk ((by rw [hg]; exact (below_size B8x33_) : w.heap.size ≤ gb249)); have n3_ := Aside0.mk ((by rw [hg]; exact (below_size B8x33_) : w.heap.size ≤ gb249)); clear HB; have HB := n0_; have BK249 := n1_; have GW249 := n2_; have GE249 := n3_; clear n0_ n1_ n2_ n3_; clear hb hbox hg; obtain ⟨hcz8_0, hcz8_1, hcz8_2, hcz8_3, hcz8_4, hcz8_5, hcz8_6, hcz8_7, hcz8_8, hcz8_9, hcz8_10, hcz8_11, hcz8_12⟩ := cl13 BK249.out; obtain ⟨hfz8_0, hfz8_1, hfz8_2, hfz8_3, hfz8_4, hfz8_5, hfz8_6, hfz8_7, hfz8_8, hfz8_9, hfz8_10, hfz8_11, hfz8_12⟩ := fr13 BK249.out) | ((with_reducible refine gate_callee (f := 15) rfl ?_); refine goesL_ (some 21) rfl rfl Try.func15 B8x38_ rfl #[.agg #[.int .i64 a0_0, .int .i64 a0_1, .int .i64 a0_2, .int .i64 a0_3, .string a0_4, .int .i64 a0_5, .int .i64 a0_6, .bool a0_7, .string a0_8, .slice A0_9 l0_9.length c0_9, .bool a0_10, .int .i64 a0_11, .int .i64 a0_12], .int .i64 1048576] rfl B8x9_ ?_; (with_reducible refine (laws_szStream.calls k a0_0 a0_1 a0_2 a0_3 a0_4 a0_5 a0_6 a0_7 a0_8 _ _ l0_9 a0_10 a0_11 a0_12 1048576 t250 _ ?side1 ?side2 A5.out).mono ?_); (case side1 => repeat (first | exact (Kd.C_below HR0_9.out HB.out) | (with_reducible refine Kd.C_alloc ?_ _) | (with_reducible refine Kd.C_drewN ?_ _) | (with_reducible refine Kd.C_drew ?_))); (case side2 => exact HC0_9.out); rintro e w9 ⟨rfl, hb⟩; refine ⟨_, rfl, ?_⟩; have n0_ := Aside0.mk (blk_below (g := gb249) (o := .cells #[.int .i64 a0_0, .int .i64 a0_1, .int .i64 a0_2, .int .i64 a0_3, .string a0_4, .int .i64 a0_5, .int .i64 a0_6, .bool a0_7, .string a0_8, .slice A0_9 l0_9.length c0_9, .bool a0_10, .int .i64 a0_11, .int .i64 a0_12] 24 (0, 0)) B8x7_ hb); have n1_ := Aside0.mk (below_step B8x20_ hb); clear BK249; clear HB; have BK249 := n0_; have HB := n1_; clear n0_ n1_; (try clear hb); (try clear hb2); (try clear hk); (try clear hi)))
   go_ret
   exact ⟨by first | rfl | (simp [errW_none, errW_some] <;> rfl) | (simp [*, errW_none, errW_some] <;> rfl), by repeat (first | (with_reducible first | exact HB.out | apply below_alloc | apply pw_below_drewN | apply below_drew1 | refine below_set ?_ GE249.out) | exact HB.out)⟩
  ·rw [if_neg c6] at H
   have c6b0 : decide (t250 < 0) = false := decide_eq_false c6
   clear c6
   replace H := Option.bind_eq_some_iff.mp H
   obtain ⟨⟨t251, t252, t253, t254, t255, t256, t257, t258, t259, t260, t263, t264, t265⟩, A100, H⟩ := H
   (try dsimp only at H)
   have A10 := Aside0.mk A100
   clear A100
   replace H := Option.bind_eq_some_iff.mp H
   obtain ⟨⟨t266, t267, t268, t269, t270, t271, t272, t273, t274, t275, t278, t279, t280, t281⟩, A110, H⟩ := H
   (try dsimp only at H)
   have A11 := Aside0.mk A110
   clear A110
   replace H := Option.bind_eq_some_iff.mp H
   obtain ⟨⟨t283, t284, t285, t286, t287, t288, t289, t290, t291, t292, t295, t296, t297⟩, A120, H⟩ := H
   (try dsimp only at H)
   have A12 := Aside0.mk A120
   clear A120
   replace H := Option.bind_eq_some_iff.mp H
   obtain ⟨⟨t299, t300, t301, t302, t303, t304, t305, t306, t307, t308, t311, t312, t313, t314⟩, A130, H⟩ := H
   (try dsimp only at H)
   have A13 := Aside0.mk A130
   clear A130
   have HC14 := Aside0.mk H
   clear H
   go_enter Try.func12, Try.ntmps12
   go_upto_region 10 with (first | ((with_reducible refine gate_dst (N := 2) rfl ?_); refine box_event ?hg (N := 2) ?hd (cs := #[.int .i64 a0_0, .int .i64 a0_1, .int .i64 a0_2, .int .i64 a0_3, .string a0_4, .int .i64 a0_5, .int .i64 a0_6, .bool a0_7, .string a0_8, .slice A0_9 l0_9.length c0_9, .bool a0_10, .int .i64 a0_11, .int .i64 a0_12]) (t := 24) ?hr ?_; (case hd => rfl); (case hg => rfl); (case hr => first | (go_simp; done) | (go_simp; rfl)); intro gb249 hg w15 hbox hb; have n0_ := Aside0.mk (below_step B8x33_ hb); have n1_ := Aside0.mk (hbox); have n2_ := Aside0.mk ((by rw [hg]; exact (below_size B8x33_) : w.heap.size ≤ gb249)); have n3_ := Aside0.mk ((by rw [hg]; exact (below_size B8x33_) : w.heap.size ≤ gb249)); clear HB; have HB := n0_; have BK249 := n1_; have GW249 := n2_; have GE249 := n3_; clear n0_ n1_ n2_ n3_; clear hb hbox hg; obtain ⟨hcz16_0, hcz16_1, hcz16_2, hcz16_3, hcz16_4, hcz16_5, hcz16_6, hcz16_7, hcz16_8, hcz16_9, hcz16_10, hcz16_11, hcz16_12⟩ := cl13 BK249.out; obtain ⟨hfz16_0, hfz16_1, hfz16_2, hfz16_3, hfz16_4, hfz16_5, hfz16_6, hfz16_7, hfz16_8, hfz16_9, hfz16_10, hfz16_11, hfz16_12⟩ := fr13 BK249.out) | ((with_reducible refine gate_callee (f := 15) rfl ?_); refine goesL_ (some 21) rfl rfl Try.func15 B8x38_ rfl #[.agg #[.int .i64 a0_0, .int .i64 a0_1, .int .i64 a0_2, .int .i64 a0_3, .string a0_4, .int .i64 a0_5, .int .i64 a0_6, .bool a0_7, .string a0_8, .slice A0_9 l0_9.length c0_9, .bool a0_10, .int .i64 a0_11, .int .i64 a0_12], .int .i64 1048576] rfl B8x9_ ?_; (with_reducible refine (laws_szStream.calls k a0_0 a0_1 a0_2 a0_3 a0_4 a0_5 a0_6 a0_7 a0_8 _ _ l0_9 a0_10 a0_11 a0_12 1048576 t250 _ ?side1 ?side2 A5.out).mono ?_); (case side1 => repeat (first | exact (Kd.C_below HR0_9.out HB.out) | (with_reducible refine Kd.C_alloc ?_ _) | (with_reducible refine Kd.C_drewN ?_ _) | (with_reducible refine Kd.C_drew ?_))); (case side2 => exact HC0_9.out); rintro e w17 ⟨rfl, hb⟩; refine ⟨_, rfl, ?_⟩; have n0_ := Aside0.mk (blk_below (g := gb249) (o := .cells #[.int .i64 a0_0, .int .i64 a0_1, .int .i64 a0_2, .int .i64 a0_3, .string a0_4, .int .i64 a0_5, .int .i64 a0_6, .bool a0_7, .string a0_8, .slice A0_9 l0_9.length c0_9, .bool a0_10, .int .i64 a0_11, .int .i64 a0_12] 24 (0, 0)) B8x7_ hb); have n1_ := Aside0.mk (below_step B8x20_ hb); clear BK249; clear HB; have BK249 := n0_; have HB := n1_; clear n0_ n1_; (try clear hb); (try clear hb2); (try clear hk); (try clear hi); obtain ⟨hcz18_0, hcz18_1, hcz18_2, hcz18_3, hcz18_4, hcz18_5, hcz18_6, hcz18_7, hcz18_8, hcz18_9, hcz18_10, hcz18_11, hcz18_12⟩ := cl13 BK249.out; obtain ⟨hfz18_0, hfz18_1, hfz18_2, hfz18_3, hfz18_4, hfz18_5, hfz18_6, hfz18_7, hfz18_8, hfz18_9, hfz18_10, hfz18_11, hfz18_12⟩ := fr13 BK249.out) | ((with_reducible refine gate_callee (f := 17) rfl ?_); refine goesL_ (some 26) rfl rfl Try.func17 B8x38_ rfl #[.agg #[.int .i64 a0_0, .int .i64 a0_1, .int .i64 a0_2, .int .i64 a0_3, .string a0_4, .int .i64 a0_5, .int .i64 a0_6, .bool a0_7, .string a0_8, .slice A0_9 l0_9.length c0_9, .bool a0_10, .int .i64 a0_11, .int .i64 a0_12]] rfl B8x9_ ?_; (with_reducible refine (laws_toStream.calls k a0_0 a0_1 a0_2 a0_3 a0_4 a0_5 a0_6 a0_7 a0_8 _ _ l0_9 a0_10 a0_11 a0_12 t251 t252 t253 t254 t255 t256 t257 t258 t259 t260 t263 t264 t265 _ ?side1 ?side2 A10.out).mono ?_); (case side1 => repeat (first | exact (Kd.C_below HR0_9.out HB.out) | (with_reducible refine Kd.C_alloc ?_ _) | (with_reducible refine Kd.C_drewN ?_ _) | (with_reducible refine Kd.C_drew ?_))); (case side2 => exact HC0_9.out); rintro e w19 ⟨v261, rfl, ho0, hb⟩; refine ⟨_, rfl, ?_⟩; have n0_ := Aside0.mk (Kd.R_lower ho0 (below_size B8x20_)); have n1_ := Aside0.mk (blk_below (g := gb249) (o := .cells #[.int .i64 a0_0, .int .i64 a0_1, .int .i64 a0_2, .int .i64 a0_3, .string a0_4, .int .i64 a0_5, .int .i64 a0_6, .bool a0_7, .string a0_8, .slice A0_9 l0_9.length c0_9, .bool a0_10, .int .i64 a0_11, .int .i64 a0_12] 24 (0, 0)) B8x7_ hb); have n2_ := Aside0.mk (below_step B8x20_ hb); clear BK249; clear HB; have HO262 := n0_; have BK249 := n1_; have HB := n2_; clear n0_ n1_ n2_; (try clear hb); (try clear hb2); (try clear hk); (try clear hi); (try clear ho0); obtain ⟨Ao20, co20, eo20⟩ := Kd.R_slice HO262.out; subst eo20) | ((with_reducible refine gate_callee (f := 67) rfl ?_); refine goesL_ (some 28) rfl rfl Try.func67 B8x38_ rfl #[.agg #[.int .i64 t251, .int .i64 t252, .int .i64 t253, .int .i64 t254, .string t255, .int .i64 t256, .int .i64 t257, .bool t258, .string t259, .slice Ao20 t260.length co20, .bool t263, .int .i64 t264, .int .i64 t265], .string a1] rfl B8x9_ ?_; (with_reducible refine (spec_Write.calls k t251 t252 t253 t254 t255 t256 t257 t258 t259 _ _ t260 t263 t264 t265 a1 t266 t267 t268 t269 t270 t271 t272 t273 t274 t275 t278 t279 t280 t281 _ ?side1 ?side2 A11.out).mono ?_); (case side1 => repeat (first | exact (Kd.R_reads' HO262.out).2.2 | (with_reducible refine Kd.C_alloc ?_ _) | (with_reducible refine Kd.C_drewN ?_ _) | (with_reducible refine Kd.C_drew ?_))); (case side2 => exact (Kd.R_reads' HO262.out).2.1); rintro e w21 ⟨v276, rfl, ho0, hb⟩; refine ⟨_, rfl, ?_⟩; have n0_ := Aside0.mk (Kd.R_elder' B8x37_ (Kd.R_base ho0) hb); have n1_ := Aside0.mk (Kd.R_lower (Kd.R_new' ho0 (Kd.R_lt B8x37_)) (below_size B8x20_)); have n2_ := Aside0.mk (blk_below (g := gb249) (o := .cells #[.int .i64 a0_0, .int .i64 a0_1, .int .i64 a0_2, .int .i64 a0_3, .string a0_4, .int .i64 a0_5, .int .i64 a0_6, .bool a0_7, .string a0_8, .slice A0_9 l0_9.length c0_9, .bool a0_10, .int .i64 a0_11, .int .i64 a0_12] 24 (0, 0)) B8x7_ hb); have n3_ := Aside0.mk (below_step B8x20_ hb); clear HO262; clear BK249; clear HB; have HO262 := n0_; have HO277 := n1_; have BK249 := n2_; have HB := n3_; clear n0_ n1_ n2_ n3_; (try clear hb); (try clear hb2); (try clear hk); (try clear hi); (try clear ho0)) | ((with_reducible refine gate_dst (N := 6) rfl ?_); refine box_event ?hg (N := 6) ?hd (cs := #[.int .i64 0, .int .i64 0, .int .i64 0, .int .i64 0, .string (⟨#[]⟩ : ByteArray), .int .i64 0, .int .i64 0, .bool false, .string (⟨#[]⟩ : ByteArray), .slice none 0 0, .bool false, .int .i64 0, .int .i64 0]) (t := 29) ?hr ?_; (case hd => rfl); (case hg => rfl); (case hr => first | (go_simp; done) | (go_simp; rfl)); intro gb282 hg w22 hbox hb; have n0_ := Aside0.mk (Kd.R_below B8x37_ hb); have n1_ := Aside0.mk (Kd.R_below B8x39_ hb); have n2_ := Aside0.mk (blk_below (g := gb249) (o := .cells #[.int .i64 a0_0, .int .i64 a0_1, .int .i64 a0_2, .int .i64 a0_3, .string a0_4, .int .i64 a0_5, .int .i64 a0_6, .bool a0_7, .string a0_8, .slice A0_9 l0_9.length c0_9, .bool a0_10, .int .i64 a0_11, .int .i64 a0_12] 24 (0, 0)) B8x7_ hb); have n3_ := Aside0.mk (below_step B8x20_ hb); have n4_ := Aside0.mk (hbox); have n5_ := Aside0.mk ((by rw [hg]; exact (below_size B8x20_) : w.heap.size ≤ gb282)); have n6_ := Aside0.mk ((by rw [hg]; exact (below_size B8x20_) : w.heap.size ≤ gb282)); have n7_ := Aside0.mk ((by rw [hg]; exact Nat.ne_of_lt (blk_lt (g := gb249) (o := .cells #[.int .i64 a0_0, .int .i64 a0_1, .int .i64 a0_2, .int .i64 a0_3, .string a0_4, .int .i64 a0_5, .int .i64 a0_6, .bool a0_7, .string a0_8, .slice A0_9 l0_9.length c0_9, .bool a0_10, .int .i64 a0_11, .int .i64 a0_12] 24 (0, 0)) B8x7_) : gb249 ≠ gb282)); have n8_ := Aside0.mk ((by rw [hg]; exact Nat.ne_of_gt (blk_lt (g := gb249) (o := .cells #[.int .i64 a0_0, .int .i64 a0_1, .int .i64 a0_2, .int .i64 a0_3, .string a0_4, .int .i64 a0_5, .int .i64 a0_6, .bool a0_7, .string a0_8, .slice A0_9 l0_9.length c0_9, .bool a0_10, .int .i64 a0_11, .int .i64 a0_12] 24 (0, 0)) B8x7_) : gb282 ≠ gb249)); clear HO262; clear HO277; clear BK249; clear HB; have HO262 := n0_; have HO277 := n1_; have BK249 := n2_; have HB := n3_; have BK282 := n4_; have GW282 := n5_; have GE282 := n6_; have NB249_282 := n7_; have NB282_249 := n8_; clear n0_ n1_ n2_ n3_ n4_ n5_ n6_ n7_ n8_; clear hb hbox hg; have hnb23 := NB282_249.out; have hnc23 := NB249_282.out; obtain ⟨hcz24_0, hcz24_1, hcz24_2, hcz24_3, hcz24_4, hcz24_5, hcz24_6, hcz24_7, hcz24_8, hcz24_9, hcz24_10, hcz24_11, hcz24_12⟩ := cl13 BK282.out; obtain ⟨hfz24_0, hfz24_1, hfz24_2, hfz24_3, hfz24_4, hfz24_5, hfz24_6, hfz24_7, hfz24_8, hfz24_9, hfz24_10, hfz24_11, hfz24_12⟩ := fr13 BK282.out; obtain ⟨Ao25, co25, eo25⟩ := Kd.R_slice HO277.out; subst eo25; obtain ⟨hcz26_0, hcz26_1, hcz26_2, hcz26_3, hcz26_4, hcz26_5, hcz26_6, hcz26_7, hcz26_8, hcz26_9, hcz26_10, hcz26_11, hcz26_12⟩ := cl13 BK249.out; obtain ⟨hfz26_0, hfz26_1, hfz26_2, hfz26_3, hfz26_4, hfz26_5, hfz26_6, hfz26_7, hfz26_8, hfz26_9, hfz26_10, hfz26_11, hfz26_12⟩ := fr13 BK249.out) | ((with_reducible refine gate_callee (f := 17) rfl ?_); refine goesL_ (some 32) rfl rfl Try.func17 B8x38_ rfl #[.agg #[.int .i64 a0_0, .int .i64 a0_1, .int .i64 a0_2, .int .i64 a0_3, .string a0_4, .int .i64 a0_5, .int .i64 a0_6, .bool a0_7, .string a0_8, .slice A0_9 l0_9.length c0_9, .bool a0_10, .int .i64 a0_11, .int .i64 a0_12]] rfl B8x9_ ?_; (with_reducible refine (laws_toStream.calls k a0_0 a0_1 a0_2 a0_3 a0_4 a0_5 a0_6 a0_7 a0_8 _ _ l0_9 a0_10 a0_11 a0_12 t283 t284 t285 t286 t287 t288 t289 t290 t291 t292 t295 t296 t297 _ ?side1 ?side2 A12.out).mono ?_); (case side1 => exact Kd.C_below HR0_9.out B8x34_); (case side2 => exact HC0_9.out); rintro e w27 ⟨v293, rfl, ho0, hb⟩; refine ⟨_, rfl, ?_⟩; have n0_ := Aside0.mk (Kd.R_elder' B8x27_ (Kd.R_base ho0) hb); have n1_ := Aside0.mk (Kd.R_elder' B8x28_ (Kd.R_base ho0) hb); have n2_ := Aside0.mk (Kd.R_lower (Kd.R_new' (Kd.R_new' ho0 (Kd.R_lt B8x27_)) (Kd.R_lt B8x28_)) (below_size B8x34_)); have n3_ := Aside0.mk (blk_below (g := gb249) (o := .cells #[.int .i64 a0_0, .int .i64 a0_1, .int .i64 a0_2, .int .i64 a0_3, .string a0_4, .int .i64 a0_5, .int .i64 a0_6, .bool a0_7, .string a0_8, .slice A0_9 l0_9.length c0_9, .bool a0_10, .int .i64 a0_11, .int .i64 a0_12] 24 (0, 0)) (by (with_reducible repeat (first | refine blk_drewN ?_ _ | refine blk_drew ?_ | refine blk_alloc ?_ _)); refine blk_far ?_ NB249_282.out _; (with_reducible repeat (first | refine blk_drewN ?_ _ | refine blk_drew ?_ | refine blk_alloc ?_ _)); refine blk_far ?_ NB249_282.out _; (with_reducible repeat (first | refine blk_drewN ?_ _ | refine blk_drew ?_ | refine blk_alloc ?_ _)); refine blk_far ?_ NB249_282.out _; (with_reducible repeat (first | refine blk_drewN ?_ _ | refine blk_drew ?_ | refine blk_alloc ?_ _)); refine blk_far ?_ NB249_282.out _; (with_reducible repeat (first | refine blk_drewN ?_ _ | refine blk_drew ?_ | refine blk_alloc ?_ _)); refine blk_far ?_ NB249_282.out _; (with_reducible repeat (first | refine blk_drewN ?_ _ | refine blk_drew ?_ | refine blk_alloc ?_ _)); refine blk_far ?_ NB249_282.out _; (with_reducible repeat (first | refine blk_drewN ?_ _ | refine blk_drew ?_ | refine blk_alloc ?_ _)); refine blk_far ?_ NB249_282.out _; (with_reducible repeat (first | refine blk_drewN ?_ _ | refine blk_drew ?_ | refine blk_alloc ?_ _)); refine blk_far ?_ NB249_282.out _; (with_reducible repeat (first | refine blk_drewN ?_ _ | refine blk_drew ?_ | refine blk_alloc ?_ _)); refine blk_far ?_ NB249_282.out _; (with_reducible repeat (first | refine blk_drewN ?_ _ | refine blk_drew ?_ | refine blk_alloc ?_ _)); refine blk_far ?_ NB249_282.out _; (with_reducible repeat (first | refine blk_drewN ?_ _ | refine blk_drew ?_ | refine blk_alloc ?_ _)); refine blk_far ?_ NB249_282.out _; (with_reducible repeat (first | refine blk_drewN ?_ _ | refine blk_drew ?_ | refine blk_alloc ?_ _)); refine blk_far ?_ NB249_282.out _; (with_reducible repeat (first | refine blk_drewN ?_ _ | refine blk_drew ?_ | refine blk_alloc ?_ _)); refine blk_far ?_ NB249_282.out _; (with_reducible repeat (first | refine blk_drewN ?_ _ | refine blk_drew ?_ | refine blk_alloc ?_ _)); exact BK249.out) hb); have n4_ := Aside0.mk (blk_below (g := gb282) (o := .cells #[.int .i64 t266, .int .i64 t267, .int .i64 t268, .int .i64 t269, .string t270, .int .i64 t271, .int .i64 t272, .bool t273, .string t274, .slice Ao25 t275.length co25, .bool t278, .int .i64 t279, .int .i64 t280] 29 (0, 0)) (by (with_reducible repeat (first | refine blk_drewN ?_ _ | refine blk_drew ?_ | refine blk_alloc ?_ _)); refine blk_put (cs := #[.int .i64 t266, .int .i64 t267, .int .i64 t268, .int .i64 t269, .string t270, .int .i64 t271, .int .i64 t272, .bool t273, .string t274, .slice Ao25 t275.length co25, .bool t278, .int .i64 t279, .int .i64 0]) ?_ 12 _ rfl; (with_reducible repeat (first | refine blk_drewN ?_ _ | refine blk_drew ?_ | refine blk_alloc ?_ _)); refine blk_put (cs := #[.int .i64 t266, .int .i64 t267, .int .i64 t268, .int .i64 t269, .string t270, .int .i64 t271, .int .i64 t272, .bool t273, .string t274, .slice Ao25 t275.length co25, .bool t278, .int .i64 0, .int .i64 0]) ?_ 11 _ rfl; (with_reducible repeat (first | refine blk_drewN ?_ _ | refine blk_drew ?_ | refine blk_alloc ?_ _)); refine blk_put (cs := #[.int .i64 t266, .int .i64 t267, .int .i64 t268, .int .i64 t269, .string t270, .int .i64 t271, .int .i64 t272, .bool t273, .string t274, .slice Ao25 t275.length co25, .bool false, .int .i64 0, .int .i64 0]) ?_ 10 _ rfl; (with_reducible repeat (first | refine blk_drewN ?_ _ | refine blk_drew ?_ | refine blk_alloc ?_ _)); refine blk_put (cs := #[.int .i64 t266, .int .i64 t267, .int .i64 t268, .int .i64 t269, .string t270, .int .i64 t271, .int .i64 t272, .bool t273, .string t274, .slice none 0 0, .bool false, .int .i64 0, .int .i64 0]) ?_ 9 _ rfl; (with_reducible repeat (first | refine blk_drewN ?_ _ | refine blk_drew ?_ | refine blk_alloc ?_ _)); refine blk_put (cs := #[.int .i64 t266, .int .i64 t267, .int .i64 t268, .int .i64 t269, .string t270, .int .i64 t271, .int .i64 t272, .bool t273, .string (⟨#[]⟩ : ByteArray), .slice none 0 0, .bool false, .int .i64 0, .int .i64 0]) ?_ 8 _ rfl; (with_reducible repeat (first | refine blk_drewN ?_ _ | refine blk_drew ?_ | refine blk_alloc ?_ _)); refine blk_put (cs := #[.int .i64 t266, .int .i64 t267, .int .i64 t268, .int .i64 t269, .string t270, .int .i64 t271, .int .i64 t272, .bool false, .string (⟨#[]⟩ : ByteArray), .slice none 0 0, .bool false, .int .i64 0, .int .i64 0]) ?_ 7 _ rfl; (with_reducible repeat (first | refine blk_drewN ?_ _ | refine blk_drew ?_ | refine blk_alloc ?_ _)); refine blk_put (cs := #[.int .i64 t266, .int .i64 t267, .int .i64 t268, .int .i64 t269, .string t270, .int .i64 t271, .int .i64 0, .bool false, .string (⟨#[]⟩ : ByteArray), .slice none 0 0, .bool false, .int .i64 0, .int .i64 0]) ?_ 6 _ rfl; (with_reducible repeat (first | refine blk_drewN ?_ _ | refine blk_drew ?_ | refine blk_alloc ?_ _)); refine blk_put (cs := #[.int .i64 t266, .int .i64 t267, .int .i64 t268, .int .i64 t269, .string t270, .int .i64 0, .int .i64 0, .bool false, .string (⟨#[]⟩ : ByteArray), .slice none 0 0, .bool false, .int .i64 0, .int .i64 0]) ?_ 5 _ rfl; (with_reducible repeat (first | refine blk_drewN ?_ _ | refine blk_drew ?_ | refine blk_alloc ?_ _)); refine blk_put (cs := #[.int .i64 t266, .int .i64 t267, .int .i64 t268, .int .i64 t269, .string (⟨#[]⟩ : ByteArray), .int .i64 0, .int .i64 0, .bool false, .string (⟨#[]⟩ : ByteArray), .slice none 0 0, .bool false, .int .i64 0, .int .i64 0]) ?_ 4 _ rfl; (with_reducible repeat (first | refine blk_drewN ?_ _ | refine blk_drew ?_ | refine blk_alloc ?_ _)); refine blk_put (cs := #[.int .i64 t266, .int .i64 t267, .int .i64 t268, .int .i64 0, .string (⟨#[]⟩ : ByteArray), .int .i64 0, .int .i64 0, .bool false, .string (⟨#[]⟩ : ByteArray), .slice none 0 0, .bool false, .int .i64 0, .int .i64 0]) ?_ 3 _ rfl; (with_reducible repeat (first | refine blk_drewN ?_ _ | refine blk_drew ?_ | refine blk_alloc ?_ _)); refine blk_put (cs := #[.int .i64 t266, .int .i64 t267, .int .i64 0, .int .i64 0, .string (⟨#[]⟩ : ByteArray), .int .i64 0, .int .i64 0, .bool false, .string (⟨#[]⟩ : ByteArray), .slice none 0 0, .bool false, .int .i64 0, .int .i64 0]) ?_ 2 _ rfl; (with_reducible repeat (first | refine blk_drewN ?_ _ | refine blk_drew ?_ | refine blk_alloc ?_ _)); refine blk_put (cs := #[.int .i64 t266, .int .i64 0, .int .i64 0, .int .i64 0, .string (⟨#[]⟩ : ByteArray), .int .i64 0, .int .i64 0, .bool false, .string (⟨#[]⟩ : ByteArray), .slice none 0 0, .bool false, .int .i64 0, .int .i64 0]) ?_ 1 _ rfl; (with_reducible repeat (first | refine blk_drewN ?_ _ | refine blk_drew ?_ | refine blk_alloc ?_ _)); refine blk_put (cs := #[.int .i64 0, .int .i64 0, .int .i64 0, .int .i64 0, .string (⟨#[]⟩ : ByteArray), .int .i64 0, .int .i64 0, .bool false, .string (⟨#[]⟩ : ByteArray), .slice none 0 0, .bool false, .int .i64 0, .int .i64 0]) ?_ 0 _ rfl; (with_reducible repeat (first | refine blk_drewN ?_ _ | refine blk_drew ?_ | refine blk_alloc ?_ _)); exact BK282.out) hb); have n5_ := Aside0.mk (below_step B8x34_ hb); clear HO262; clear HO277; clear BK249; clear BK282; clear HB; have HO262 := n0_; have HO277 := n1_; have HO294 := n2_; have BK249 := n3_; have BK282 := n4_; have HB := n5_; clear n0_ n1_ n2_ n3_ n4_ n5_; (try clear hb); (try clear hb2); (try clear hk); (try clear hi); (try clear ho0)) | ((with_reducible refine gate_dst (N := 8) rfl ?_); refine box_event ?hg (N := 8) ?hd (cs := #[.int .i64 0, .int .i64 0, .int .i64 0, .int .i64 0, .string (⟨#[]⟩ : ByteArray), .int .i64 0, .int .i64 0, .bool false, .string (⟨#[]⟩ : ByteArray), .slice none 0 0, .bool false, .int .i64 0, .int .i64 0]) (t := 29) ?hr ?_; (case hd => rfl); (case hg => rfl); (case hr => first | (go_simp; done) | (go_simp; rfl)); intro gb298 hg w28 hbox hb; have n0_ := Aside0.mk (Kd.R_below B8x37_ hb); have n1_ := Aside0.mk (Kd.R_below B8x39_ hb); have n2_ := Aside0.mk (Kd.R_below B8x42_ hb); have n3_ := Aside0.mk (blk_below (g := gb249) (o := .cells #[.int .i64 a0_0, .int .i64 a0_1, .int .i64 a0_2, .int .i64 a0_3, .string a0_4, .int .i64 a0_5, .int .i64 a0_6, .bool a0_7, .string a0_8, .slice A0_9 l0_9.length c0_9, .bool a0_10, .int .i64 a0_11, .int .i64 a0_12] 24 (0, 0)) B8x7_ hb); have n4_ := Aside0.mk (blk_below (g := gb282) (o := .cells #[.int .i64 t266, .int .i64 t267, .int .i64 t268, .int .i64 t269, .string t270, .int .i64 t271, .int .i64 t272, .bool t273, .string t274, .slice Ao25 t275.length co25, .bool t278, .int .i64 t279, .int .i64 t280] 29 (0, 0)) B8x10_ hb); have n5_ := Aside0.mk (below_step B8x34_ hb); have n6_ := Aside0.mk (hbox); have n7_ := Aside0.mk ((by rw [hg]; exact (below_size B8x34_) : w.heap.size ≤ gb298)); have n8_ := Aside0.mk ((by rw [hg]; exact (below_size B8x34_) : w.heap.size ≤ gb298)); have n9_ := Aside0.mk ((by rw [hg]; exact Nat.ne_of_lt (blk_lt (g := gb249) (o := .cells #[.int .i64 a0_0, .int .i64 a0_1, .int .i64 a0_2, .int .i64 a0_3, .string a0_4, .int .i64 a0_5, .int .i64 a0_6, .bool a0_7, .string a0_8, .slice A0_9 l0_9.length c0_9, .bool a0_10, .int .i64 a0_11, .int .i64 a0_12] 24 (0, 0)) B8x7_) : gb249 ≠ gb298)); have n10_ := Aside0.mk ((by rw [hg]; exact Nat.ne_of_gt (blk_lt (g := gb249) (o := .cells #[.int .i64 a0_0, .int .i64 a0_1, .int .i64 a0_2, .int .i64 a0_3, .string a0_4, .int .i64 a0_5, .int .i64 a0_6, .bool a0_7, .string a0_8, .slice A0_9 l0_9.length c0_9, .bool a0_10, .int .i64 a0_11, .int .i64 a0_12] 24 (0, 0)) B8x7_) : gb298 ≠ gb249)); have n11_ := Aside0.mk ((by rw [hg]; exact Nat.ne_of_lt (blk_lt (g := gb282) (o := .cells #[.int .i64 t266, .int .i64 t267, .int .i64 t268, .int .i64 t269, .string t270, .int .i64 t271, .int .i64 t272, .bool t273, .string t274, .slice Ao25 t275.length co25, .bool t278, .int .i64 t279, .int .i64 t280] 29 (0, 0)) B8x10_) : gb282 ≠ gb298)); have n12_ := Aside0.mk ((by rw [hg]; exact Nat.ne_of_gt (blk_lt (g := gb282) (o := .cells #[.int .i64 t266, .int .i64 t267, .int .i64 t268, .int .i64 t269, .string t270, .int .i64 t271, .int .i64 t272, .bool t273, .string t274, .slice Ao25 t275.length co25, .bool t278, .int .i64 t279, .int .i64 t280] 29 (0, 0)) B8x10_) : gb298 ≠ gb282)); clear HO262; clear HO277; clear HO294; clear BK249; clear BK282; clear HB; have HO262 := n0_; have HO277 := n1_; have HO294 := n2_; have BK249 := n3_; have BK282 := n4_; have HB := n5_; have BK298 := n6_; have GW298 := n7_; have GE298 := n8_; have NB249_298 := n9_; have NB298_249 := n10_; have NB282_298 := n11_; have NB298_282 := n12_; clear n0_ n1_ n2_ n3_ n4_ n5_ n6_ n7_ n8_ n9_ n10_ n11_ n12_; clear hb hbox hg; have hnb29 := NB298_249.out; have hnc29 := NB249_298.out; have hnb30 := NB298_282.out; have hnc30 := NB282_298.out; obtain ⟨hcz31_0, hcz31_1, hcz31_2, hcz31_3, hcz31_4, hcz31_5, hcz31_6, hcz31_7, hcz31_8, hcz31_9, hcz31_10, hcz31_11, hcz31_12⟩ := cl13 BK298.out; obtain ⟨hfz31_0, hfz31_1, hfz31_2, hfz31_3, hfz31_4, hfz31_5, hfz31_6, hfz31_7, hfz31_8, hfz31_9, hfz31_10, hfz31_11, hfz31_12⟩ := fr13 BK298.out; obtain ⟨Ao32, co32, eo32⟩ := Kd.R_slice HO294.out; subst eo32) | ((with_reducible refine gate_callee (f := 68) rfl ?_); refine goesL_ (some 36) rfl rfl Try.func68 B8x38_ rfl #[.agg #[.int .i64 t283, .int .i64 t284, .int .i64 t285, .int .i64 t286, .string t287, .int .i64 t288, .int .i64 t289, .bool t290, .string t291, .slice Ao32 t292.length co32, .bool t295, .int .i64 t296, .int .i64 t297], .string a1] rfl B8x9_ ?_; (with_reducible refine (impl_Write.calls k t283 t284 t285 t286 t287 t288 t289 t290 t291 _ _ t292 t295 t296 t297 a1 t299 t300 t301 t302 t303 t304 t305 t306 t307 t308 t311 t312 t313 t314 _ ?side1 ?side2 A13.out).mono ?_); (case side1 => refine (Kd.R_reads' (e := 112) (base := w.heap.size) (ok := fun k_ => ((True ∧ some k_ ≠ (.slice Ao20 t260.length co20 : Value).ownBlock) ∧ some k_ ≠ (.slice Ao25 t275.length co25 : Value).ownBlock)) (n := t292.length) (c := co32) ?_).2.2; exact B8x8_); (case side2 => exact (Kd.R_reads' HO294.out).2.1); rintro e w33 ⟨v309, rfl, ho0, hb⟩; refine ⟨_, rfl, ?_⟩; have n0_ := Aside0.mk (Kd.R_elder' B8x29_ (Kd.R_base ho0) hb); have n1_ := Aside0.mk (Kd.R_elder' B8x30_ (Kd.R_base ho0) hb); have n2_ := Aside0.mk (Kd.R_elder' B8x8_ (Kd.R_base ho0) hb); have n3_ := Aside0.mk (Kd.R_lower (Kd.R_new' (Kd.R_new' (Kd.R_new' ho0 (Kd.R_lt B8x29_)) (Kd.R_lt B8x30_)) (Kd.R_lt B8x8_)) (below_size B8x35_)); have n4_ := Aside0.mk (blk_below (g := gb249) (o := .cells #[.int .i64 a0_0, .int .i64 a0_1, .int .i64 a0_2, .int .i64 a0_3, .string a0_4, .int .i64 a0_5, .int .i64 a0_6, .bool a0_7, .string a0_8, .slice A0_9 l0_9.length c0_9, .bool a0_10, .int .i64 a0_11, .int .i64 a0_12] 24 (0, 0)) (by (with_reducible repeat (first | refine blk_drewN ?_ _ | refine blk_drew ?_ | refine blk_alloc ?_ _)); refine blk_far ?_ NB249_298.out _; (with_reducible repeat (first | refine blk_drewN ?_ _ | refine blk_drew ?_ | refine blk_alloc ?_ _)); refine blk_far ?_ NB249_298.out _; (with_reducible repeat (first | refine blk_drewN ?_ _ | refine blk_drew ?_ | refine blk_alloc ?_ _)); refine blk_far ?_ NB249_298.out _; (with_reducible repeat (first | refine blk_drewN ?_ _ | refine blk_drew ?_ | refine blk_alloc ?_ _)); refine blk_far ?_ NB249_298.out _; (with_reducible repeat (first | refine blk_drewN ?_ _ | refine blk_drew ?_ | refine blk_alloc ?_ _)); refine blk_far ?_ NB249_298.out _; (with_reducible repeat (first | refine blk_drewN ?_ _ | refine blk_drew ?_ | refine blk_alloc ?_ _)); refine blk_far ?_ NB249_298.out _; (with_reducible repeat (first | refine blk_drewN ?_ _ | refine blk_drew ?_ | refine blk_alloc ?_ _)); refine blk_far ?_ NB249_298.out _; (with_reducible repeat (first | refine blk_drewN ?_ _ | refine blk_drew ?_ | refine blk_alloc ?_ _)); refine blk_far ?_ NB249_298.out _; (with_reducible repeat (first | refine blk_drewN ?_ _ | refine blk_drew ?_ | refine blk_alloc ?_ _)); refine blk_far ?_ NB249_298.out _; (with_reducible repeat (first | refine blk_drewN ?_ _ | refine blk_drew ?_ | refine blk_alloc ?_ _)); refine blk_far ?_ NB249_298.out _; (with_reducible repeat (first | refine blk_drewN ?_ _ | refine blk_drew ?_ | refine blk_alloc ?_ _)); refine blk_far ?_ NB249_298.out _; (with_reducible repeat (first | refine blk_drewN ?_ _ | refine blk_drew ?_ | refine blk_alloc ?_ _)); refine blk_far ?_ NB249_298.out _; (with_reducible repeat (first | refine blk_drewN ?_ _ | refine blk_drew ?_ | refine blk_alloc ?_ _)); refine blk_far ?_ NB249_298.out _; (with_reducible repeat (first | refine blk_drewN ?_ _ | refine blk_drew ?_ | refine blk_alloc ?_ _)); exact BK249.out) hb); have n5_ := Aside0.mk (blk_below (g := gb282) (o := .cells #[.int .i64 t266, .int .i64 t267, .int .i64 t268, .int .i64 t269, .string t270, .int .i64 t271, .int .i64 t272, .bool t273, .string t274, .slice Ao25 t275.length co25, .bool t278, .int .i64 t279, .int .i64 t280] 29 (0, 0)) (by (with_reducible repeat (first | refine blk_drewN ?_ _ | refine blk_drew ?_ | refine blk_alloc ?_ _)); refine blk_far ?_ NB282_298.out _; (with_reducible repeat (first | refine blk_drewN ?_ _ | refine blk_drew ?_ | refine blk_alloc ?_ _)); refine blk_far ?_ NB282_298.out _; (with_reducible repeat (first | refine blk_drewN ?_ _ | refine blk_drew ?_ | refine blk_alloc ?_ _)); refine blk_far ?_ NB282_298.out _; (with_reducible repeat (first | refine blk_drewN ?_ _ | refine blk_drew ?_ | refine blk_alloc ?_ _)); refine blk_far ?_ NB282_298.out _; (with_reducible repeat (first | refine blk_drewN ?_ _ | refine blk_drew ?_ | refine blk_alloc ?_ _)); refine blk_far ?_ NB282_298.out _; (with_reducible repeat (first | refine blk_drewN ?_ _ | refine blk_drew ?_ | refine blk_alloc ?_ _)); refine blk_far ?_ NB282_298.out _; (with_reducible repeat (first | refine blk_drewN ?_ _ | refine blk_drew ?_ | refine blk_alloc ?_ _)); refine blk_far ?_ NB282_298.out _; (with_reducible repeat (first | refine blk_drewN ?_ _ | refine blk_drew ?_ | refine blk_alloc ?_ _)); refine blk_far ?_ NB282_298.out _; (with_reducible repeat (first | refine blk_drewN ?_ _ | refine blk_drew ?_ | refine blk_alloc ?_ _)); refine blk_far ?_ NB282_298.out _; (with_reducible repeat (first | refine blk_drewN ?_ _ | refine blk_drew ?_ | refine blk_alloc ?_ _)); refine blk_far ?_ NB282_298.out _; (with_reducible repeat (first | refine blk_drewN ?_ _ | refine blk_drew ?_ | refine blk_alloc ?_ _)); refine blk_far ?_ NB282_298.out _; (with_reducible repeat (first | refine blk_drewN ?_ _ | refine blk_drew ?_ | refine blk_alloc ?_ _)); refine blk_far ?_ NB282_298.out _; (with_reducible repeat (first | refine blk_drewN ?_ _ | refine blk_drew ?_ | refine blk_alloc ?_ _)); refine blk_far ?_ NB282_298.out _; (with_reducible repeat (first | refine blk_drewN ?_ _ | refine blk_drew ?_ | refine blk_alloc ?_ _)); exact BK282.out) hb); have n6_ := Aside0.mk (blk_below (g := gb298) (o := .cells #[.int .i64 t283, .int .i64 t284, .int .i64 t285, .int .i64 t286, .string t287, .int .i64 t288, .int .i64 t289, .bool t290, .string t291, .slice Ao32 t292.length co32, .bool t295, .int .i64 t296, .int .i64 t297] 29 (0, 0)) (by (with_reducible repeat (first | refine blk_drewN ?_ _ | refine blk_drew ?_ | refine blk_alloc ?_ _)); refine blk_put (cs := #[.int .i64 t283, .int .i64 t284, .int .i64 t285, .int .i64 t286, .string t287, .int .i64 t288, .int .i64 t289, .bool t290, .string t291, .slice Ao32 t292.length co32, .bool t295, .int .i64 t296, .int .i64 0]) ?_ 12 _ rfl; (with_reducible repeat (first | refine blk_drewN ?_ _ | refine blk_drew ?_ | refine blk_alloc ?_ _)); refine blk_put (cs := #[.int .i64 t283, .int .i64 t284, .int .i64 t285, .int .i64 t286, .string t287, .int .i64 t288, .int .i64 t289, .bool t290, .string t291, .slice Ao32 t292.length co32, .bool t295, .int .i64 0, .int .i64 0]) ?_ 11 _ rfl; (with_reducible repeat (first | refine blk_drewN ?_ _ | refine blk_drew ?_ | refine blk_alloc ?_ _)); refine blk_put (cs := #[.int .i64 t283, .int .i64 t284, .int .i64 t285, .int .i64 t286, .string t287, .int .i64 t288, .int .i64 t289, .bool t290, .string t291, .slice Ao32 t292.length co32, .bool false, .int .i64 0, .int .i64 0]) ?_ 10 _ rfl; (with_reducible repeat (first | refine blk_drewN ?_ _ | refine blk_drew ?_ | refine blk_alloc ?_ _)); refine blk_put (cs := #[.int .i64 t283, .int .i64 t284, .int .i64 t285, .int .i64 t286, .string t287, .int .i64 t288, .int .i64 t289, .bool t290, .string t291, .slice none 0 0, .bool false, .int .i64 0, .int .i64 0]) ?_ 9 _ rfl; (with_reducible repeat (first | refine blk_drewN ?_ _ | refine blk_drew ?_ | refine blk_alloc ?_ _)); refine blk_put (cs := #[.int .i64 t283, .int .i64 t284, .int .i64 t285, .int .i64 t286, .string t287, .int .i64 t288, .int .i64 t289, .bool t290, .string (⟨#[]⟩ : ByteArray), .slice none 0 0, .bool false, .int .i64 0, .int .i64 0]) ?_ 8 _ rfl; (with_reducible repeat (first | refine blk_drewN ?_ _ | refine blk_drew ?_ | refine blk_alloc ?_ _)); refine blk_put (cs := #[.int .i64 t283, .int .i64 t284, .int .i64 t285, .int .i64 t286, .string t287, .int .i64 t288, .int .i64 t289, .bool false, .string (⟨#[]⟩ : ByteArray), .slice none 0 0, .bool false, .int .i64 0, .int .i64 0]) ?_ 7 _ rfl; (with_reducible repeat (first | refine blk_drewN ?_ _ | refine blk_drew ?_ | refine blk_alloc ?_ _)); refine blk_put (cs := #[.int .i64 t283, .int .i64 t284, .int .i64 t285, .int .i64 t286, .string t287, .int .i64 t288, .int .i64 0, .bool false, .string (⟨#[]⟩ : ByteArray), .slice none 0 0, .bool false, .int .i64 0, .int .i64 0]) ?_ 6 _ rfl; (with_reducible repeat (first | refine blk_drewN ?_ _ | refine blk_drew ?_ | refine blk_alloc ?_ _)); refine blk_put (cs := #[.int .i64 t283, .int .i64 t284, .int .i64 t285, .int .i64 t286, .string t287, .int .i64 0, .int .i64 0, .bool false, .string (⟨#[]⟩ : ByteArray), .slice none 0 0, .bool false, .int .i64 0, .int .i64 0]) ?_ 5 _ rfl; (with_reducible repeat (first | refine blk_drewN ?_ _ | refine blk_drew ?_ | refine blk_alloc ?_ _)); refine blk_put (cs := #[.int .i64 t283, .int .i64 t284, .int .i64 t285, .int .i64 t286, .string (⟨#[]⟩ : ByteArray), .int .i64 0, .int .i64 0, .bool false, .string (⟨#[]⟩ : ByteArray), .slice none 0 0, .bool false, .int .i64 0, .int .i64 0]) ?_ 4 _ rfl; (with_reducible repeat (first | refine blk_drewN ?_ _ | refine blk_drew ?_ | refine blk_alloc ?_ _)); refine blk_put (cs := #[.int .i64 t283, .int .i64 t284, .int .i64 t285, .int .i64 0, .string (⟨#[]⟩ : ByteArray), .int .i64 0, .int .i64 0, .bool false, .string (⟨#[]⟩ : ByteArray), .slice none 0 0, .bool false, .int .i64 0, .int .i64 0]) ?_ 3 _ rfl; (with_reducible repeat (first | refine blk_drewN ?_ _ | refine blk_drew ?_ | refine blk_alloc ?_ _)); refine blk_put (cs := #[.int .i64 t283, .int .i64 t284, .int .i64 0, .int .i64 0, .string (⟨#[]⟩ : ByteArray), .int .i64 0, .int .i64 0, .bool false, .string (⟨#[]⟩ : ByteArray), .slice none 0 0, .bool false, .int .i64 0, .int .i64 0]) ?_ 2 _ rfl; (with_reducible repeat (first | refine blk_drewN ?_ _ | refine blk_drew ?_ | refine blk_alloc ?_ _)); refine blk_put (cs := #[.int .i64 t283, .int .i64 0, .int .i64 0, .int .i64 0, .string (⟨#[]⟩ : ByteArray), .int .i64 0, .int .i64 0, .bool false, .string (⟨#[]⟩ : ByteArray), .slice none 0 0, .bool false, .int .i64 0, .int .i64 0]) ?_ 1 _ rfl; (with_reducible repeat (first | refine blk_drewN ?_ _ | refine blk_drew ?_ | refine blk_alloc ?_ _)); refine blk_put (cs := #[.int .i64 0, .int .i64 0, .int .i64 0, .int .i64 0, .string (⟨#[]⟩ : ByteArray), .int .i64 0, .int .i64 0, .bool false, .string (⟨#[]⟩ : ByteArray), .slice none 0 0, .bool false, .int .i64 0, .int .i64 0]) ?_ 0 _ rfl; (with_reducible repeat (first | refine blk_drewN ?_ _ | refine blk_drew ?_ | refine blk_alloc ?_ _)); exact BK298.out) hb); have n7_ := Aside0.mk (below_step B8x35_ hb); clear HO262; clear HO277; clear HO294; clear BK249; clear BK282; clear BK298; clear HB; have HO262 := n0_; have HO277 := n1_; have HO294 := n2_; have HO310 := n3_; have BK249 := n4_; have BK282 := n5_; have BK298 := n6_; have HB := n7_; clear n0_ n1_ n2_ n3_ n4_ n5_ n6_ n7_; (try clear hb); (try clear hb2); (try clear hk); (try clear hi); (try clear ho0)) | ((with_reducible refine gate_dst (N := 9) rfl ?_); refine box_event ?hg (N := 9) ?hd (cs := #[.int .i64 0, .int .i64 0, .int .i64 0, .int .i64 0, .string (⟨#[]⟩ : ByteArray), .int .i64 0, .int .i64 0, .bool false, .string (⟨#[]⟩ : ByteArray), .slice none 0 0, .bool false, .int .i64 0, .int .i64 0]) (t := 29) ?hr ?_; (case hd => rfl); (case hg => rfl); (case hr => first | (go_simp; done) | (go_simp; rfl)); intro gb315 hg w34 hbox hb; have n0_ := Aside0.mk (Kd.R_below B8x37_ hb); have n1_ := Aside0.mk (Kd.R_below B8x39_ hb); have n2_ := Aside0.mk (Kd.R_below B8x42_ hb); have n3_ := Aside0.mk (Kd.R_below (by (with_reducible repeat (first | apply Kd.R_alloc | apply Kd.R_drewN | apply Kd.R_drew)); exact HO310.out) hb); have n4_ := Aside0.mk (blk_below (g := gb249) (o := .cells #[.int .i64 a0_0, .int .i64 a0_1, .int .i64 a0_2, .int .i64 a0_3, .string a0_4, .int .i64 a0_5, .int .i64 a0_6, .bool a0_7, .string a0_8, .slice A0_9 l0_9.length c0_9, .bool a0_10, .int .i64 a0_11, .int .i64 a0_12] 24 (0, 0)) B8x7_ hb); have n5_ := Aside0.mk (blk_below (g := gb282) (o := .cells #[.int .i64 t266, .int .i64 t267, .int .i64 t268, .int .i64 t269, .string t270, .int .i64 t271, .int .i64 t272, .bool t273, .string t274, .slice Ao25 t275.length co25, .bool t278, .int .i64 t279, .int .i64 t280] 29 (0, 0)) B8x10_ hb); have n6_ := Aside0.mk (blk_below (g := gb298) (o := .cells #[.int .i64 t283, .int .i64 t284, .int .i64 t285, .int .i64 t286, .string t287, .int .i64 t288, .int .i64 t289, .bool t290, .string t291, .slice Ao32 t292.length co32, .bool t295, .int .i64 t296, .int .i64 t297] 29 (0, 0)) B8x18_ hb); have n7_ := Aside0.mk (below_step B8x35_ hb); have n8_ := Aside0.mk (hbox); have n9_ := Aside0.mk ((by rw [hg]; exact (below_size B8x35_) : w.heap.size ≤ gb315)); have n10_ := Aside0.mk ((by rw [hg]; exact (below_size B8x35_) : w.heap.size ≤ gb315)); have n11_ := Aside0.mk ((by rw [hg]; exact Nat.ne_of_lt (blk_lt (g := gb249) (o := .cells #[.int .i64 a0_0, .int .i64 a0_1, .int .i64 a0_2, .int .i64 a0_3, .string a0_4, .int .i64 a0_5, .int .i64 a0_6, .bool a0_7, .string a0_8, .slice A0_9 l0_9.length c0_9, .bool a0_10, .int .i64 a0_11, .int .i64 a0_12] 24 (0, 0)) B8x7_) : gb249 ≠ gb315)); have n12_ := Aside0.mk ((by rw [hg]; exact Nat.ne_of_gt (blk_lt (g := gb249) (o := .cells #[.int .i64 a0_0, .int .i64 a0_1, .int .i64 a0_2, .int .i64 a0_3, .string a0_4, .int .i64 a0_5, .int .i64 a0_6, .bool a0_7, .string a0_8, .slice A0_9 l0_9.length c0_9, .bool a0_10, .int .i64 a0_11, .int .i64 a0_12] 24 (0, 0)) B8x7_) : gb315 ≠ gb249)); have n13_ := Aside0.mk ((by rw [hg]; exact Nat.ne_of_lt (blk_lt (g := gb282) (o := .cells #[.int .i64 t266, .int .i64 t267, .int .i64 t268, .int .i64 t269, .string t270, .int .i64 t271, .int .i64 t272, .bool t273, .string t274, .slice Ao25 t275.length co25, .bool t278, .int .i64 t279, .int .i64 t280] 29 (0, 0)) B8x10_) : gb282 ≠ gb315)); have n14_ := Aside0.mk ((by rw [hg]; exact Nat.ne_of_gt (blk_lt (g := gb282) (o := .cells #[.int .i64 t266, .int .i64 t267, .int .i64 t268, .int .i64 t269, .string t270, .int .i64 t271, .int .i64 t272, .bool t273, .string t274, .slice Ao25 t275.length co25, .bool t278, .int .i64 t279, .int .i64 t280] 29 (0, 0)) B8x10_) : gb315 ≠ gb282)); have n15_ := Aside0.mk ((by rw [hg]; exact Nat.ne_of_lt (blk_lt (g := gb298) (o := .cells #[.int .i64 t283, .int .i64 t284, .int .i64 t285, .int .i64 t286, .string t287, .int .i64 t288, .int .i64 t289, .bool t290, .string t291, .slice Ao32 t292.length co32, .bool t295, .int .i64 t296, .int .i64 t297] 29 (0, 0)) B8x18_) : gb298 ≠ gb315)); have n16_ := Aside0.mk ((by rw [hg]; exact Nat.ne_of_gt (blk_lt (g := gb298) (o := .cells #[.int .i64 t283, .int .i64 t284, .int .i64 t285, .int .i64 t286, .string t287, .int .i64 t288, .int .i64 t289, .bool t290, .string t291, .slice Ao32 t292.length co32, .bool t295, .int .i64 t296, .int .i64 t297] 29 (0, 0)) B8x18_) : gb315 ≠ gb298)); clear HO262; clear HO277; clear HO294; clear HO310; clear BK249; clear BK282; clear BK298; clear HB; have HO262 := n0_; have HO277 := n1_; have HO294 := n2_; have HO310 := n3_; have BK249 := n4_; have BK282 := n5_; have BK298 := n6_; have HB := n7_; have BK315 := n8_; have GW315 := n9_; have GE315 := n10_; have NB249_315 := n11_; have NB315_249 := n12_; have NB282_315 := n13_; have NB315_282 := n14_; have NB298_315 := n15_; have NB315_298 := n16_; clear n0_ n1_ n2_ n3_ n4_ n5_ n6_ n7_ n8_ n9_ n10_ n11_ n12_ n13_ n14_ n15_ n16_; clear hb hbox hg; have hnb35 := NB315_249.out; have hnc35 := NB249_315.out; have hnb36 := NB315_282.out; have hnc36 := NB282_315.out; have hnb37 := NB315_298.out; have hnc37 := NB298_315.out; obtain ⟨hcz38_0, hcz38_1, hcz38_2, hcz38_3, hcz38_4, hcz38_5, hcz38_6, hcz38_7, hcz38_8, hcz38_9, hcz38_10, hcz38_11, hcz38_12⟩ := cl13 BK315.out; obtain ⟨hfz38_0, hfz38_1, hfz38_2, hfz38_3, hfz38_4, hfz38_5, hfz38_6, hfz38_7, hfz38_8, hfz38_9, hfz38_10, hfz38_11, hfz38_12⟩ := fr13 BK315.out; obtain ⟨Ao39, co39, eo39⟩ := Kd.R_slice HO310.out; subst eo39))
   (try simp only [Act.put, List.setIfInBounds_toArray, List.set_cons_zero, List.set_cons_succ])
   go_cut [47] (fun v47 wc => ∃ (kq : Nat) (x47_13 : Bool), v47 = .bool x47_13 ∧ Aside0 (laws_FnExactWrite.j0 kq a1 t281 t314 x47_13 a0_0 a0_1 a0_2 a0_3 a0_4 a0_5 a0_6 a0_7 a0_8 l0_9 a0_10 a0_11 a0_12 t266 t267 t268 t269 t270 t271 t272 t273 t274 t275 t278 t279 t280 t283 t284 t285 t286 t287 t288 t289 t290 t291 t292 t295 t296 t297 t299 t300 t301 t302 t303 t304 t305 t306 t307 t308 t311 t312 t313 = some r) ∧ Aside0 (kq ≤ k) ∧ Aside0 (Kd.R k112 112 wc w.heap.size (fun k_ => some k_ ≠ ((.slice Ao32 t292.length co32) : Value).ownBlock ∧ some k_ ≠ ((.slice Ao39 t308.length co39) : Value).ownBlock) (.slice Ao25 t275.length co25) t275) ∧ Aside0 (Kd.R k112 112 wc w.heap.size (fun k_ => some k_ ≠ ((.slice Ao25 t275.length co25) : Value).ownBlock ∧ some k_ ≠ ((.slice Ao39 t308.length co39) : Value).ownBlock) (.slice Ao32 t292.length co32) t292) ∧ Aside0 (Kd.R k112 112 wc w.heap.size (fun k_ => some k_ ≠ ((.slice Ao25 t275.length co25) : Value).ownBlock ∧ some k_ ≠ ((.slice Ao32 t292.length co32) : Value).ownBlock) (.slice Ao39 t308.length co39) t308) ∧ Aside0 (wc.heap[gb249]? = some (.cells #[.int .i64 a0_0, .int .i64 a0_1, .int .i64 a0_2, .int .i64 a0_3, .string a0_4, .int .i64 a0_5, .int .i64 a0_6, .bool a0_7, .string a0_8, (.slice A0_9 l0_9.length c0_9), .bool a0_10, .int .i64 a0_11, .int .i64 a0_12] 24 (0, 0))) ∧ Aside0 (wc.heap[gb282]? = some (.cells #[.int .i64 t266, .int .i64 t267, .int .i64 t268, .int .i64 t269, .string t270, .int .i64 t271, .int .i64 t272, .bool t273, .string t274, (.slice Ao25 t275.length co25), .bool t278, .int .i64 t279, .int .i64 t280] 29 (0, 0))) ∧ Aside0 (wc.heap[gb298]? = some (.cells #[.int .i64 t283, .int .i64 t284, .int .i64 t285, .int .i64 t286, .string t287, .int .i64 t288, .int .i64 t289, .bool t290, .string t291, (.slice Ao32 t292.length co32), .bool t295, .int .i64 t296, .int .i64 t297] 29 (0, 0))) ∧ Aside0 (wc.heap[gb315]? = some (.cells #[.int .i64 t299, .int .i64 t300, .int .i64 t301, .int .i64 t302, .string t303, .int .i64 t304, .int .i64 t305, .bool t306, .string t307, (.slice Ao39 t308.length co39), .bool t311, .int .i64 t312, .int .i64 t313] 29 (0, 0))) ∧ Aside0 (Below w.heap.size w wc))
   case first =>
    have H := HC14.out
    clear HC14
    replace H := Option.bind_eq_some_iff.mp H
    obtain ⟨t316, A400, H⟩ := H
    (try dsimp only at H)
    have A40 := Aside0.mk A400
    clear A400
    by_cases c41 : t316 = true
    ·subst c41
     rw [if_pos rfl] at H
     have H' := Aside0.mk H
     clear H
     have hnb42 := NB315_249.out
     have hnc42 := NB249_315.out
     have hnb43 := NB315_282.out
     have hnc43 := NB282_315.out
     have hnb44 := NB315_298.out
     have hnc44 := NB298_315.out
     obtain ⟨hcz45_0, hcz45_1, hcz45_2, hcz45_3, hcz45_4, hcz45_5, hcz45_6, hcz45_7, hcz45_8, hcz45_9, hcz45_10, hcz45_11, hcz45_12⟩ := cl13 BK315.out
     obtain ⟨hfz45_0, hfz45_1, hfz45_2, hfz45_3, hfz45_4, hfz45_5, hfz45_6, hfz45_7, hfz45_8, hfz45_9, hfz45_10, hfz45_11, hfz45_12⟩ := fr13 BK315.out
     have hnb46 := NB282_249.out
     have hnc46 := NB249_282.out
     have hnb47 := NB282_298.out
     have hnc47 := NB298_282.out
     obtain ⟨hcz48_0, hcz48_1, hcz48_2, hcz48_3, hcz48_4, hcz48_5, hcz48_6, hcz48_7, hcz48_8, hcz48_9, hcz48_10, hcz48_11, hcz48_12⟩ := cl13 BK282.out
     obtain ⟨hfz48_0, hfz48_1, hfz48_2, hfz48_3, hfz48_4, hfz48_5, hfz48_6, hfz48_7, hfz48_8, hfz48_9, hfz48_10, hfz48_11, hfz48_12⟩ := fr13 BK282.out
     go_wp2_with (first | ((with_reducible refine gate_callee (f := 19) rfl ?_); refine goesL_ (some 41) rfl rfl Try.func19 B8x38_ rfl #[.agg #[.int .i64 t299, .int .i64 t300, .int .i64 t301, .int .i64 t302, .string t303, .int .i64 t304, .int .i64 t305, .bool t306, .string t307, .slice Ao39 t308.length co39, .bool t311, .int .i64 t312, .int .i64 t313], .agg #[.int .i64 t266, .int .i64 t267, .int .i64 t268, .int .i64 t269, .string t270, .int .i64 t271, .int .i64 t272, .bool t273, .string t274, .slice Ao25 t275.length co25, .bool t278, .int .i64 t279, .int .i64 t280]] rfl B8x9_ ?_; (with_reducible refine (laws_eqStream.calls k t299 t300 t301 t302 t303 t304 t305 t306 t307 _ _ t308 t311 t312 t313 t266 t267 t268 t269 t270 t271 t272 t273 t274 _ _ t275 t278 t279 t280 true _ ?side1 ?side2 ?side3 ?side4 A40.out).mono ?_); (case side1 => refine (Kd.R_reads' (e := 112) (base := w.heap.size) (ok := fun k_ => (((True ∧ some k_ ≠ (.slice Ao20 t260.length co20 : Value).ownBlock) ∧ some k_ ≠ (.slice Ao25 t275.length co25 : Value).ownBlock) ∧ some k_ ≠ (.slice Ao32 t292.length co32 : Value).ownBlock)) (n := t308.length) (c := co39) ?_).2.2; exact B8x6_); (case side2 => exact (Kd.R_reads' HO310.out).2.1); (case side3 => refine (Kd.R_reads' (e := 112) (base := w.heap.size) (ok := fun k_ => (((True ∧ some k_ ≠ (.slice Ao20 t260.length co20 : Value).ownBlock) ∧ some k_ ≠ (.slice Ao32 t292.length co32 : Value).ownBlock) ∧ some k_ ≠ (.slice Ao39 t308.length co39 : Value).ownBlock)) (n := t275.length) (c := co25) ?_).2.2; exact B8x5_); (case side4 => exact (Kd.R_reads' HO277.out).2.1); rintro e w49 ⟨rfl, hb⟩; refine ⟨_, rfl, ?_⟩; have n0_ := Aside0.mk (Kd.R_below B8x31_ hb); have n1_ := Aside0.mk (Kd.R_below B8x5_ hb); have n2_ := Aside0.mk (Kd.R_below B8x32_ hb); have n3_ := Aside0.mk (Kd.R_below B8x6_ hb); have n4_ := Aside0.mk (blk_below (g := gb249) (o := .cells #[.int .i64 a0_0, .int .i64 a0_1, .int .i64 a0_2, .int .i64 a0_3, .string a0_4, .int .i64 a0_5, .int .i64 a0_6, .bool a0_7, .string a0_8, .slice A0_9 l0_9.length c0_9, .bool a0_10, .int .i64 a0_11, .int .i64 a0_12] 24 (0, 0)) B8x11_ hb); have n5_ := Aside0.mk (blk_below (g := gb282) (o := .cells #[.int .i64 t266, .int .i64 t267, .int .i64 t268, .int .i64 t269, .string t270, .int .i64 t271, .int .i64 t272, .bool t273, .string t274, .slice Ao25 t275.length co25, .bool t278, .int .i64 t279, .int .i64 t280] 29 (0, 0)) B8x13_ hb); have n6_ := Aside0.mk (blk_below (g := gb298) (o := .cells #[.int .i64 t283, .int .i64 t284, .int .i64 t285, .int .i64 t286, .string t287, .int .i64 t288, .int .i64 t289, .bool t290, .string t291, .slice Ao32 t292.length co32, .bool t295, .int .i64 t296, .int .i64 t297] 29 (0, 0)) B8x15_ hb); have n7_ := Aside0.mk (blk_below (g := gb315) (o := .cells #[.int .i64 t299, .int .i64 t300, .int .i64 t301, .int .i64 t302, .string t303, .int .i64 t304, .int .i64 t305, .bool t306, .string t307, .slice Ao39 t308.length co39, .bool t311, .int .i64 t312, .int .i64 t313] 29 (0, 0)) B8x1_ hb); have n8_ := Aside0.mk (below_step B8x2_ hb); clear HO262; clear HO277; clear HO294; clear HO310; clear BK249; clear BK282; clear BK298; clear BK315; clear HB; have HO262 := n0_; have HO277 := n1_; have HO294 := n2_; have HO310 := n3_; have BK249 := n4_; have BK282 := n5_; have BK298 := n6_; have BK315 := n7_; have HB := n8_; clear n0_ n1_ n2_ n3_ n4_ n5_ n6_ n7_ n8_; (try clear hb); (try clear hb2); (try clear hk); (try clear hi)))
     go_meet
     case rel => exact ⟨_, ((t314 != t281)), (be_), H', ⟨by first | omega | exact Nat.le_refl _⟩, ⟨by (with_reducible repeat (first | apply Kd.R_alloc | apply Kd.R_drewN | apply Kd.R_drew)); exact Kd.R_mono HO277.out (fun _ hk => ⟨hk.1.2, hk.2⟩)⟩, ⟨by (with_reducible repeat (first | apply Kd.R_alloc | apply Kd.R_drewN | apply Kd.R_drew)); exact Kd.R_mono HO294.out (fun _ hk => ⟨hk.1.2, hk.2⟩)⟩, ⟨by (with_reducible repeat (first | apply Kd.R_alloc | apply Kd.R_drewN | apply Kd.R_drew)); exact Kd.R_mono HO310.out (fun _ hk => ⟨hk.1.2, hk.2⟩)⟩, ⟨by (with_reducible repeat (first | refine blk_drewN ?_ _ | refine blk_drew ?_ | refine blk_alloc ?_ _)); exact BK249.out⟩, ⟨by (with_reducible repeat (first | refine blk_drewN ?_ _ | refine blk_drew ?_ | refine blk_alloc ?_ _)); exact BK282.out⟩, ⟨by (with_reducible repeat (first | refine blk_drewN ?_ _ | refine blk_drew ?_ | refine blk_alloc ?_ _)); exact BK298.out⟩, ⟨by (with_reducible repeat (first | refine blk_drewN ?_ _ | refine blk_drew ?_ | refine blk_alloc ?_ _)); exact BK315.out⟩, ⟨by repeat (first | (with_reducible first | exact HB.out | apply below_alloc | apply pw_below_drewN | apply below_drew1 | refine below_set ?_ GE249.out | refine below_set ?_ GE282.out | refine below_set ?_ GE298.out | refine below_set ?_ GE315.out) | exact HB.out)⟩⟩
    ·replace c41 := Bool.eq_false_iff.mpr c41
     subst c41
     rw [if_neg (show ¬ (false = true) by decide)] at H
     have H' := Aside0.mk H
     clear H
     have hnb50 := NB315_249.out
     have hnc50 := NB249_315.out
     have hnb51 := NB315_282.out
     have hnc51 := NB282_315.out
     have hnb52 := NB315_298.out
     have hnc52 := NB298_315.out
     obtain ⟨hcz53_0, hcz53_1, hcz53_2, hcz53_3, hcz53_4, hcz53_5, hcz53_6, hcz53_7, hcz53_8, hcz53_9, hcz53_10, hcz53_11, hcz53_12⟩ := cl13 BK315.out
     obtain ⟨hfz53_0, hfz53_1, hfz53_2, hfz53_3, hfz53_4, hfz53_5, hfz53_6, hfz53_7, hfz53_8, hfz53_9, hfz53_10, hfz53_11, hfz53_12⟩ := fr13 BK315.out
     have hnb54 := NB282_249.out
     have hnc54 := NB249_282.out
     have hnb55 := NB282_298.out
     have hnc55 := NB298_282.out
     obtain ⟨hcz56_0, hcz56_1, hcz56_2, hcz56_3, hcz56_4, hcz56_5, hcz56_6, hcz56_7, hcz56_8, hcz56_9, hcz56_10, hcz56_11, hcz56_12⟩ := cl13 BK282.out
     obtain ⟨hfz56_0, hfz56_1, hfz56_2, hfz56_3, hfz56_4, hfz56_5, hfz56_6, hfz56_7, hfz56_8, hfz56_9, hfz56_10, hfz56_11, hfz56_12⟩ := fr13 BK282.out
     go_wp2_with (first | ((with_reducible refine gate_callee (f := 19) rfl ?_); refine goesL_ (some 41) rfl rfl Try.func19 B8x38_ rfl #[.agg #[.int .i64 t299, .int .i64 t300, .int .i64 t301, .int .i64 t302, .string t303, .int .i64 t304, .int .i64 t305, .bool t306, .string t307, .slice Ao39 t308.length co39, .bool t311, .int .i64 t312, .int .i64 t313], .agg #[.int .i64 t266, .int .i64 t267, .int .i64 t268, .int .i64 t269, .string t270, .int .i64 t271, .int .i64 t272, .bool t273, .string t274, .slice Ao25 t275.length co25, .bool t278, .int .i64 t279, .int .i64 t280]] rfl B8x9_ ?_; (with_reducible refine (laws_eqStream.calls k t299 t300 t301 t302 t303 t304 t305 t306 t307 _ _ t308 t311 t312 t313 t266 t267 t268 t269 t270 t271 t272 t273 t274 _ _ t275 t278 t279 t280 false _ ?side1 ?side2 ?side3 ?side4 A40.out).mono ?_); (case side1 => refine (Kd.R_reads' (e := 112) (base := w.heap.size) (ok := fun k_ => (((True ∧ some k_ ≠ (.slice Ao20 t260.length co20 : Value).ownBlock) ∧ some k_ ≠ (.slice Ao25 t275.length co25 : Value).ownBlock) ∧ some k_ ≠ (.slice Ao32 t292.length co32 : Value).ownBlock)) (n := t308.length) (c := co39) ?_).2.2; exact B8x6_); (case side2 => exact (Kd.R_reads' HO310.out).2.1); (case side3 => refine (Kd.R_reads' (e := 112) (base := w.heap.size) (ok := fun k_ => (((True ∧ some k_ ≠ (.slice Ao20 t260.length co20 : Value).ownBlock) ∧ some k_ ≠ (.slice Ao32 t292.length co32 : Value).ownBlock) ∧ some k_ ≠ (.slice Ao39 t308.length co39 : Value).ownBlock)) (n := t275.length) (c := co25) ?_).2.2; exact B8x5_); (case side4 => exact (Kd.R_reads' HO277.out).2.1); rintro e w57 ⟨rfl, hb⟩; refine ⟨_, rfl, ?_⟩; have n0_ := Aside0.mk (Kd.R_below B8x31_ hb); have n1_ := Aside0.mk (Kd.R_below B8x5_ hb); have n2_ := Aside0.mk (Kd.R_below B8x32_ hb); have n3_ := Aside0.mk (Kd.R_below B8x6_ hb); have n4_ := Aside0.mk (blk_below (g := gb249) (o := .cells #[.int .i64 a0_0, .int .i64 a0_1, .int .i64 a0_2, .int .i64 a0_3, .string a0_4, .int .i64 a0_5, .int .i64 a0_6, .bool a0_7, .string a0_8, .slice A0_9 l0_9.length c0_9, .bool a0_10, .int .i64 a0_11, .int .i64 a0_12] 24 (0, 0)) B8x11_ hb); have n5_ := Aside0.mk (blk_below (g := gb282) (o := .cells #[.int .i64 t266, .int .i64 t267, .int .i64 t268, .int .i64 t269, .string t270, .int .i64 t271, .int .i64 t272, .bool t273, .string t274, .slice Ao25 t275.length co25, .bool t278, .int .i64 t279, .int .i64 t280] 29 (0, 0)) B8x13_ hb); have n6_ := Aside0.mk (blk_below (g := gb298) (o := .cells #[.int .i64 t283, .int .i64 t284, .int .i64 t285, .int .i64 t286, .string t287, .int .i64 t288, .int .i64 t289, .bool t290, .string t291, .slice Ao32 t292.length co32, .bool t295, .int .i64 t296, .int .i64 t297] 29 (0, 0)) B8x15_ hb); have n7_ := Aside0.mk (blk_below (g := gb315) (o := .cells #[.int .i64 t299, .int .i64 t300, .int .i64 t301, .int .i64 t302, .string t303, .int .i64 t304, .int .i64 t305, .bool t306, .string t307, .slice Ao39 t308.length co39, .bool t311, .int .i64 t312, .int .i64 t313] 29 (0, 0)) B8x1_ hb); have n8_ := Aside0.mk (below_step B8x2_ hb); clear HO262; clear HO277; clear HO294; clear HO310; clear BK249; clear BK282; clear BK298; clear BK315; clear HB; have HO262 := n0_; have HO277 := n1_; have HO294 := n2_; have HO310 := n3_; have BK249 := n4_; have BK282 := n5_; have BK298 := n6_; have BK315 := n7_; have HB := n8_; clear n0_ n1_ n2_ n3_ n4_ n5_ n6_ n7_ n8_; (try clear hb); (try clear hb2); (try clear hk); (try clear hi)))
     go_meet
     case rel => exact ⟨_, (true), (be_), H', ⟨by first | omega | exact Nat.le_refl _⟩, ⟨by (with_reducible repeat (first | apply Kd.R_alloc | apply Kd.R_drewN | apply Kd.R_drew)); exact Kd.R_mono HO277.out (fun _ hk => ⟨hk.1.2, hk.2⟩)⟩, ⟨by (with_reducible repeat (first | apply Kd.R_alloc | apply Kd.R_drewN | apply Kd.R_drew)); exact Kd.R_mono HO294.out (fun _ hk => ⟨hk.1.2, hk.2⟩)⟩, ⟨by (with_reducible repeat (first | apply Kd.R_alloc | apply Kd.R_drewN | apply Kd.R_drew)); exact Kd.R_mono HO310.out (fun _ hk => ⟨hk.1.2, hk.2⟩)⟩, ⟨by (with_reducible repeat (first | refine blk_drewN ?_ _ | refine blk_drew ?_ | refine blk_alloc ?_ _)); exact BK249.out⟩, ⟨by (with_reducible repeat (first | refine blk_drewN ?_ _ | refine blk_drew ?_ | refine blk_alloc ?_ _)); exact BK282.out⟩, ⟨by (with_reducible repeat (first | refine blk_drewN ?_ _ | refine blk_drew ?_ | refine blk_alloc ?_ _)); exact BK298.out⟩, ⟨by (with_reducible repeat (first | refine blk_drewN ?_ _ | refine blk_drew ?_ | refine blk_alloc ?_ _)); exact BK315.out⟩, ⟨by repeat (first | (with_reducible first | exact HB.out | apply below_alloc | apply pw_below_drewN | apply below_drew1 | refine below_set ?_ GE249.out | refine below_set ?_ GE282.out | refine below_set ?_ GE298.out | refine below_set ?_ GE315.out) | exact HB.out)⟩⟩
   case rest =>
    clear HC14
    try clear c1
    try clear c2
    try clear p2
    try clear c3
    try clear c3b0
    try clear c3b1
    try clear c4
    try clear c5
    try clear c6
    try clear c6b0
    try clear c12
    try clear c15
    try clear c17
    try clear c19
    try clear c23
    try clear c29
    try clear c30
    try clear c35
    try clear c36
    try clear c37
    try clear c41
    try clear c42
    try clear c43
    try clear c44
    try clear c46
    try clear c47
    try clear c50
    try clear c51
    try clear c52
    try clear c54
    try clear c55
    try clear hcz16_0
    try clear hcz16_1
    try clear hcz16_10
    try clear hcz16_11
    try clear hcz16_12
    try clear hcz16_2
    try clear hcz16_3
    try clear hcz16_4
    try clear hcz16_5
    try clear hcz16_6
    try clear hcz16_7
    try clear hcz16_8
    try clear hcz16_9
    try clear hcz18_0
    try clear hcz18_1
    try clear hcz18_10
    try clear hcz18_11
    try clear hcz18_12
    try clear hcz18_2
    try clear hcz18_3
    try clear hcz18_4
    try clear hcz18_5
    try clear hcz18_6
    try clear hcz18_7
    try clear hcz18_8
    try clear hcz18_9
    try clear hcz24_0
    try clear hcz24_1
    try clear hcz24_10
    try clear hcz24_11
    try clear hcz24_12
    try clear hcz24_2
    try clear hcz24_3
    try clear hcz24_4
    try clear hcz24_5
    try clear hcz24_6
    try clear hcz24_7
    try clear hcz24_8
    try clear hcz24_9
    try clear hcz26_0
    try clear hcz26_1
    try clear hcz26_10
    try clear hcz26_11
    try clear hcz26_12
    try clear hcz26_2
    try clear hcz26_3
    try clear hcz26_4
    try clear hcz26_5
    try clear hcz26_6
    try clear hcz26_7
    try clear hcz26_8
    try clear hcz26_9
    try clear hcz31_0
    try clear hcz31_1
    try clear hcz31_10
    try clear hcz31_11
    try clear hcz31_12
    try clear hcz31_2
    try clear hcz31_3
    try clear hcz31_4
    try clear hcz31_5
    try clear hcz31_6
    try clear hcz31_7
    try clear hcz31_8
    try clear hcz31_9
    try clear hcz38_0
    try clear hcz38_1
    try clear hcz38_10
    try clear hcz38_11
    try clear hcz38_12
    try clear hcz38_2
    try clear hcz38_3
    try clear hcz38_4
    try clear hcz38_5
    try clear hcz38_6
    try clear hcz38_7
    try clear hcz38_8
    try clear hcz38_9
    try clear hcz45_0
    try clear hcz45_1
    try clear hcz45_10
    try clear hcz45_11
    try clear hcz45_12
    try clear hcz45_2
    try clear hcz45_3
    try clear hcz45_4
    try clear hcz45_5
    try clear hcz45_6
    try clear hcz45_7
    try clear hcz45_8
    try clear hcz45_9
    try clear hcz48_0
    try clear hcz48_1
    try clear hcz48_10
    try clear hcz48_11
    try clear hcz48_12
    try clear hcz48_2
    try clear hcz48_3
    try clear hcz48_4
    try clear hcz48_5
    try clear hcz48_6
    try clear hcz48_7
    try clear hcz48_8
    try clear hcz48_9
    try clear hcz53_0
    try clear hcz53_1
    try clear hcz53_10
    try clear hcz53_11
    try clear hcz53_12
    try clear hcz53_2
    try clear hcz53_3
    try clear hcz53_4
    try clear hcz53_5
    try clear hcz53_6
    try clear hcz53_7
    try clear hcz53_8
    try clear hcz53_9
    try clear hcz56_0
    try clear hcz56_1
    try clear hcz56_10
    try clear hcz56_11
    try clear hcz56_12
    try clear hcz56_2
    try clear hcz56_3
    try clear hcz56_4
    try clear hcz56_5
    try clear hcz56_6
    try clear hcz56_7
    try clear hcz56_8
    try clear hcz56_9
    try clear hcz8_0
    try clear hcz8_1
    try clear hcz8_10
    try clear hcz8_11
    try clear hcz8_12
    try clear hcz8_2
    try clear hcz8_3
    try clear hcz8_4
    try clear hcz8_5
    try clear hcz8_6
    try clear hcz8_7
    try clear hcz8_8
    try clear hcz8_9
    try clear hfz16_0
    try clear hfz16_1
    try clear hfz16_10
    try clear hfz16_11
    try clear hfz16_12
    try clear hfz16_2
    try clear hfz16_3
    try clear hfz16_4
    try clear hfz16_5
    try clear hfz16_6
    try clear hfz16_7
    try clear hfz16_8
    try clear hfz16_9
    try clear hfz18_0
    try clear hfz18_1
    try clear hfz18_10
    try clear hfz18_11
    try clear hfz18_12
    try clear hfz18_2
    try clear hfz18_3
    try clear hfz18_4
    try clear hfz18_5
    try clear hfz18_6
    try clear hfz18_7
    try clear hfz18_8
    try clear hfz18_9
    try clear hfz24_0
    try clear hfz24_1
    try clear hfz24_10
    try clear hfz24_11
    try clear hfz24_12
    try clear hfz24_2
    try clear hfz24_3
    try clear hfz24_4
    try clear hfz24_5
    try clear hfz24_6
    try clear hfz24_7
    try clear hfz24_8
    try clear hfz24_9
    try clear hfz26_0
    try clear hfz26_1
    try clear hfz26_10
    try clear hfz26_11
    try clear hfz26_12
    try clear hfz26_2
    try clear hfz26_3
    try clear hfz26_4
    try clear hfz26_5
    try clear hfz26_6
    try clear hfz26_7
    try clear hfz26_8
    try clear hfz26_9
    try clear hfz31_0
    try clear hfz31_1
    try clear hfz31_10
    try clear hfz31_11
    try clear hfz31_12
    try clear hfz31_2
    try clear hfz31_3
    try clear hfz31_4
    try clear hfz31_5
    try clear hfz31_6
    try clear hfz31_7
    try clear hfz31_8
    try clear hfz31_9
    try clear hfz38_0
    try clear hfz38_1
    try clear hfz38_10
    try clear hfz38_11
    try clear hfz38_12
    try clear hfz38_2
    try clear hfz38_3
    try clear hfz38_4
    try clear hfz38_5
    try clear hfz38_6
    try clear hfz38_7
    try clear hfz38_8
    try clear hfz38_9
    try clear hfz45_0
    try clear hfz45_1
    try clear hfz45_10
    try clear hfz45_11
    try clear hfz45_12
    try clear hfz45_2
    try clear hfz45_3
    try clear hfz45_4
    try clear hfz45_5
    try clear hfz45_6
    try clear hfz45_7
    try clear hfz45_8
    try clear hfz45_9
    try clear hfz48_0
    try clear hfz48_1
    try clear hfz48_10
    try clear hfz48_11
    try clear hfz48_12
    try clear hfz48_2
    try clear hfz48_3
    try clear hfz48_4
    try clear hfz48_5
    try clear hfz48_6
    try clear hfz48_7
    try clear hfz48_8
    try clear hfz48_9
    try clear hfz53_0
    try clear hfz53_1
    try clear hfz53_10
    try clear hfz53_11
    try clear hfz53_12
    try clear hfz53_2
    try clear hfz53_3
    try clear hfz53_4
    try clear hfz53_5
    try clear hfz53_6
    try clear hfz53_7
    try clear hfz53_8
    try clear hfz53_9
    try clear hfz56_0
    try clear hfz56_1
    try clear hfz56_10
    try clear hfz56_11
    try clear hfz56_12
    try clear hfz56_2
    try clear hfz56_3
    try clear hfz56_4
    try clear hfz56_5
    try clear hfz56_6
    try clear hfz56_7
    try clear hfz56_8
    try clear hfz56_9
    try clear hfz8_0
    try clear hfz8_1
    try clear hfz8_10
    try clear hfz8_11
    try clear hfz8_12
    try clear hfz8_2
    try clear hfz8_3
    try clear hfz8_4
    try clear hfz8_5
    try clear hfz8_6
    try clear hfz8_7
    try clear hfz8_8
    try clear hfz8_9
    obtain ⟨kq, x47_13, rfl, HA, HJ13, HO_283009, HO_299009, HO_316009, BK249, BK282, BK298, BK315, HB⟩ := hcut
    cases kq with
    | zero => exact absurd HA.out (by simp [laws_FnExactWrite.j0])
    | succ kj13 =>
     have H := HA.out
     clear HA
     simp only [laws_FnExactWrite.j0] at H
     by_cases c58 : x47_13 = true
     ·subst c58
      rw [if_pos rfl] at H
      exact absurd ((Option.some.inj H).trans hr_.out) (by decide)
     ·replace c58 := Bool.eq_false_iff.mpr c58
      subst c58
      rw [if_neg (show ¬ (false = true) by decide)] at H
      replace H := Option.bind_eq_some_iff.mp H
      obtain ⟨⟨t317, t318, t319, t320, t321, t322, t323, t324, t325, t326, t329, t330, t331⟩, A590, H⟩ := H
      (try dsimp only at H)
      have A59 := Aside0.mk A590
      clear A590
      replace H := Option.bind_eq_some_iff.mp H
      obtain ⟨t332, A600, H⟩ := H
      (try dsimp only at H)
      have A60 := Aside0.mk A600
      clear A600
      by_cases c61 : t332 = true
      ·subst c61
       rw [if_pos rfl] at H
       replace H := Option.bind_eq_some_iff.mp H
       obtain ⟨⟨t333, t334⟩, A620, H⟩ := H
       (try dsimp only at H)
       have A62 := Aside0.mk A620
       clear A620
       have HC63 := Aside0.mk H
       clear H
       try go_wp2
       have n0_ := Aside0.mk (Kd.R_drew HO_283009.out)
       have n1_ := Aside0.mk (Kd.R_drew HO_299009.out)
       have n2_ := Aside0.mk (Kd.R_drew HO_316009.out)
       have n3_ := Aside0.mk (blk_drew BK249.out)
       have n4_ := Aside0.mk (blk_drew BK282.out)
       have n5_ := Aside0.mk (blk_drew BK298.out)
       have n6_ := Aside0.mk (blk_drew BK315.out)
       have n7_ := Aside0.mk (below_drew1 HB.out)
       clear HO_283009
       clear HO_299009
       clear HO_316009
       clear BK249
       clear BK282
       clear BK298
       clear BK315
       clear HB
       have HO_283009 := n0_
       have HO_299009 := n1_
       have HO_316009 := n2_
       have BK249 := n3_
       have BK282 := n4_
       have BK298 := n5_
       have BK315 := n6_
       have HB := n7_
       clear n0_ n1_ n2_ n3_ n4_ n5_ n6_ n7_
       refine start_ (n := 5) (S := fun w' => w'.cell? ⟨gb298, 0, none⟩ = some (.int .i64 t283) ∧ w'.cell? ⟨gb298, 1, none⟩ = some (.int .i64 t284) ∧ w'.cell? ⟨gb298, 2, none⟩ = some (.int .i64 t285) ∧ w'.cell? ⟨gb298, 3, none⟩ = some (.int .i64 t286) ∧ w'.cell? ⟨gb298, 4, none⟩ = some (.string t287) ∧ w'.cell? ⟨gb298, 5, none⟩ = some (.int .i64 t288) ∧ w'.cell? ⟨gb298, 6, none⟩ = some (.int .i64 t289) ∧ w'.cell? ⟨gb298, 7, none⟩ = some (.bool t290) ∧ w'.cell? ⟨gb298, 8, none⟩ = some (.string t291) ∧ w'.cell? ⟨gb298, 9, none⟩ = some (.slice Ao32 t292.length co32) ∧ w'.cell? ⟨gb298, 10, none⟩ = some (.bool t295) ∧ w'.cell? ⟨gb298, 11, none⟩ = some (.int .i64 t296) ∧ w'.cell? ⟨gb298, 12, none⟩ = some (.int .i64 t297) ∧ w'.cell? ⟨gb249, 0, none⟩ = some (.int .i64 a0_0) ∧ w'.cell? ⟨gb249, 1, none⟩ = some (.int .i64 a0_1) ∧ w'.cell? ⟨gb249, 2, none⟩ = some (.int .i64 a0_2) ∧ w'.cell? ⟨gb249, 3, none⟩ = some (.int .i64 a0_3) ∧ w'.cell? ⟨gb249, 4, none⟩ = some (.string a0_4) ∧ w'.cell? ⟨gb249, 5, none⟩ = some (.int .i64 a0_5) ∧ w'.cell? ⟨gb249, 6, none⟩ = some (.int .i64 a0_6) ∧ w'.cell? ⟨gb249, 7, none⟩ = some (.bool a0_7) ∧ w'.cell? ⟨gb249, 8, none⟩ = some (.string a0_8) ∧ w'.cell? ⟨gb249, 9, none⟩ = some (.slice A0_9 l0_9.length c0_9) ∧ w'.cell? ⟨gb249, 10, none⟩ = some (.bool a0_10) ∧ w'.cell? ⟨gb249, 11, none⟩ = some (.int .i64 a0_11) ∧ w'.cell? ⟨gb249, 12, none⟩ = some (.int .i64 a0_12)) (ds := []) #[false, false, false, false, false] B8x38_ rfl rfl ⟨(blk_cell BK298.out 0).trans rfl, (blk_cell BK298.out 1).trans rfl, (blk_cell BK298.out 2).trans rfl, (blk_cell BK298.out 3).trans rfl, (blk_cell BK298.out 4).trans rfl, (blk_cell BK298.out 5).trans rfl, (blk_cell BK298.out 6).trans rfl, (blk_cell BK298.out 7).trans rfl, (blk_cell BK298.out 8).trans rfl, (blk_cell BK298.out 9).trans rfl, (blk_cell BK298.out 10).trans rfl, (blk_cell BK298.out 11).trans rfl, (blk_cell BK298.out 12).trans rfl, (blk_cell BK249.out 0).trans rfl, (blk_cell BK249.out 1).trans rfl, (blk_cell BK249.out 2).trans rfl, (blk_cell BK249.out 3).trans rfl, (blk_cell BK249.out 4).trans rfl, (blk_cell BK249.out 5).trans rfl, (blk_cell BK249.out 6).trans rfl, (blk_cell BK249.out 7).trans rfl, (blk_cell BK249.out 8).trans rfl, (blk_cell BK249.out 9).trans rfl, (blk_cell BK249.out 10).trans rfl, (blk_cell BK249.out 11).trans rfl, (blk_cell BK249.out 12).trans rfl⟩ (fun hHeld => ?_)
       generalize wc.drew = w64 at HO_283009 HO_299009 HO_316009 BK249 BK282 BK298 BK315 HB hHeld ⊢
       refine take_ (i := 0) (N := some 48) (v := ?_) (a' := ?_) #[true, false, false, false, false] rfl rfl B8x38_ (fun _ _ _ h => h) (Or.inl ⟨by rfl, ?_⟩) hHeld ?_ ?_
       rotate_left
       ·rintro w' ⟨s0, s1, s2, s3, s4, s5, s6, s7, s8, s9, s10, s11, s12, s13, s14, s15, s16, s17, s18, s19, s20, s21, s22, s23, s24, s25⟩
        go_simp
        with_reducible rfl
       rotate_left
       ·simp only [Act.put, List.setIfInBounds_toArray, List.set_cons_zero, List.set_cons_succ, i64_w, i32_w]
        rfl
       refine take_ (i := 1) (N := some 49) (v := ?_) (a' := ?_) #[true, true, false, false, false] rfl rfl B8x38_ (fun _ _ _ h => h) (Or.inl ⟨by rfl, ?_⟩) hHeld ?_ ?_
       rotate_left
       ·rintro w' ⟨s0, s1, s2, s3, s4, s5, s6, s7, s8, s9, s10, s11, s12, s13, s14, s15, s16, s17, s18, s19, s20, s21, s22, s23, s24, s25⟩
        go_simp
        with_reducible rfl
       rotate_left
       ·simp only [Act.put, List.setIfInBounds_toArray, List.set_cons_zero, List.set_cons_succ, i64_w, i32_w]
        rfl
       refine one_ (i := 2) (N := some 50) #[true, true, true, false, false] rfl rfl B8x38_ (by decide) (fun K hK => ?_)
       refine goes_ Try.func17 B8x38_ rfl #[.agg #[.int .i64 a0_0, .int .i64 a0_1, .int .i64 a0_2, .int .i64 a0_3, .string a0_4, .int .i64 a0_5, .int .i64 a0_6, .bool a0_7, .string a0_8, .slice A0_9 l0_9.length c0_9, .bool a0_10, .int .i64 a0_11, .int .i64 a0_12]] (by rfl) rfl rfl B8x9_ ?_
       with_reducible refine (laws_toStream.calls kj13 a0_0 a0_1 a0_2 a0_3 a0_4 a0_5 a0_6 a0_7 a0_8 _ _ l0_9 a0_10 a0_11 a0_12 t317 t318 t319 t320 t321 t322 t323 t324 t325 t326 t329 t330 t331 _ ?side1 ?side2 A59.out).mono ?_
       (case side1 => repeat (first | exact (Kd.C_below HR0_9.out HB.out) | (with_reducible refine Kd.C_alloc ?_ _) | (with_reducible refine Kd.C_drewN ?_ _) | (with_reducible refine Kd.C_drew ?_)))
       (case side2 => exact HC0_9.out)
       rintro e w65 ⟨v327, rfl, ho0, hb⟩
       refine ⟨_, rfl, ?_⟩
       have n0_ := Aside0.mk (Kd.R_elder' B8x21_ (Kd.R_base ho0) hb)
       have n1_ := Aside0.mk (Kd.R_elder' B8x22_ (Kd.R_base ho0) hb)
       have n2_ := Aside0.mk (Kd.R_elder' B8x23_ (Kd.R_base ho0) hb)
       have n3_ := Aside0.mk (Kd.R_lower (Kd.R_new' (Kd.R_new' (Kd.R_new' ho0 (Kd.R_lt B8x21_)) (Kd.R_lt B8x22_)) (Kd.R_lt B8x23_)) (below_size B8x2_))
       have n4_ := Aside0.mk (blk_below (g := gb249) (o := .cells #[.int .i64 a0_0, .int .i64 a0_1, .int .i64 a0_2, .int .i64 a0_3, .string a0_4, .int .i64 a0_5, .int .i64 a0_6, .bool a0_7, .string a0_8, .slice A0_9 l0_9.length c0_9, .bool a0_10, .int .i64 a0_11, .int .i64 a0_12] 24 (0, 0)) B8x7_ hb)
       have n5_ := Aside0.mk (blk_below (g := gb282) (o := .cells #[.int .i64 t266, .int .i64 t267, .int .i64 t268, .int .i64 t269, .string t270, .int .i64 t271, .int .i64 t272, .bool t273, .string t274, .slice Ao25 t275.length co25, .bool t278, .int .i64 t279, .int .i64 t280] 29 (0, 0)) B8x10_ hb)
       have n6_ := Aside0.mk (blk_below (g := gb298) (o := .cells #[.int .i64 t283, .int .i64 t284, .int .i64 t285, .int .i64 t286, .string t287, .int .i64 t288, .int .i64 t289, .bool t290, .string t291, .slice Ao32 t292.length co32, .bool t295, .int .i64 t296, .int .i64 t297] 29 (0, 0)) B8x18_ hb)
       have n7_ := Aside0.mk (blk_below (g := gb315) (o := .cells #[.int .i64 t299, .int .i64 t300, .int .i64 t301, .int .i64 t302, .string t303, .int .i64 t304, .int .i64 t305, .bool t306, .string t307, .slice Ao39 t308.length co39, .bool t311, .int .i64 t312, .int .i64 t313] 29 (0, 0)) B8x19_ hb)
       have n8_ := Aside0.mk (below_step B8x2_ hb)
       clear HO_283009
       clear HO_299009
       clear HO_316009
       clear BK249
       clear BK282
       clear BK298
       clear BK315
       clear HB
       have HO_283009 := n0_
       have HO_299009 := n1_
       have HO_316009 := n2_
       have HO328 := n3_
       have BK249 := n4_
       have BK282 := n5_
       have BK298 := n6_
       have BK315 := n7_
       have HB := n8_
       clear n0_ n1_ n2_ n3_ n4_ n5_ n6_ n7_ n8_
       (try clear hb)
       (try clear hb2)
       (try clear hk)
       (try clear hi)
       (try clear ho0)
       obtain ⟨Ao66, co66, eo66⟩ := Kd.R_slice HO328.out
       (first | subst eo66 | (injection eo66 with f1_ f2_ f3_; have f4_ := f1_.symm; have f5_ := f3_.symm; clear f1_ f2_ f3_; subst f4_; subst f5_))
       refine hK.out _ _ ⟨(blk_cell BK298.out 0).trans rfl, (blk_cell BK298.out 1).trans rfl, (blk_cell BK298.out 2).trans rfl, (blk_cell BK298.out 3).trans rfl, (blk_cell BK298.out 4).trans rfl, (blk_cell BK298.out 5).trans rfl, (blk_cell BK298.out 6).trans rfl, (blk_cell BK298.out 7).trans rfl, (blk_cell BK298.out 8).trans rfl, (blk_cell BK298.out 9).trans rfl, (blk_cell BK298.out 10).trans rfl, (blk_cell BK298.out 11).trans rfl, (blk_cell BK298.out 12).trans rfl, (blk_cell BK249.out 0).trans rfl, (blk_cell BK249.out 1).trans rfl, (blk_cell BK249.out 2).trans rfl, (blk_cell BK249.out 3).trans rfl, (blk_cell BK249.out 4).trans rfl, (blk_cell BK249.out 5).trans rfl, (blk_cell BK249.out 6).trans rfl, (blk_cell BK249.out 7).trans rfl, (blk_cell BK249.out 8).trans rfl, (blk_cell BK249.out 9).trans rfl, (blk_cell BK249.out 10).trans rfl, (blk_cell BK249.out 11).trans rfl, (blk_cell BK249.out 12).trans rfl⟩ (fun hHeld => ?_)
       clear hK K
       refine norm_ (a' := ?_) ?_ ?_
       rotate_left
       ·show Act.put _ (some 50) _ = _
        simp only [Act.put, List.setIfInBounds_toArray, List.set_cons_zero, List.set_cons_succ, i64_w, i32_w]
        rfl
       refine one_ (i := 3) (N := some 51) #[true, true, true, true, false] rfl rfl B8x38_ (by decide) (fun K hK => ?_)
       refine goes_ Try.func19 B8x38_ rfl #[.agg #[.int .i64 t283, .int .i64 t284, .int .i64 t285, .int .i64 t286, .string t287, .int .i64 t288, .int .i64 t289, .bool t290, .string t291, .slice Ao32 t292.length co32, .bool t295, .int .i64 t296, .int .i64 t297], .agg #[.int .i64 t317, .int .i64 t318, .int .i64 t319, .int .i64 t320, .string t321, .int .i64 t322, .int .i64 t323, .bool t324, .string t325, .slice Ao66 t326.length co66, .bool t329, .int .i64 t330, .int .i64 t331]] (by rfl) rfl rfl B8x9_ ?_
       with_reducible refine (laws_eqStream.calls kj13 t283 t284 t285 t286 t287 t288 t289 t290 t291 _ _ t292 t295 t296 t297 t317 t318 t319 t320 t321 t322 t323 t324 t325 _ _ t326 t329 t330 t331 true _ ?side1 ?side2 ?side3 ?side4 A60.out).mono ?_
       (case side1 => repeat (first | exact (Kd.R_reads' HO_299009.out).2.2 | (with_reducible refine Kd.C_alloc ?_ _) | (with_reducible refine Kd.C_drewN ?_ _) | (with_reducible refine Kd.C_drew ?_)))
       (case side2 => exact (Kd.R_reads' HO_299009.out).2.1)
       (case side3 => repeat (first | exact (Kd.R_reads' HO328.out).2.2 | (with_reducible refine Kd.C_alloc ?_ _) | (with_reducible refine Kd.C_drewN ?_ _) | (with_reducible refine Kd.C_drew ?_)))
       (case side4 => exact (Kd.R_reads' HO328.out).2.1)
       rintro e w67 ⟨rfl, hb⟩
       refine ⟨_, rfl, ?_⟩
       have n0_ := Aside0.mk (Kd.R_below B8x21_ hb)
       have n1_ := Aside0.mk (Kd.R_below B8x22_ hb)
       have n2_ := Aside0.mk (Kd.R_below B8x23_ hb)
       have n3_ := Aside0.mk (Kd.R_below B8x40_ hb)
       have n4_ := Aside0.mk (blk_below (g := gb249) (o := .cells #[.int .i64 a0_0, .int .i64 a0_1, .int .i64 a0_2, .int .i64 a0_3, .string a0_4, .int .i64 a0_5, .int .i64 a0_6, .bool a0_7, .string a0_8, .slice A0_9 l0_9.length c0_9, .bool a0_10, .int .i64 a0_11, .int .i64 a0_12] 24 (0, 0)) B8x7_ hb)
       have n5_ := Aside0.mk (blk_below (g := gb282) (o := .cells #[.int .i64 t266, .int .i64 t267, .int .i64 t268, .int .i64 t269, .string t270, .int .i64 t271, .int .i64 t272, .bool t273, .string t274, .slice Ao25 t275.length co25, .bool t278, .int .i64 t279, .int .i64 t280] 29 (0, 0)) B8x10_ hb)
       have n6_ := Aside0.mk (blk_below (g := gb298) (o := .cells #[.int .i64 t283, .int .i64 t284, .int .i64 t285, .int .i64 t286, .string t287, .int .i64 t288, .int .i64 t289, .bool t290, .string t291, .slice Ao32 t292.length co32, .bool t295, .int .i64 t296, .int .i64 t297] 29 (0, 0)) B8x18_ hb)
       have n7_ := Aside0.mk (blk_below (g := gb315) (o := .cells #[.int .i64 t299, .int .i64 t300, .int .i64 t301, .int .i64 t302, .string t303, .int .i64 t304, .int .i64 t305, .bool t306, .string t307, .slice Ao39 t308.length co39, .bool t311, .int .i64 t312, .int .i64 t313] 29 (0, 0)) B8x19_ hb)
       have n8_ := Aside0.mk (below_step B8x2_ hb)
       clear HO_283009
       clear HO_299009
       clear HO_316009
       clear HO328
       clear BK249
       clear BK282
       clear BK298
       clear BK315
       clear HB
       have HO_283009 := n0_
       have HO_299009 := n1_
       have HO_316009 := n2_
       have HO328 := n3_
       have BK249 := n4_
       have BK282 := n5_
       have BK298 := n6_
       have BK315 := n7_
       have HB := n8_
       clear n0_ n1_ n2_ n3_ n4_ n5_ n6_ n7_ n8_
       (try clear hb)
       (try clear hb2)
       (try clear hk)
       (try clear hi)
       refine hK.out _ _ ⟨(blk_cell BK298.out 0).trans rfl, (blk_cell BK298.out 1).trans rfl, (blk_cell BK298.out 2).trans rfl, (blk_cell BK298.out 3).trans rfl, (blk_cell BK298.out 4).trans rfl, (blk_cell BK298.out 5).trans rfl, (blk_cell BK298.out 6).trans rfl, (blk_cell BK298.out 7).trans rfl, (blk_cell BK298.out 8).trans rfl, (blk_cell BK298.out 9).trans rfl, (blk_cell BK298.out 10).trans rfl, (blk_cell BK298.out 11).trans rfl, (blk_cell BK298.out 12).trans rfl, (blk_cell BK249.out 0).trans rfl, (blk_cell BK249.out 1).trans rfl, (blk_cell BK249.out 2).trans rfl, (blk_cell BK249.out 3).trans rfl, (blk_cell BK249.out 4).trans rfl, (blk_cell BK249.out 5).trans rfl, (blk_cell BK249.out 6).trans rfl, (blk_cell BK249.out 7).trans rfl, (blk_cell BK249.out 8).trans rfl, (blk_cell BK249.out 9).trans rfl, (blk_cell BK249.out 10).trans rfl, (blk_cell BK249.out 11).trans rfl, (blk_cell BK249.out 12).trans rfl⟩ (fun hHeld => ?_)
       clear hK K
       refine norm_ (a' := ?_) ?_ ?_
       rotate_left
       ·show Act.put _ (some 51) _ = _
        simp only [Act.put, List.setIfInBounds_toArray, List.set_cons_zero, List.set_cons_succ, i64_w, i32_w]
        rfl
       refine pure_ (i := 4) (N := some 52) (v := ?_) (a' := ?_) #[true, true, true, true, true] rfl rfl B8x38_ (fun _ _ _ h => h) (Or.inl ⟨by rfl, ?_⟩) ?_ ?_
       rotate_left
       ·intro w'
        go_simp
        with_reducible rfl
       rotate_left
       ·simp only [Act.put, List.setIfInBounds_toArray, List.set_cons_zero, List.set_cons_succ, i64_w, i32_w]
        rfl
       refine done_ B8x38_ ?_
       have hnb68 := NB298_249.out
       have hnc68 := NB249_298.out
       have hnb69 := NB298_282.out
       have hnc69 := NB282_298.out
       have hnb70 := NB298_315.out
       have hnc70 := NB315_298.out
       obtain ⟨hcz71_0, hcz71_1, hcz71_2, hcz71_3, hcz71_4, hcz71_5, hcz71_6, hcz71_7, hcz71_8, hcz71_9, hcz71_10, hcz71_11, hcz71_12⟩ := cl13 BK298.out
       obtain ⟨hfz71_0, hfz71_1, hfz71_2, hfz71_3, hfz71_4, hfz71_5, hfz71_6, hfz71_7, hfz71_8, hfz71_9, hfz71_10, hfz71_11, hfz71_12⟩ := fr13 BK298.out
       go_upto_region 16 with (first | ((with_reducible refine gate_callee (f := 65) rfl ?_); refine goesL_ (some 55) rfl rfl Try.func65 B8x38_ rfl #[.agg #[.int .i64 t283, .int .i64 t284, .int .i64 t285, .int .i64 t286, .string t287, .int .i64 t288, .int .i64 t289, .bool t290, .string t291, .slice Ao32 t292.length co32, .bool t295, .int .i64 t296, .int .i64 t297], .int .i64 1] rfl B8x9_ ?_; (with_reducible refine (laws_markStream.calls kj13 t283 t284 t285 t286 t287 t288 t289 t290 t291 (fun k_ => some k_ = (.slice Ao32 t292.length co32 : Value).ownBlock) (.slice Ao32 t292.length co32) t292 t295 t296 t297 1 t333 t334 w _ ?side1 ?side2 A62.out).mono ?_); (case side1 => repeat (first | (with_reducible first | exact HB.out | apply below_alloc | apply pw_below_drewN | apply below_drew1 | refine below_set ?_ GE249.out | refine below_set ?_ GE282.out | refine below_set ?_ GE298.out | refine below_set ?_ GE315.out) | exact HB.out)); (case side2 => exact Kd.R_tight rfl HO_299009.out); rintro e w72 ⟨rfl, hy0, hb, hkp⟩; refine ⟨_, rfl, ?_⟩; have n0_ := Aside0.mk (Kd.R_mono (ok' := fun k_ => some k_ ≠ (.slice Ao32 t292.length co32 : Value).ownBlock ∧ some k_ ≠ (.slice Ao39 t308.length co39 : Value).ownBlock ∧ some k_ ≠ (.slice Ao66 t326.length co66 : Value).ownBlock) (Kd.R_keptB (HO_283009.out) hkp (fun k_ hk_ hs_ => (hk_.1.1) hs_)) (fun k_ hk_ => ⟨hk_.1.1.1, hk_.1.1.2, hk_.1.2⟩)); have n1_ := Aside0.mk (Kd.R_reok rfl hy0 (fun k_ e_ => HO_299009.out.1 k_ e_)); have n2_ := Aside0.mk (Kd.R_mono (ok' := fun k_ => some k_ ≠ (.slice Ao25 t275.length co25 : Value).ownBlock ∧ some k_ ≠ (.slice Ao32 t292.length co32 : Value).ownBlock ∧ some k_ ≠ (.slice Ao66 t326.length co66 : Value).ownBlock) (Kd.R_keptB (HO_316009.out) hkp (fun k_ hk_ hs_ => (hk_.1.2) hs_)) (fun k_ hk_ => ⟨hk_.1.1.1, hk_.1.1.2, hk_.1.2⟩)); have n3_ := Aside0.mk (blk_kept B8x7_ hkp (fun hs_ => (fun e_ => (Kd.R_ne HO_299009.out BK249.out (by decide)) e_) hs_)); have n4_ := Aside0.mk (blk_kept B8x10_ hkp (fun hs_ => (fun e_ => (Kd.R_ne HO_299009.out BK282.out (by decide)) e_) hs_)); have n5_ := Aside0.mk (blk_kept B8x18_ hkp (fun hs_ => (fun e_ => (Kd.R_ne HO_299009.out BK298.out (by decide)) e_) hs_)); have n6_ := Aside0.mk (blk_kept B8x19_ hkp (fun hs_ => (fun e_ => (Kd.R_ne HO_299009.out BK315.out (by decide)) e_) hs_)); have n7_ := Aside0.mk (Kd.R_mono (ok' := fun k_ => some k_ ≠ (.slice Ao25 t275.length co25 : Value).ownBlock ∧ some k_ ≠ (.slice Ao32 t292.length co32 : Value).ownBlock ∧ some k_ ≠ (.slice Ao39 t308.length co39 : Value).ownBlock) (Kd.R_keptB (HO328.out) hkp (fun k_ hk_ hs_ => (hk_.1.2) hs_)) (fun k_ hk_ => ⟨hk_.1.1.1.2, hk_.1.1.2, hk_.1.2⟩)); have n8_ := Aside0.mk (hb); clear HO_283009; clear HO_299009; clear HO_316009; clear BK249; clear BK282; clear BK298; clear BK315; clear HO328; clear HB; have HO_283009 := n0_; have HO_299009 := n1_; have HO_316009 := n2_; have BK249 := n3_; have BK282 := n4_; have BK298 := n5_; have BK315 := n6_; have HO328 := n7_; have HB := n8_; clear n0_ n1_ n2_ n3_ n4_ n5_ n6_ n7_ n8_; (try clear hb); (try clear hkp); (try clear hy0)))
       (try simp only [Act.put, List.setIfInBounds_toArray, List.set_cons_zero, List.set_cons_succ])
       go_cut [68] (fun v68 wc => ∃ (kq : Nat) (x68_62 : Bool), v68 = .bool x68_62 ∧ Aside0 (laws_FnExactWrite.j1 kq a1 t281 x68_62 a0_0 a0_1 a0_2 a0_3 a0_4 a0_5 a0_6 a0_7 a0_8 l0_9 a0_10 a0_11 a0_12 t266 t267 t268 t269 t270 t271 t272 t273 t274 t275 t278 t279 t280 t299 t300 t301 t302 t303 t304 t305 t306 t307 t308 t311 t312 t313 = some r) ∧ Aside0 (kq ≤ kj13) ∧ Aside0 (Kd.R k112 112 wc w.heap.size (fun k_ => some k_ ≠ ((.slice Ao32 t292.length co32) : Value).ownBlock ∧ some k_ ≠ ((.slice Ao39 t308.length co39) : Value).ownBlock) (.slice Ao25 t275.length co25) t275) ∧ Aside0 (Kd.R k112 112 wc w.heap.size (fun k_ => some k_ ≠ ((.slice Ao25 t275.length co25) : Value).ownBlock ∧ some k_ ≠ ((.slice Ao39 t308.length co39) : Value).ownBlock) (.slice Ao32 t292.length co32) t334) ∧ Aside0 (Kd.R k112 112 wc w.heap.size (fun k_ => some k_ ≠ ((.slice Ao25 t275.length co25) : Value).ownBlock ∧ some k_ ≠ ((.slice Ao32 t292.length co32) : Value).ownBlock) (.slice Ao39 t308.length co39) t308) ∧ Aside0 (wc.heap[gb249]? = some (.cells #[.int .i64 a0_0, .int .i64 a0_1, .int .i64 a0_2, .int .i64 a0_3, .string a0_4, .int .i64 a0_5, .int .i64 a0_6, .bool a0_7, .string a0_8, (.slice A0_9 l0_9.length c0_9), .bool a0_10, .int .i64 a0_11, .int .i64 a0_12] 24 (0, 0))) ∧ Aside0 (wc.heap[gb282]? = some (.cells #[.int .i64 t266, .int .i64 t267, .int .i64 t268, .int .i64 t269, .string t270, .int .i64 t271, .int .i64 t272, .bool t273, .string t274, (.slice Ao25 t275.length co25), .bool t278, .int .i64 t279, .int .i64 t280] 29 (0, 0))) ∧ Aside0 (wc.heap[gb298]? = some (.cells #[.int .i64 t283, .int .i64 t284, .int .i64 t285, .int .i64 t286, .string t287, .int .i64 t288, .int .i64 t289, .bool t290, .string t291, (.slice Ao32 t292.length co32), .bool t295, .int .i64 t296, .int .i64 t297] 29 (0, 0))) ∧ Aside0 (wc.heap[gb315]? = some (.cells #[.int .i64 t299, .int .i64 t300, .int .i64 t301, .int .i64 t302, .string t303, .int .i64 t304, .int .i64 t305, .bool t306, .string t307, (.slice Ao39 t308.length co39), .bool t311, .int .i64 t312, .int .i64 t313] 29 (0, 0))) ∧ Aside0 (Below w.heap.size w wc))
       case first =>
        have H := HC63.out
        clear HC63
        by_cases c73 : t333 < 0
        ·rw [if_pos c73] at H
         have c73b0 : decide (t333 < 0) = true := decide_eq_true c73
         clear c73
         (first | rw [c73b0] | (simp only [i64_w, i32_w]; rw [c73b0]) | skip)
         have H' := Aside0.mk H
         clear H
         go_wp2
         go_meet
         case rel => exact ⟨_, (true), (be_), H', ⟨by have := HJ13.out; first | omega | exact Nat.le_refl _⟩, ⟨by (with_reducible repeat (first | apply Kd.R_alloc | apply Kd.R_drewN | apply Kd.R_drew)); exact Kd.R_mono HO_283009.out (fun _ hk => ⟨hk.1, hk.2.1⟩)⟩, ⟨by (with_reducible repeat (first | apply Kd.R_alloc | apply Kd.R_drewN | apply Kd.R_drew)); exact Kd.R_mono HO_299009.out (fun _ hk => ⟨hk.1.1, hk.1.2⟩)⟩, ⟨by (with_reducible repeat (first | apply Kd.R_alloc | apply Kd.R_drewN | apply Kd.R_drew)); exact Kd.R_mono HO_316009.out (fun _ hk => ⟨hk.1, hk.2.1⟩)⟩, ⟨by (with_reducible repeat (first | refine blk_drewN ?_ _ | refine blk_drew ?_ | refine blk_alloc ?_ _)); exact BK249.out⟩, ⟨by (with_reducible repeat (first | refine blk_drewN ?_ _ | refine blk_drew ?_ | refine blk_alloc ?_ _)); exact BK282.out⟩, ⟨by (with_reducible repeat (first | refine blk_drewN ?_ _ | refine blk_drew ?_ | refine blk_alloc ?_ _)); exact BK298.out⟩, ⟨by (with_reducible repeat (first | refine blk_drewN ?_ _ | refine blk_drew ?_ | refine blk_alloc ?_ _)); exact BK315.out⟩, ⟨by repeat (first | (with_reducible first | exact HB.out | apply below_alloc | apply pw_below_drewN | apply below_drew1 | refine below_set ?_ GE249.out | refine below_set ?_ GE282.out | refine below_set ?_ GE298.out | refine below_set ?_ GE315.out) | exact HB.out)⟩⟩
        ·rw [if_neg c73] at H
         have c73b0 : decide (t333 < 0) = false := decide_eq_false c73
         clear c73
         (first | rw [c73b0] | (simp only [i64_w, i32_w]; rw [c73b0]) | skip)
         replace H := Option.bind_eq_some_iff.mp H
         obtain ⟨t335, A740, H⟩ := H
         (try dsimp only at H)
         have A74 := Aside0.mk A740
         clear A740
         by_cases c75 : t335 = true
         ·subst c75
          rw [if_pos rfl] at H
          have H' := Aside0.mk H
          clear H
          have hnb76 := NB315_249.out
          have hnc76 := NB249_315.out
          have hnb77 := NB315_282.out
          have hnc77 := NB282_315.out
          have hnb78 := NB315_298.out
          have hnc78 := NB298_315.out
          obtain ⟨hcz79_0, hcz79_1, hcz79_2, hcz79_3, hcz79_4, hcz79_5, hcz79_6, hcz79_7, hcz79_8, hcz79_9, hcz79_10, hcz79_11, hcz79_12⟩ := cl13 BK315.out
          obtain ⟨hfz79_0, hfz79_1, hfz79_2, hfz79_3, hfz79_4, hfz79_5, hfz79_6, hfz79_7, hfz79_8, hfz79_9, hfz79_10, hfz79_11, hfz79_12⟩ := fr13 BK315.out
          have hnb80 := NB282_249.out
          have hnc80 := NB249_282.out
          have hnb81 := NB282_298.out
          have hnc81 := NB298_282.out
          obtain ⟨hcz82_0, hcz82_1, hcz82_2, hcz82_3, hcz82_4, hcz82_5, hcz82_6, hcz82_7, hcz82_8, hcz82_9, hcz82_10, hcz82_11, hcz82_12⟩ := cl13 BK282.out
          obtain ⟨hfz82_0, hfz82_1, hfz82_2, hfz82_3, hfz82_4, hfz82_5, hfz82_6, hfz82_7, hfz82_8, hfz82_9, hfz82_10, hfz82_11, hfz82_12⟩ := fr13 BK282.out
          go_wp2_with (first | (go_at_call 19; (with_reducible refine (laws_eqStream.calls kj13 t299 t300 t301 t302 t303 t304 t305 t306 t307 _ _ t308 t311 t312 t313 t266 t267 t268 t269 t270 t271 t272 t273 t274 _ _ t275 t278 t279 t280 true _ ?side1 ?side2 ?side3 ?side4 A74.out).mono ?_); (case side1 => repeat (first | exact (Kd.R_reads' HO_316009.out).2.2 | (with_reducible refine Kd.C_alloc ?_ _) | (with_reducible refine Kd.C_drewN ?_ _) | (with_reducible refine Kd.C_drew ?_))); (case side2 => exact (Kd.R_reads' HO_316009.out).2.1); (case side3 => repeat (first | exact (Kd.R_reads' HO_283009.out).2.2 | (with_reducible refine Kd.C_alloc ?_ _) | (with_reducible refine Kd.C_drewN ?_ _) | (with_reducible refine Kd.C_drew ?_))); (case side4 => exact (Kd.R_reads' HO_283009.out).2.1); rintro e w83 ⟨rfl, hb⟩; have n0_ := Aside0.mk (Kd.R_below B8x21_ hb); have n1_ := Aside0.mk (Kd.R_below B8x22_ hb); have n2_ := Aside0.mk (Kd.R_below B8x23_ hb); have n3_ := Aside0.mk (Kd.R_below B8x40_ hb); have n4_ := Aside0.mk (blk_below (g := gb249) (o := .cells #[.int .i64 a0_0, .int .i64 a0_1, .int .i64 a0_2, .int .i64 a0_3, .string a0_4, .int .i64 a0_5, .int .i64 a0_6, .bool a0_7, .string a0_8, .slice A0_9 l0_9.length c0_9, .bool a0_10, .int .i64 a0_11, .int .i64 a0_12] 24 (0, 0)) B8x7_ hb); have n5_ := Aside0.mk (blk_below (g := gb282) (o := .cells #[.int .i64 t266, .int .i64 t267, .int .i64 t268, .int .i64 t269, .string t270, .int .i64 t271, .int .i64 t272, .bool t273, .string t274, .slice Ao25 t275.length co25, .bool t278, .int .i64 t279, .int .i64 t280] 29 (0, 0)) B8x10_ hb); have n6_ := Aside0.mk (blk_below (g := gb298) (o := .cells #[.int .i64 t283, .int .i64 t284, .int .i64 t285, .int .i64 t286, .string t287, .int .i64 t288, .int .i64 t289, .bool t290, .string t291, .slice Ao32 t292.length co32, .bool t295, .int .i64 t296, .int .i64 t297] 29 (0, 0)) B8x18_ hb); have n7_ := Aside0.mk (blk_below (g := gb315) (o := .cells #[.int .i64 t299, .int .i64 t300, .int .i64 t301, .int .i64 t302, .string t303, .int .i64 t304, .int .i64 t305, .bool t306, .string t307, .slice Ao39 t308.length co39, .bool t311, .int .i64 t312, .int .i64 t313] 29 (0, 0)) B8x19_ hb); have n8_ := Aside0.mk (below_step B8x2_ hb); clear HO_283009; clear HO_299009; clear HO_316009; clear HO328; clear BK249; clear BK282; clear BK298; clear BK315; clear HB; have HO_283009 := n0_; have HO_299009 := n1_; have HO_316009 := n2_; have HO328 := n3_; have BK249 := n4_; have BK282 := n5_; have BK298 := n6_; have BK315 := n7_; have HB := n8_; clear n0_ n1_ n2_ n3_ n4_ n5_ n6_ n7_ n8_; (try clear hb); (try clear hb2); (try clear hk); (try clear hi)))
          go_meet
          case rel => exact ⟨_, ((t314 != t281)), (be_), H', ⟨by have := HJ13.out; first | omega | exact Nat.le_refl _⟩, ⟨by (with_reducible repeat (first | apply Kd.R_alloc | apply Kd.R_drewN | apply Kd.R_drew)); exact Kd.R_mono HO_283009.out (fun _ hk => ⟨hk.1, hk.2.1⟩)⟩, ⟨by (with_reducible repeat (first | apply Kd.R_alloc | apply Kd.R_drewN | apply Kd.R_drew)); exact Kd.R_mono HO_299009.out (fun _ hk => ⟨hk.1.1, hk.1.2⟩)⟩, ⟨by (with_reducible repeat (first | apply Kd.R_alloc | apply Kd.R_drewN | apply Kd.R_drew)); exact Kd.R_mono HO_316009.out (fun _ hk => ⟨hk.1, hk.2.1⟩)⟩, ⟨by (with_reducible repeat (first | refine blk_drewN ?_ _ | refine blk_drew ?_ | refine blk_alloc ?_ _)); exact BK249.out⟩, ⟨by (with_reducible repeat (first | refine blk_drewN ?_ _ | refine blk_drew ?_ | refine blk_alloc ?_ _)); exact BK282.out⟩, ⟨by (with_reducible repeat (first | refine blk_drewN ?_ _ | refine blk_drew ?_ | refine blk_alloc ?_ _)); exact BK298.out⟩, ⟨by (with_reducible repeat (first | refine blk_drewN ?_ _ | refine blk_drew ?_ | refine blk_alloc ?_ _)); exact BK315.out⟩, ⟨by repeat (first | (with_reducible first | exact HB.out | apply below_alloc | apply pw_below_drewN | apply below_drew1 | refine below_set ?_ GE249.out | refine below_set ?_ GE282.out | refine below_set ?_ GE298.out | refine below_set ?_ GE315.out) | exact HB.out)⟩⟩
         ·replace c75 := Bool.eq_false_iff.mpr c75
          subst c75
          rw [if_neg (show ¬ (false = true) by decide)] at H
          have H' := Aside0.mk H
          clear H
          have hnb84 := NB315_249.out
          have hnc84 := NB249_315.out
          have hnb85 := NB315_282.out
          have hnc85 := NB282_315.out
          have hnb86 := NB315_298.out
          have hnc86 := NB298_315.out
          obtain ⟨hcz87_0, hcz87_1, hcz87_2, hcz87_3, hcz87_4, hcz87_5, hcz87_6, hcz87_7, hcz87_8, hcz87_9, hcz87_10, hcz87_11, hcz87_12⟩ := cl13 BK315.out
          obtain ⟨hfz87_0, hfz87_1, hfz87_2, hfz87_3, hfz87_4, hfz87_5, hfz87_6, hfz87_7, hfz87_8, hfz87_9, hfz87_10, hfz87_11, hfz87_12⟩ := fr13 BK315.out
          have hnb88 := NB282_249.out
          have hnc88 := NB249_282.out
          have hnb89 := NB282_298.out
          have hnc89 := NB298_282.out
          obtain ⟨hcz90_0, hcz90_1, hcz90_2, hcz90_3, hcz90_4, hcz90_5, hcz90_6, hcz90_7, hcz90_8, hcz90_9, hcz90_10, hcz90_11, hcz90_12⟩ := cl13 BK282.out
          obtain ⟨hfz90_0, hfz90_1, hfz90_2, hfz90_3, hfz90_4, hfz90_5, hfz90_6, hfz90_7, hfz90_8, hfz90_9, hfz90_10, hfz90_11, hfz90_12⟩ := fr13 BK282.out
          go_wp2_with (first | (go_at_call 19; (with_reducible refine (laws_eqStream.calls kj13 t299 t300 t301 t302 t303 t304 t305 t306 t307 _ _ t308 t311 t312 t313 t266 t267 t268 t269 t270 t271 t272 t273 t274 _ _ t275 t278 t279 t280 false _ ?side1 ?side2 ?side3 ?side4 A74.out).mono ?_); (case side1 => repeat (first | exact (Kd.R_reads' HO_316009.out).2.2 | (with_reducible refine Kd.C_alloc ?_ _) | (with_reducible refine Kd.C_drewN ?_ _) | (with_reducible refine Kd.C_drew ?_))); (case side2 => exact (Kd.R_reads' HO_316009.out).2.1); (case side3 => repeat (first | exact (Kd.R_reads' HO_283009.out).2.2 | (with_reducible refine Kd.C_alloc ?_ _) | (with_reducible refine Kd.C_drewN ?_ _) | (with_reducible refine Kd.C_drew ?_))); (case side4 => exact (Kd.R_reads' HO_283009.out).2.1); rintro e w91 ⟨rfl, hb⟩; have n0_ := Aside0.mk (Kd.R_below B8x21_ hb); have n1_ := Aside0.mk (Kd.R_below B8x22_ hb); have n2_ := Aside0.mk (Kd.R_below B8x23_ hb); have n3_ := Aside0.mk (Kd.R_below B8x40_ hb); have n4_ := Aside0.mk (blk_below (g := gb249) (o := .cells #[.int .i64 a0_0, .int .i64 a0_1, .int .i64 a0_2, .int .i64 a0_3, .string a0_4, .int .i64 a0_5, .int .i64 a0_6, .bool a0_7, .string a0_8, .slice A0_9 l0_9.length c0_9, .bool a0_10, .int .i64 a0_11, .int .i64 a0_12] 24 (0, 0)) B8x7_ hb); have n5_ := Aside0.mk (blk_below (g := gb282) (o := .cells #[.int .i64 t266, .int .i64 t267, .int .i64 t268, .int .i64 t269, .string t270, .int .i64 t271, .int .i64 t272, .bool t273, .string t274, .slice Ao25 t275.length co25, .bool t278, .int .i64 t279, .int .i64 t280] 29 (0, 0)) B8x10_ hb); have n6_ := Aside0.mk (blk_below (g := gb298) (o := .cells #[.int .i64 t283, .int .i64 t284, .int .i64 t285, .int .i64 t286, .string t287, .int .i64 t288, .int .i64 t289, .bool t290, .string t291, .slice Ao32 t292.length co32, .bool t295, .int .i64 t296, .int .i64 t297] 29 (0, 0)) B8x18_ hb); have n7_ := Aside0.mk (blk_below (g := gb315) (o := .cells #[.int .i64 t299, .int .i64 t300, .int .i64 t301, .int .i64 t302, .string t303, .int .i64 t304, .int .i64 t305, .bool t306, .string t307, .slice Ao39 t308.length co39, .bool t311, .int .i64 t312, .int .i64 t313] 29 (0, 0)) B8x19_ hb); have n8_ := Aside0.mk (below_step B8x2_ hb); clear HO_283009; clear HO_299009; clear HO_316009; clear HO328; clear BK249; clear BK282; clear BK298; clear BK315; clear HB; have HO_283009 := n0_; have HO_299009 := n1_; have HO_316009 := n2_; have HO328 := n3_; have BK249 := n4_; have BK282 := n5_; have BK298 := n6_; have BK315 := n7_; have HB := n8_; clear n0_ n1_ n2_ n3_ n4_ n5_ n6_ n7_ n8_; (try clear hb); (try clear hb2); (try clear hk); (try clear hi)))
          go_meet
          case rel => exact ⟨_, (true), (be_), H', ⟨by have := HJ13.out; first | omega | exact Nat.le_refl _⟩, ⟨by (with_reducible repeat (first | apply Kd.R_alloc | apply Kd.R_drewN | apply Kd.R_drew)); exact Kd.R_mono HO_283009.out (fun _ hk => ⟨hk.1, hk.2.1⟩)⟩, ⟨by (with_reducible repeat (first | apply Kd.R_alloc | apply Kd.R_drewN | apply Kd.R_drew)); exact Kd.R_mono HO_299009.out (fun _ hk => ⟨hk.1.1, hk.1.2⟩)⟩, ⟨by (with_reducible repeat (first | apply Kd.R_alloc | apply Kd.R_drewN | apply Kd.R_drew)); exact Kd.R_mono HO_316009.out (fun _ hk => ⟨hk.1, hk.2.1⟩)⟩, ⟨by (with_reducible repeat (first | refine blk_drewN ?_ _ | refine blk_drew ?_ | refine blk_alloc ?_ _)); exact BK249.out⟩, ⟨by (with_reducible repeat (first | refine blk_drewN ?_ _ | refine blk_drew ?_ | refine blk_alloc ?_ _)); exact BK282.out⟩, ⟨by (with_reducible repeat (first | refine blk_drewN ?_ _ | refine blk_drew ?_ | refine blk_alloc ?_ _)); exact BK298.out⟩, ⟨by (with_reducible repeat (first | refine blk_drewN ?_ _ | refine blk_drew ?_ | refine blk_alloc ?_ _)); exact BK315.out⟩, ⟨by repeat (first | (with_reducible first | exact HB.out | apply below_alloc | apply pw_below_drewN | apply below_drew1 | refine below_set ?_ GE249.out | refine below_set ?_ GE282.out | refine below_set ?_ GE298.out | refine below_set ?_ GE315.out) | exact HB.out)⟩⟩
       case rest =>
        clear HC63
        try clear c1
        try clear p2
        try clear c5
        try clear c6
        try clear c7
        try clear c8
        try clear c17
        try clear c19
        try clear c58
        try clear c61
        try clear c65
        try clear c68
        try clear c69
        try clear c70
        try clear c73
        try clear c73b0
        try clear c75
        try clear c76
        try clear c77
        try clear c78
        try clear c80
        try clear c81
        try clear c84
        try clear c85
        try clear c86
        try clear c88
        try clear c89
        try clear hcz45_2
        try clear hcz45_3
        try clear hcz45_4
        try clear hcz45_5
        try clear hcz45_6
        try clear hcz45_7
        try clear hcz45_8
        try clear hcz45_9
        try clear hcz48_0
        try clear hcz48_1
        try clear hcz48_10
        try clear hcz48_11
        try clear hcz48_12
        try clear hcz48_2
        try clear hcz48_3
        try clear hcz48_4
        try clear hcz48_5
        try clear hcz48_6
        try clear hcz48_7
        try clear hcz48_8
        try clear hcz48_9
        try clear hcz53_0
        try clear hcz53_1
        try clear hcz53_10
        try clear hcz53_11
        try clear hcz53_12
        try clear hcz53_2
        try clear hcz53_3
        try clear hcz53_4
        try clear hcz53_5
        try clear hcz53_6
        try clear hcz53_7
        try clear hcz53_8
        try clear hcz53_9
        try clear hcz56_0
        try clear hcz56_1
        try clear hcz56_10
        try clear hcz56_11
        try clear hcz56_12
        try clear hcz56_2
        try clear hcz56_3
        try clear hcz56_4
        try clear hcz56_5
        try clear hcz56_6
        try clear hcz56_7
        try clear hcz56_8
        try clear hcz56_9
        try clear hcz71_0
        try clear hcz71_1
        try clear hcz71_10
        try clear hcz71_11
        try clear hcz71_12
        try clear hcz71_2
        try clear hcz71_3
        try clear hcz71_4
        try clear hcz71_5
        try clear hcz71_6
        try clear hcz71_7
        try clear hcz71_8
        try clear hcz71_9
        try clear hcz79_0
        try clear hcz79_1
        try clear hcz79_10
        try clear hcz79_11
        try clear hcz79_12
        try clear hcz79_2
        try clear hcz79_3
        try clear hcz79_4
        try clear hcz79_5
        try clear hcz79_6
        try clear hcz79_7
        try clear hcz79_8
        try clear hcz79_9
        try clear hcz82_0
        try clear hcz82_1
        try clear hcz82_10
        try clear hcz82_11
        try clear hcz82_12
        try clear hcz82_2
        try clear hcz82_3
        try clear hcz82_4
        try clear hcz82_5
        try clear hcz82_6
        try clear hcz82_7
        try clear hcz82_8
        try clear hcz82_9
        try clear hcz87_0
        try clear hcz87_1
        try clear hcz87_10
        try clear hcz87_11
        try clear hcz87_12
        try clear hcz87_2
        try clear hcz87_3
        try clear hcz87_4
        try clear hcz87_5
        try clear hcz87_6
        try clear hcz87_7
        try clear hcz87_8
        try clear hcz87_9
        try clear hcz8_0
        try clear hcz8_1
        try clear hcz8_10
        try clear hcz8_11
        try clear hcz8_12
        try clear hcz8_2
        try clear hcz8_3
        try clear hcz8_4
        try clear hcz8_5
        try clear hcz8_6
        try clear hcz8_7
        try clear hcz8_8
        try clear hcz8_9
        try clear hcz90_0
        try clear hcz90_1
        try clear hcz90_10
        try clear hcz90_11
        try clear hcz90_12
        try clear hcz90_2
        try clear hcz90_3
        try clear hcz90_4
        try clear hcz90_5
        try clear hcz90_6
        try clear hcz90_7
        try clear hcz90_8
        try clear hcz90_9
        try clear hfz16_0
        try clear hfz16_1
        try clear hfz16_10
        try clear hfz16_11
        try clear hfz16_12
        try clear hfz16_2
        try clear hfz16_3
        try clear hfz16_4
        try clear hfz16_5
        try clear hfz16_6
        try clear hfz16_7
        try clear hfz16_8
        try clear hfz16_9
        try clear hfz18_0
        try clear hfz18_1
        try clear hfz18_10
        try clear hfz18_11
        try clear hfz18_12
        try clear hfz18_2
        try clear hfz18_3
        try clear hfz18_4
        try clear hfz18_5
        try clear hfz18_6
        try clear hfz18_7
        try clear hfz18_8
        try clear hfz18_9
        try clear hfz24_0
        try clear hfz24_1
        try clear hfz24_10
        try clear hfz24_11
        try clear hfz24_12
        try clear hfz24_2
        try clear hfz24_3
        try clear hfz24_4
        try clear hfz24_5
        try clear hfz24_6
        try clear hfz24_7
        try clear hfz24_8
        try clear hfz24_9
        try clear hfz26_0
        try clear hfz26_1
        try clear hfz26_10
        try clear hfz26_11
        try clear hfz26_12
        try clear hfz26_2
        try clear hfz26_3
        try clear hfz26_4
        try clear hfz26_5
        try clear hfz26_6
        try clear hfz26_7
        try clear hfz26_8
        try clear hfz26_9
        try clear hfz31_0
        try clear hfz31_1
        try clear hfz31_10
        try clear hfz31_11
        try clear hfz31_12
        try clear hfz31_2
        try clear hfz31_3
        try clear hfz31_4
        try clear hfz31_5
        try clear hfz31_6
        try clear hfz31_7
        try clear hfz31_8
        try clear hfz31_9
        try clear hfz38_0
        try clear hfz38_1
        try clear hfz38_10
        try clear hfz38_11
        try clear hfz38_12
        try clear hfz38_2
        try clear hfz38_3
        try clear hfz38_4
        try clear hfz38_5
        try clear hfz38_6
        try clear hfz38_7
        try clear hfz38_8
        try clear hfz38_9
        try clear hfz45_0
        try clear hfz45_1
        try clear hfz45_10
        try clear hfz45_11
        try clear hfz45_12
        try clear hfz45_2
        try clear hfz45_3
        try clear hfz45_4
        try clear hfz45_5
        try clear hfz45_6
        try clear hfz45_7
        try clear hfz45_8
        try clear hfz45_9
        try clear hfz48_0
        try clear hfz48_1
        try clear hfz48_10
        try clear hfz48_11
        try clear hfz48_12
        try clear hfz48_2
        try clear hfz48_3
        try clear hfz48_4
        try clear hfz48_5
        try clear hfz48_6
        try clear hfz48_7
        try clear hfz48_8
        try clear hfz48_9
        try clear hfz53_0
        try clear hfz53_1
        try clear hfz53_10
        try clear hfz53_11
        try clear hfz53_12
        try clear hfz53_2
        try clear hfz53_3
        try clear hfz53_4
        try clear hfz53_5
        try clear hfz53_6
        try clear hfz53_7
        try clear hfz53_8
        try clear hfz53_9
        try clear hfz56_0
        try clear hfz56_1
        try clear hfz56_10
        try clear hfz56_11
        try clear hfz56_12
        try clear hfz56_2
        try clear hfz56_3
        try clear hfz56_4
        try clear hfz56_5
        try clear hfz56_6
        try clear hfz56_7
        try clear hfz56_8
        try clear hfz56_9
        try clear hfz71_0
        try clear hfz71_1
        try clear hfz71_10
        try clear hfz71_11
        try clear hfz71_12
        try clear hfz71_2
        try clear hfz71_3
        try clear hfz71_4
        try clear hfz71_5
        try clear hfz71_6
        try clear hfz71_7
        try clear hfz71_8
        try clear hfz71_9
        try clear hfz79_0
        try clear hfz79_1
        try clear hfz79_10
        try clear hfz79_11
        try clear hfz79_12
        try clear hfz79_2
        try clear hfz79_3
        try clear hfz79_4
        try clear hfz79_5
        try clear hfz79_6
        try clear hfz79_7
        try clear hfz79_8
        try clear hfz79_9
        try clear hfz82_0
        try clear hfz82_1
        try clear hfz82_10
        try clear hfz82_11
        try clear hfz82_12
        try clear hfz82_2
        try clear hfz82_3
        try clear hfz82_4
        try clear hfz82_5
        try clear hfz82_6
        try clear hfz82_7
        try clear hfz82_8
        try clear hfz82_9
        try clear hfz87_0
        try clear hfz87_1
        try clear hfz87_10
        try clear hfz87_11
        try clear hfz87_12
        try clear hfz87_2
        try clear hfz87_3
        try clear hfz87_4
        try clear hfz87_5
        try clear hfz87_6
        try clear hfz87_7
        try clear hfz87_8
        try clear hfz87_9
        try clear hfz8_0
        try clear hfz8_1
        try clear hfz8_10
        try clear hfz8_11
        try clear hfz8_12
        try clear hfz8_2
        try clear hfz8_3
        try clear hfz8_4
        try clear hfz8_5
        try clear hfz8_6
        try clear hfz8_7
        try clear hfz8_8
        try clear hfz8_9
        try clear hfz90_0
        try clear hfz90_1
        try clear hfz90_10
        try clear hfz90_11
        try clear hfz90_12
        try clear hfz90_2
        try clear hfz90_3
        try clear hfz90_4
        try clear hfz90_5
        try clear hfz90_6
        try clear hfz90_7
        try clear hfz90_8
        try clear hfz90_9
        obtain ⟨kq, x68_62, rfl, HA, HJ62, HO_283009, HO_299009, HO_316009, BK249, BK282, BK298, BK315, HB⟩ := hcut
        have hl299009_62 := (Kd.R_reads' HO_299009.out).1
        rw [hl299009_62] at HO_299009
        (try simp only [hl299009_62])
        (try simp only [hl299009_62] at BK249)
        (try simp only [hl299009_62] at BK282)
        (try simp only [hl299009_62] at BK298)
        (try simp only [hl299009_62] at BK315)
        (try simp only [hl299009_62] at HO_283009)
        (try simp only [hl299009_62] at HO_316009)
        cases kq with
        | zero => exact absurd HA.out (by simp [laws_FnExactWrite.j1])
        | succ kj62 =>
         have H := HA.out
         clear HA
         simp only [laws_FnExactWrite.j1] at H
         by_cases c92 : x68_62 = true
         ·subst c92
          rw [if_pos rfl] at H
          exact absurd ((Option.some.inj H).trans hr_.out) (by decide)
         ·replace c92 := Bool.eq_false_iff.mpr c92
          subst c92
          rw [if_neg (show ¬ (false = true) by decide)] at H
          replace H := Option.bind_eq_some_iff.mp H
          obtain ⟨⟨t336, t337⟩, A930, H⟩ := H
          (try dsimp only at H)
          have A93 := Aside0.mk A930
          clear A930
          replace H := Option.bind_eq_some_iff.mp H
          obtain ⟨t338, A940, H⟩ := H
          (try dsimp only at H)
          have A94 := Aside0.mk A940
          clear A940
          by_cases c95 : t338 < 0
          ·rw [if_pos c95] at H
           have c95b0 : decide (t338 < 0) = true := decide_eq_true c95
           clear c95
           exact absurd ((Option.some.inj H).trans hr_.out) (by decide)
          ·rw [if_neg c95] at H
           have c95b0 : decide (t338 < 0) = false := decide_eq_false c95
           clear c95
           by_cases c96 : t338 = t336
           ·rw [if_pos c96] at H
            have c96b0 : (t338 == t336) = true := beq_iff_eq.mpr c96
            have c96b1 : (t338 != t336) = false := bne_eq_false_iff_eq.mpr c96
            clear c96
            replace H := Option.bind_eq_some_iff.mp H
            obtain ⟨⟨t339, t340, t341, t342, t343, t344, t345, t346, t347, t348, t351, t352, t353⟩, A970, H⟩ := H
            (try dsimp only at H)
            have A97 := Aside0.mk A970
            clear A970
            replace H := Option.bind_eq_some_iff.mp H
            obtain ⟨⟨t354, t355, t356, t357, t358, t359, t360, t361, t362, t363, t366, t367, t368, t369⟩, A980, H⟩ := H
            (try dsimp only at H)
            have A98 := Aside0.mk A980
            clear A980
            have HC99 := Aside0.mk H
            clear H
            have hnb100 := NB315_249.out
            have hnc100 := NB249_315.out
            have hnb101 := NB315_282.out
            have hnc101 := NB282_315.out
            have hnb102 := NB315_298.out
            have hnc102 := NB298_315.out
            obtain ⟨hcz103_0, hcz103_1, hcz103_2, hcz103_3, hcz103_4, hcz103_5, hcz103_6, hcz103_7, hcz103_8, hcz103_9, hcz103_10, hcz103_11, hcz103_12⟩ := cl13 BK315.out
            obtain ⟨hfz103_0, hfz103_1, hfz103_2, hfz103_3, hfz103_4, hfz103_5, hfz103_6, hfz103_7, hfz103_8, hfz103_9, hfz103_10, hfz103_11, hfz103_12⟩ := fr13 BK315.out
            go_upto_region 27 with (first | ((with_reducible refine gate_callee (f := 65) rfl ?_); refine goesL_ (some 71) rfl rfl Try.func65 B8x38_ rfl #[.agg #[.int .i64 t299, .int .i64 t300, .int .i64 t301, .int .i64 t302, .string t303, .int .i64 t304, .int .i64 t305, .bool t306, .string t307, .slice Ao39 t308.length co39, .bool t311, .int .i64 t312, .int .i64 t313], .int .i64 1] rfl B8x9_ ?_; (with_reducible refine (laws_markStream.calls kj62 t299 t300 t301 t302 t303 t304 t305 t306 t307 (fun k_ => some k_ = (.slice Ao39 t308.length co39 : Value).ownBlock) (.slice Ao39 t308.length co39) t308 t311 t312 t313 1 t336 t337 w _ ?side1 ?side2 A93.out).mono ?_); (case side1 => repeat (first | (with_reducible first | exact HB.out | apply below_alloc | apply pw_below_drewN | apply below_drew1 | refine below_set ?_ GE249.out | refine below_set ?_ GE282.out | refine below_set ?_ GE298.out | refine below_set ?_ GE315.out) | exact HB.out)); (case side2 => exact Kd.R_tight rfl HO_316009.out); rintro e w104 ⟨rfl, hy0, hb, hkp⟩; refine ⟨_, rfl, ?_⟩; have n0_ := Aside0.mk (Kd.R_mono (ok' := fun k_ => some k_ ≠ (.slice Ao32 t334.length co32 : Value).ownBlock ∧ some k_ ≠ (.slice Ao39 t308.length co39 : Value).ownBlock) (Kd.R_keptB (HO_283009.out) hkp (fun k_ hk_ hs_ => (hk_.2) hs_)) (fun k_ hk_ => ⟨hk_.1.1, hk_.1.2⟩)); have n1_ := Aside0.mk (Kd.R_mono (ok' := fun k_ => some k_ ≠ (.slice Ao25 t275.length co25 : Value).ownBlock ∧ some k_ ≠ (.slice Ao39 t308.length co39 : Value).ownBlock) (Kd.R_keptB (HO_299009.out) hkp (fun k_ hk_ hs_ => (hk_.2) hs_)) (fun k_ hk_ => ⟨hk_.1.1, hk_.1.2⟩)); have n2_ := Aside0.mk (Kd.R_reok rfl hy0 (fun k_ e_ => HO_316009.out.1 k_ e_)); have n3_ := Aside0.mk (blk_kept B8x7_ hkp (fun hs_ => (fun e_ => (Kd.R_ne HO_316009.out BK249.out (by decide)) e_) hs_)); have n4_ := Aside0.mk (blk_kept B8x10_ hkp (fun hs_ => (fun e_ => (Kd.R_ne HO_316009.out BK282.out (by decide)) e_) hs_)); have n5_ := Aside0.mk (blk_kept B8x18_ hkp (fun hs_ => (fun e_ => (Kd.R_ne HO_316009.out BK298.out (by decide)) e_) hs_)); have n6_ := Aside0.mk (blk_kept B8x19_ hkp (fun hs_ => (fun e_ => (Kd.R_ne HO_316009.out BK315.out (by decide)) e_) hs_)); have n7_ := Aside0.mk (hb); clear HO_283009; clear HO_299009; clear HO_316009; clear BK249; clear BK282; clear BK298; clear BK315; clear HB; have HO_283009 := n0_; have HO_299009 := n1_; have HO_316009 := n2_; have BK249 := n3_; have BK282 := n4_; have BK298 := n5_; have BK315 := n6_; have HB := n7_; clear n0_ n1_ n2_ n3_ n4_ n5_ n6_ n7_; (try clear hb); (try clear hkp); (try clear hy0); obtain ⟨hcz105_0, hcz105_1, hcz105_2, hcz105_3, hcz105_4, hcz105_5, hcz105_6, hcz105_7, hcz105_8, hcz105_9, hcz105_10, hcz105_11, hcz105_12⟩ := cl13 BK315.out; obtain ⟨hfz105_0, hfz105_1, hfz105_2, hfz105_3, hfz105_4, hfz105_5, hfz105_6, hfz105_7, hfz105_8, hfz105_9, hfz105_10, hfz105_11, hfz105_12⟩ := fr13 BK315.out) | ((with_reducible refine gate_callee (f := 66) rfl ?_); refine goesL_ (some 74) rfl rfl Try.func66 B8x38_ rfl #[.agg #[.int .i64 t299, .int .i64 t300, .int .i64 t301, .int .i64 t302, .string t303, .int .i64 t304, .int .i64 t305, .bool t306, .string t307, .slice Ao39 t337.length co39, .bool t311, .int .i64 t312, .int .i64 t313], .int .i64 1] rfl (by (try simp only [List.map_toArray, List.map_cons, List.map_nil]); first | done | (rw [show t337.length = t308.length from (Kd.R_reads' HO_316009.out).1.symm] <;> rfl) | rfl | (simp only [List.length_drop, List.length_take]; rfl)) ?_; (with_reducible refine (laws_heldStream.calls kj62 t299 t300 t301 t302 t303 t304 t305 t306 t307 _ _ t337 t311 t312 t313 1 t338 _ ?side1 ?side2 A94.out).mono ?_); (case side1 => repeat (first | exact (Kd.R_reads' HO_316009.out).2.2 | (with_reducible refine Kd.C_alloc ?_ _) | (with_reducible refine Kd.C_drewN ?_ _) | (with_reducible refine Kd.C_drew ?_))); (case side2 => rw [show t337.length = t308.length from (Kd.R_reads' HO_316009.out).1.symm]; exact (Kd.R_reads' HO_316009.out).2.1); rintro e w106 ⟨rfl, hb⟩; refine ⟨_, rfl, ?_⟩; have n0_ := Aside0.mk (Kd.R_below B8x21_ hb); have n1_ := Aside0.mk (Kd.R_below B8x22_ hb); have n2_ := Aside0.mk (Kd.R_below B8x23_ hb); have n3_ := Aside0.mk (blk_below (g := gb249) (o := .cells #[.int .i64 a0_0, .int .i64 a0_1, .int .i64 a0_2, .int .i64 a0_3, .string a0_4, .int .i64 a0_5, .int .i64 a0_6, .bool a0_7, .string a0_8, .slice A0_9 l0_9.length c0_9, .bool a0_10, .int .i64 a0_11, .int .i64 a0_12] 24 (0, 0)) B8x7_ hb); have n4_ := Aside0.mk (blk_below (g := gb282) (o := .cells #[.int .i64 t266, .int .i64 t267, .int .i64 t268, .int .i64 t269, .string t270, .int .i64 t271, .int .i64 t272, .bool t273, .string t274, .slice Ao25 t275.length co25, .bool t278, .int .i64 t279, .int .i64 t280] 29 (0, 0)) B8x10_ hb); have n5_ := Aside0.mk (blk_below (g := gb298) (o := .cells #[.int .i64 t283, .int .i64 t284, .int .i64 t285, .int .i64 t286, .string t287, .int .i64 t288, .int .i64 t289, .bool t290, .string t291, .slice Ao32 t334.length co32, .bool t295, .int .i64 t296, .int .i64 t297] 29 (0, 0)) B8x18_ hb); have n6_ := Aside0.mk (blk_below (g := gb315) (o := .cells #[.int .i64 t299, .int .i64 t300, .int .i64 t301, .int .i64 t302, .string t303, .int .i64 t304, .int .i64 t305, .bool t306, .string t307, .slice Ao39 t308.length co39, .bool t311, .int .i64 t312, .int .i64 t313] 29 (0, 0)) B8x19_ hb); have n7_ := Aside0.mk (below_step B8x2_ hb); clear HO_283009; clear HO_299009; clear HO_316009; clear BK249; clear BK282; clear BK298; clear BK315; clear HB; have HO_283009 := n0_; have HO_299009 := n1_; have HO_316009 := n2_; have BK249 := n3_; have BK282 := n4_; have BK298 := n5_; have BK315 := n6_; have HB := n7_; clear n0_ n1_ n2_ n3_ n4_ n5_ n6_ n7_; (try clear hb); (try clear hb2); (try clear hk); (try clear hi); have hnb107 := NB249_282.out; have hnc107 := NB282_249.out; have hnb108 := NB249_298.out; have hnc108 := NB298_249.out; obtain ⟨hcz109_0, hcz109_1, hcz109_2, hcz109_3, hcz109_4, hcz109_5, hcz109_6, hcz109_7, hcz109_8, hcz109_9, hcz109_10, hcz109_11, hcz109_12⟩ := cl13 BK249.out; obtain ⟨hfz109_0, hfz109_1, hfz109_2, hfz109_3, hfz109_4, hfz109_5, hfz109_6, hfz109_7, hfz109_8, hfz109_9, hfz109_10, hfz109_11, hfz109_12⟩ := fr13 BK249.out) | ((with_reducible refine gate_callee (f := 17) rfl ?_); refine goesL_ (some 82) rfl rfl Try.func17 B8x38_ rfl #[.agg #[.int .i64 a0_0, .int .i64 a0_1, .int .i64 a0_2, .int .i64 a0_3, .string a0_4, .int .i64 a0_5, .int .i64 a0_6, .bool a0_7, .string a0_8, .slice A0_9 l0_9.length c0_9, .bool a0_10, .int .i64 a0_11, .int .i64 a0_12]] rfl B8x9_ ?_; (with_reducible refine (laws_toStream.calls kj62 a0_0 a0_1 a0_2 a0_3 a0_4 a0_5 a0_6 a0_7 a0_8 _ _ l0_9 a0_10 a0_11 a0_12 t339 t340 t341 t342 t343 t344 t345 t346 t347 t348 t351 t352 t353 _ ?side1 ?side2 A97.out).mono ?_); (case side1 => repeat (first | exact (Kd.C_below HR0_9.out HB.out) | (with_reducible refine Kd.C_alloc ?_ _) | (with_reducible refine Kd.C_drewN ?_ _) | (with_reducible refine Kd.C_drew ?_))); (case side2 => exact HC0_9.out); rintro e w110 ⟨v349, rfl, ho0, hb⟩; refine ⟨_, rfl, ?_⟩; have n0_ := Aside0.mk (Kd.R_elder' B8x21_ (Kd.R_base ho0) hb); have n1_ := Aside0.mk (Kd.R_elder' B8x22_ (Kd.R_base ho0) hb); have n2_ := Aside0.mk (Kd.R_elder' B8x23_ (Kd.R_base ho0) hb); have n3_ := Aside0.mk (Kd.R_lower (Kd.R_new' (Kd.R_new' (Kd.R_new' ho0 (Kd.R_lt B8x21_)) (Kd.R_lt B8x22_)) (Kd.R_lt B8x23_)) (below_size B8x2_)); have n4_ := Aside0.mk (blk_below (g := gb249) (o := .cells #[.int .i64 a0_0, .int .i64 a0_1, .int .i64 a0_2, .int .i64 a0_3, .string a0_4, .int .i64 a0_5, .int .i64 a0_6, .bool a0_7, .string a0_8, .slice A0_9 l0_9.length c0_9, .bool a0_10, .int .i64 a0_11, .int .i64 a0_12] 24 (0, 0)) B8x7_ hb); have n5_ := Aside0.mk (blk_below (g := gb282) (o := .cells #[.int .i64 t266, .int .i64 t267, .int .i64 t268, .int .i64 t269, .string t270, .int .i64 t271, .int .i64 t272, .bool t273, .string t274, .slice Ao25 t275.length co25, .bool t278, .int .i64 t279, .int .i64 t280] 29 (0, 0)) B8x10_ hb); have n6_ := Aside0.mk (blk_below (g := gb298) (o := .cells #[.int .i64 t283, .int .i64 t284, .int .i64 t285, .int .i64 t286, .string t287, .int .i64 t288, .int .i64 t289, .bool t290, .string t291, .slice Ao32 t334.length co32, .bool t295, .int .i64 t296, .int .i64 t297] 29 (0, 0)) B8x18_ hb); have n7_ := Aside0.mk (blk_below (g := gb315) (o := .cells #[.int .i64 t299, .int .i64 t300, .int .i64 t301, .int .i64 t302, .string t303, .int .i64 t304, .int .i64 t305, .bool t306, .string t307, .slice Ao39 t308.length co39, .bool t311, .int .i64 t312, .int .i64 t313] 29 (0, 0)) B8x19_ hb); have n8_ := Aside0.mk (below_step B8x2_ hb); clear HO_283009; clear HO_299009; clear HO_316009; clear BK249; clear BK282; clear BK298; clear BK315; clear HB; have HO_283009 := n0_; have HO_299009 := n1_; have HO_316009 := n2_; have HO350 := n3_; have BK249 := n4_; have BK282 := n5_; have BK298 := n6_; have BK315 := n7_; have HB := n8_; clear n0_ n1_ n2_ n3_ n4_ n5_ n6_ n7_ n8_; (try clear hb); (try clear hb2); (try clear hk); (try clear hi); (try clear ho0); obtain ⟨Ao111, co111, eo111⟩ := Kd.R_slice HO350.out; subst eo111) | ((with_reducible refine gate_callee (f := 68) rfl ?_); refine goesL_ (some 84) rfl rfl Try.func68 B8x38_ rfl #[.agg #[.int .i64 t339, .int .i64 t340, .int .i64 t341, .int .i64 t342, .string t343, .int .i64 t344, .int .i64 t345, .bool t346, .string t347, .slice Ao111 t348.length co111, .bool t351, .int .i64 t352, .int .i64 t353], .string a1] rfl B8x9_ ?_; (with_reducible refine (impl_Write.calls kj62 t339 t340 t341 t342 t343 t344 t345 t346 t347 _ _ t348 t351 t352 t353 a1 t354 t355 t356 t357 t358 t359 t360 t361 t362 t363 t366 t367 t368 t369 _ ?side1 ?side2 A98.out).mono ?_); (case side1 => repeat (first | exact (Kd.R_reads' HO350.out).2.2 | (with_reducible refine Kd.C_alloc ?_ _) | (with_reducible refine Kd.C_drewN ?_ _) | (with_reducible refine Kd.C_drew ?_))); (case side2 => exact (Kd.R_reads' HO350.out).2.1); rintro e w112 ⟨v364, rfl, ho0, hb⟩; refine ⟨_, rfl, ?_⟩; have n0_ := Aside0.mk (Kd.R_elder' B8x21_ (Kd.R_base ho0) hb); have n1_ := Aside0.mk (Kd.R_elder' B8x22_ (Kd.R_base ho0) hb); have n2_ := Aside0.mk (Kd.R_elder' B8x23_ (Kd.R_base ho0) hb); have n3_ := Aside0.mk (Kd.R_elder' B8x41_ (Kd.R_base ho0) hb); have n4_ := Aside0.mk (Kd.R_lower (Kd.R_new' (Kd.R_new' (Kd.R_new' (Kd.R_new' ho0 (Kd.R_lt B8x21_)) (Kd.R_lt B8x22_)) (Kd.R_lt B8x23_)) (Kd.R_lt B8x41_)) (below_size B8x2_)); have n5_ := Aside0.mk (blk_below (g := gb249) (o := .cells #[.int .i64 a0_0, .int .i64 a0_1, .int .i64 a0_2, .int .i64 a0_3, .string a0_4, .int .i64 a0_5, .int .i64 a0_6, .bool a0_7, .string a0_8, .slice A0_9 l0_9.length c0_9, .bool a0_10, .int .i64 a0_11, .int .i64 a0_12] 24 (0, 0)) B8x7_ hb); have n6_ := Aside0.mk (blk_below (g := gb282) (o := .cells #[.int .i64 t266, .int .i64 t267, .int .i64 t268, .int .i64 t269, .string t270, .int .i64 t271, .int .i64 t272, .bool t273, .string t274, .slice Ao25 t275.length co25, .bool t278, .int .i64 t279, .int .i64 t280] 29 (0, 0)) B8x10_ hb); have n7_ := Aside0.mk (blk_below (g := gb298) (o := .cells #[.int .i64 t283, .int .i64 t284, .int .i64 t285, .int .i64 t286, .string t287, .int .i64 t288, .int .i64 t289, .bool t290, .string t291, .slice Ao32 t334.length co32, .bool t295, .int .i64 t296, .int .i64 t297] 29 (0, 0)) B8x18_ hb); have n8_ := Aside0.mk (blk_below (g := gb315) (o := .cells #[.int .i64 t299, .int .i64 t300, .int .i64 t301, .int .i64 t302, .string t303, .int .i64 t304, .int .i64 t305, .bool t306, .string t307, .slice Ao39 t308.length co39, .bool t311, .int .i64 t312, .int .i64 t313] 29 (0, 0)) B8x19_ hb); have n9_ := Aside0.mk (below_step B8x2_ hb); clear HO_283009; clear HO_299009; clear HO_316009; clear HO350; clear BK249; clear BK282; clear BK298; clear BK315; clear HB; have HO_283009 := n0_; have HO_299009 := n1_; have HO_316009 := n2_; have HO350 := n3_; have HO365 := n4_; have BK249 := n5_; have BK282 := n6_; have BK298 := n7_; have BK315 := n8_; have HB := n9_; clear n0_ n1_ n2_ n3_ n4_ n5_ n6_ n7_ n8_ n9_; (try clear hb); (try clear hb2); (try clear hk); (try clear hi); (try clear ho0)) | ((with_reducible refine gate_dst (N := 14) rfl ?_); refine box_event ?hg (N := 14) ?hd (cs := #[.int .i64 0, .int .i64 0, .int .i64 0, .int .i64 0, .string (⟨#[]⟩ : ByteArray), .int .i64 0, .int .i64 0, .bool false, .string (⟨#[]⟩ : ByteArray), .slice none 0 0, .bool false, .int .i64 0, .int .i64 0]) (t := 29) ?hr ?_; (case hd => rfl); (case hg => rfl); (case hr => first | (go_simp; done) | (go_simp; rfl)); intro gb370 hg w113 hbox hb; have n0_ := Aside0.mk (Kd.R_below B8x21_ hb); have n1_ := Aside0.mk (Kd.R_below B8x22_ hb); have n2_ := Aside0.mk (Kd.R_below B8x23_ hb); have n3_ := Aside0.mk (Kd.R_below B8x41_ hb); have n4_ := Aside0.mk (Kd.R_below (by (with_reducible repeat (first | apply Kd.R_alloc | apply Kd.R_drewN | apply Kd.R_drew)); exact HO365.out) hb); have n5_ := Aside0.mk (blk_below (g := gb249) (o := .cells #[.int .i64 a0_0, .int .i64 a0_1, .int .i64 a0_2, .int .i64 a0_3, .string a0_4, .int .i64 a0_5, .int .i64 a0_6, .bool a0_7, .string a0_8, .slice A0_9 l0_9.length c0_9, .bool a0_10, .int .i64 a0_11, .int .i64 a0_12] 24 (0, 0)) B8x7_ hb); have n6_ := Aside0.mk (blk_below (g := gb282) (o := .cells #[.int .i64 t266, .int .i64 t267, .int .i64 t268, .int .i64 t269, .string t270, .int .i64 t271, .int .i64 t272, .bool t273, .string t274, .slice Ao25 t275.length co25, .bool t278, .int .i64 t279, .int .i64 t280] 29 (0, 0)) B8x10_ hb); have n7_ := Aside0.mk (blk_below (g := gb298) (o := .cells #[.int .i64 t283, .int .i64 t284, .int .i64 t285, .int .i64 t286, .string t287, .int .i64 t288, .int .i64 t289, .bool t290, .string t291, .slice Ao32 t334.length co32, .bool t295, .int .i64 t296, .int .i64 t297] 29 (0, 0)) B8x18_ hb); have n8_ := Aside0.mk (blk_below (g := gb315) (o := .cells #[.int .i64 t299, .int .i64 t300, .int .i64 t301, .int .i64 t302, .string t303, .int .i64 t304, .int .i64 t305, .bool t306, .string t307, .slice Ao39 t308.length co39, .bool t311, .int .i64 t312, .int .i64 t313] 29 (0, 0)) B8x19_ hb); have n9_ := Aside0.mk (below_step B8x2_ hb); have n10_ := Aside0.mk (hbox); have n11_ := Aside0.mk ((by rw [hg]; exact (below_size B8x2_) : w.heap.size ≤ gb370)); have n12_ := Aside0.mk ((by rw [hg]; exact (below_size B8x2_) : w.heap.size ≤ gb370)); have n13_ := Aside0.mk ((by rw [hg]; exact Nat.ne_of_lt (blk_lt (g := gb249) (o := .cells #[.int .i64 a0_0, .int .i64 a0_1, .int .i64 a0_2, .int .i64 a0_3, .string a0_4, .int .i64 a0_5, .int .i64 a0_6, .bool a0_7, .string a0_8, .slice A0_9 l0_9.length c0_9, .bool a0_10, .int .i64 a0_11, .int .i64 a0_12] 24 (0, 0)) B8x7_) : gb249 ≠ gb370)); have n14_ := Aside0.mk ((by rw [hg]; exact Nat.ne_of_gt (blk_lt (g := gb249) (o := .cells #[.int .i64 a0_0, .int .i64 a0_1, .int .i64 a0_2, .int .i64 a0_3, .string a0_4, .int .i64 a0_5, .int .i64 a0_6, .bool a0_7, .string a0_8, .slice A0_9 l0_9.length c0_9, .bool a0_10, .int .i64 a0_11, .int .i64 a0_12] 24 (0, 0)) B8x7_) : gb370 ≠ gb249)); have n15_ := Aside0.mk ((by rw [hg]; exact Nat.ne_of_lt (blk_lt (g := gb282) (o := .cells #[.int .i64 t266, .int .i64 t267, .int .i64 t268, .int .i64 t269, .string t270, .int .i64 t271, .int .i64 t272, .bool t273, .string t274, .slice Ao25 t275.length co25, .bool t278, .int .i64 t279, .int .i64 t280] 29 (0, 0)) B8x10_) : gb282 ≠ gb370)); have n16_ := Aside0.mk ((by rw [hg]; exact Nat.ne_of_gt (blk_lt (g := gb282) (o := .cells #[.int .i64 t266, .int .i64 t267, .int .i64 t268, .int .i64 t269, .string t270, .int .i64 t271, .int .i64 t272, .bool t273, .string t274, .slice Ao25 t275.length co25, .bool t278, .int .i64 t279, .int .i64 t280] 29 (0, 0)) B8x10_) : gb370 ≠ gb282)); have n17_ := Aside0.mk ((by rw [hg]; exact Nat.ne_of_lt (blk_lt (g := gb298) (o := .cells #[.int .i64 t283, .int .i64 t284, .int .i64 t285, .int .i64 t286, .string t287, .int .i64 t288, .int .i64 t289, .bool t290, .string t291, .slice Ao32 t334.length co32, .bool t295, .int .i64 t296, .int .i64 t297] 29 (0, 0)) B8x18_) : gb298 ≠ gb370)); have n18_ := Aside0.mk ((by rw [hg]; exact Nat.ne_of_gt (blk_lt (g := gb298) (o := .cells #[.int .i64 t283, .int .i64 t284, .int .i64 t285, .int .i64 t286, .string t287, .int .i64 t288, .int .i64 t289, .bool t290, .string t291, .slice Ao32 t334.length co32, .bool t295, .int .i64 t296, .int .i64 t297] 29 (0, 0)) B8x18_) : gb370 ≠ gb298)); have n19_ := Aside0.mk ((by rw [hg]; exact Nat.ne_of_lt (blk_lt (g := gb315) (o := .cells #[.int .i64 t299, .int .i64 t300, .int .i64 t301, .int .i64 t302, .string t303, .int .i64 t304, .int .i64 t305, .bool t306, .string t307, .slice Ao39 t308.length co39, .bool t311, .int .i64 t312, .int .i64 t313] 29 (0, 0)) B8x19_) : gb315 ≠ gb370)); have n20_ := Aside0.mk ((by rw [hg]; exact Nat.ne_of_gt (blk_lt (g := gb315) (o := .cells #[.int .i64 t299, .int .i64 t300, .int .i64 t301, .int .i64 t302, .string t303, .int .i64 t304, .int .i64 t305, .bool t306, .string t307, .slice Ao39 t308.length co39, .bool t311, .int .i64 t312, .int .i64 t313] 29 (0, 0)) B8x19_) : gb370 ≠ gb315)); clear HO_283009; clear HO_299009; clear HO_316009; clear HO350; clear HO365; clear BK249; clear BK282; clear BK298; clear BK315; clear HB; have HO_283009 := n0_; have HO_299009 := n1_; have HO_316009 := n2_; have HO350 := n3_; have HO365 := n4_; have BK249 := n5_; have BK282 := n6_; have BK298 := n7_; have BK315 := n8_; have HB := n9_; have BK370 := n10_; have GW370 := n11_; have GE370 := n12_; have NB249_370 := n13_; have NB370_249 := n14_; have NB282_370 := n15_; have NB370_282 := n16_; have NB298_370 := n17_; have NB370_298 := n18_; have NB315_370 := n19_; have NB370_315 := n20_; clear n0_ n1_ n2_ n3_ n4_ n5_ n6_ n7_ n8_ n9_ n10_ n11_ n12_ n13_ n14_ n15_ n16_ n17_ n18_ n19_ n20_; clear hb hbox hg; have hnb114 := NB370_249.out; have hnc114 := NB249_370.out; have hnb115 := NB370_282.out; have hnc115 := NB282_370.out; have hnb116 := NB370_298.out; have hnc116 := NB298_370.out; have hnb117 := NB370_315.out; have hnc117 := NB315_370.out; obtain ⟨hcz118_0, hcz118_1, hcz118_2, hcz118_3, hcz118_4, hcz118_5, hcz118_6, hcz118_7, hcz118_8, hcz118_9, hcz118_10, hcz118_11, hcz118_12⟩ := cl13 BK370.out; obtain ⟨hfz118_0, hfz118_1, hfz118_2, hfz118_3, hfz118_4, hfz118_5, hfz118_6, hfz118_7, hfz118_8, hfz118_9, hfz118_10, hfz118_11, hfz118_12⟩ := fr13 BK370.out; obtain ⟨Ao119, co119, eo119⟩ := Kd.R_slice HO365.out; subst eo119))
            (try simp only [Act.put, List.setIfInBounds_toArray, List.set_cons_zero, List.set_cons_succ])
            go_cut [95] (fun v95 wc => ∃ (kq : Nat) (x95_98 : Bool), v95 = .bool x95_98 ∧ Aside0 (laws_FnExactWrite.j2 kq t336 x95_98 t299 t300 t301 t302 t303 t304 t305 t306 t307 t337 t311 t312 t313 = some r) ∧ Aside0 (kq ≤ kj62) ∧ Aside0 (Kd.R k112 112 wc w.heap.size (fun k_ => some k_ ≠ ((.slice Ao32 t334.length co32) : Value).ownBlock ∧ some k_ ≠ ((.slice Ao39 t308.length co39) : Value).ownBlock ∧ some k_ ≠ ((.slice Ao119 t363.length co119) : Value).ownBlock) (.slice Ao25 t275.length co25) t275) ∧ Aside0 (Kd.R k112 112 wc w.heap.size (fun k_ => some k_ ≠ ((.slice Ao25 t275.length co25) : Value).ownBlock ∧ some k_ ≠ ((.slice Ao39 t308.length co39) : Value).ownBlock ∧ some k_ ≠ ((.slice Ao119 t363.length co119) : Value).ownBlock) (.slice Ao32 t334.length co32) t334) ∧ Aside0 (Kd.R k112 112 wc w.heap.size (fun k_ => some k_ ≠ ((.slice Ao25 t275.length co25) : Value).ownBlock ∧ some k_ ≠ ((.slice Ao32 t334.length co32) : Value).ownBlock ∧ some k_ ≠ ((.slice Ao119 t363.length co119) : Value).ownBlock) (.slice Ao39 t308.length co39) t337) ∧ Aside0 (Kd.R k112 112 wc w.heap.size (fun k_ => some k_ ≠ ((.slice Ao25 t275.length co25) : Value).ownBlock ∧ some k_ ≠ ((.slice Ao32 t334.length co32) : Value).ownBlock ∧ some k_ ≠ ((.slice Ao39 t308.length co39) : Value).ownBlock) (.slice Ao119 t363.length co119) t363) ∧ Aside0 (wc.heap[gb249]? = some (.cells #[.int .i64 a0_0, .int .i64 a0_1, .int .i64 a0_2, .int .i64 a0_3, .string a0_4, .int .i64 a0_5, .int .i64 a0_6, .bool a0_7, .string a0_8, (.slice A0_9 l0_9.length c0_9), .bool a0_10, .int .i64 a0_11, .int .i64 a0_12] 24 (0, 0))) ∧ Aside0 (wc.heap[gb282]? = some (.cells #[.int .i64 t266, .int .i64 t267, .int .i64 t268, .int .i64 t269, .string t270, .int .i64 t271, .int .i64 t272, .bool t273, .string t274, (.slice Ao25 t275.length co25), .bool t278, .int .i64 t279, .int .i64 t280] 29 (0, 0))) ∧ Aside0 (wc.heap[gb298]? = some (.cells #[.int .i64 t283, .int .i64 t284, .int .i64 t285, .int .i64 t286, .string t287, .int .i64 t288, .int .i64 t289, .bool t290, .string t291, (.slice Ao32 t334.length co32), .bool t295, .int .i64 t296, .int .i64 t297] 29 (0, 0))) ∧ Aside0 (wc.heap[gb315]? = some (.cells #[.int .i64 t299, .int .i64 t300, .int .i64 t301, .int .i64 t302, .string t303, .int .i64 t304, .int .i64 t305, .bool t306, .string t307, (.slice Ao39 t308.length co39), .bool t311, .int .i64 t312, .int .i64 t313] 29 (0, 0))) ∧ Aside0 (wc.heap[gb370]? = some (.cells #[.int .i64 t354, .int .i64 t355, .int .i64 t356, .int .i64 t357, .string t358, .int .i64 t359, .int .i64 t360, .bool t361, .string t362, (.slice Ao119 t363.length co119), .bool t366, .int .i64 t367, .int .i64 t368] 29 (0, 0))) ∧ Aside0 (Below w.heap.size w wc))
            case first =>
             have H := HC99.out
             clear HC99
             replace H := Option.bind_eq_some_iff.mp H
             obtain ⟨t371, A1200, H⟩ := H
             (try dsimp only at H)
             have A120 := Aside0.mk A1200
             clear A1200
             by_cases c121 : t371 = true
             ·subst c121
              rw [if_pos rfl] at H
              have H' := Aside0.mk H
              clear H
              have hnb122 := NB370_249.out
              have hnc122 := NB249_370.out
              have hnb123 := NB370_282.out
              have hnc123 := NB282_370.out
              have hnb124 := NB370_298.out
              have hnc124 := NB298_370.out
              have hnb125 := NB370_315.out
              have hnc125 := NB315_370.out
              obtain ⟨hcz126_0, hcz126_1, hcz126_2, hcz126_3, hcz126_4, hcz126_5, hcz126_6, hcz126_7, hcz126_8, hcz126_9, hcz126_10, hcz126_11, hcz126_12⟩ := cl13 BK370.out
              obtain ⟨hfz126_0, hfz126_1, hfz126_2, hfz126_3, hfz126_4, hfz126_5, hfz126_6, hfz126_7, hfz126_8, hfz126_9, hfz126_10, hfz126_11, hfz126_12⟩ := fr13 BK370.out
              have hnb127 := NB282_249.out
              have hnc127 := NB249_282.out
              have hnb128 := NB282_298.out
              have hnc128 := NB298_282.out
              have hnb129 := NB282_315.out
              have hnc129 := NB315_282.out
              obtain ⟨hcz130_0, hcz130_1, hcz130_2, hcz130_3, hcz130_4, hcz130_5, hcz130_6, hcz130_7, hcz130_8, hcz130_9, hcz130_10, hcz130_11, hcz130_12⟩ := cl13 BK282.out
              obtain ⟨hfz130_0, hfz130_1, hfz130_2, hfz130_3, hfz130_4, hfz130_5, hfz130_6, hfz130_7, hfz130_8, hfz130_9, hfz130_10, hfz130_11, hfz130_12⟩ := fr13 BK282.out
              go_wp2_with (first | ((with_reducible refine gate_callee (f := 19) rfl ?_); refine goesL_ (some 89) rfl rfl Try.func19 B8x38_ rfl #[.agg #[.int .i64 t354, .int .i64 t355, .int .i64 t356, .int .i64 t357, .string t358, .int .i64 t359, .int .i64 t360, .bool t361, .string t362, .slice Ao119 t363.length co119, .bool t366, .int .i64 t367, .int .i64 t368], .agg #[.int .i64 t266, .int .i64 t267, .int .i64 t268, .int .i64 t269, .string t270, .int .i64 t271, .int .i64 t272, .bool t273, .string t274, .slice Ao25 t275.length co25, .bool t278, .int .i64 t279, .int .i64 t280]] rfl B8x9_ ?_; (with_reducible refine (laws_eqStream.calls kj62 t354 t355 t356 t357 t358 t359 t360 t361 t362 _ _ t363 t366 t367 t368 t266 t267 t268 t269 t270 t271 t272 t273 t274 _ _ t275 t278 t279 t280 true _ ?side1 ?side2 ?side3 ?side4 A120.out).mono ?_); (case side1 => refine (Kd.R_reads' (e := 112) (base := w.heap.size) (ok := fun k_ => ((((True ∧ some k_ ≠ (.slice Ao25 t275.length co25 : Value).ownBlock) ∧ some k_ ≠ (.slice Ao32 t334.length co32 : Value).ownBlock) ∧ some k_ ≠ (.slice Ao39 t308.length co39 : Value).ownBlock) ∧ some k_ ≠ (.slice Ao111 t348.length co111 : Value).ownBlock)) (n := t363.length) (c := co119) ?_).2.2; exact B8x4_); (case side2 => exact (Kd.R_reads' HO365.out).2.1); (case side3 => refine (Kd.R_reads' (e := 112) (base := w.heap.size) (ok := fun k_ => (((some k_ ≠ (.slice Ao32 t334.length co32 : Value).ownBlock ∧ some k_ ≠ (.slice Ao39 t308.length co39 : Value).ownBlock) ∧ some k_ ≠ (.slice Ao111 t348.length co111 : Value).ownBlock) ∧ some k_ ≠ (.slice Ao119 t363.length co119 : Value).ownBlock)) (n := t275.length) (c := co25) ?_).2.2; exact B8x3_); (case side4 => exact (Kd.R_reads' HO_283009.out).2.1); rintro e w131 ⟨rfl, hb⟩; refine ⟨_, rfl, ?_⟩; have n0_ := Aside0.mk (Kd.R_below B8x3_ hb); have n1_ := Aside0.mk (Kd.R_below B8x24_ hb); have n2_ := Aside0.mk (Kd.R_below B8x25_ hb); have n3_ := Aside0.mk (Kd.R_below B8x26_ hb); have n4_ := Aside0.mk (Kd.R_below B8x4_ hb); have n5_ := Aside0.mk (blk_below (g := gb249) (o := .cells #[.int .i64 a0_0, .int .i64 a0_1, .int .i64 a0_2, .int .i64 a0_3, .string a0_4, .int .i64 a0_5, .int .i64 a0_6, .bool a0_7, .string a0_8, .slice A0_9 l0_9.length c0_9, .bool a0_10, .int .i64 a0_11, .int .i64 a0_12] 24 (0, 0)) B8x12_ hb); have n6_ := Aside0.mk (blk_below (g := gb282) (o := .cells #[.int .i64 t266, .int .i64 t267, .int .i64 t268, .int .i64 t269, .string t270, .int .i64 t271, .int .i64 t272, .bool t273, .string t274, .slice Ao25 t275.length co25, .bool t278, .int .i64 t279, .int .i64 t280] 29 (0, 0)) B8x14_ hb); have n7_ := Aside0.mk (blk_below (g := gb298) (o := .cells #[.int .i64 t283, .int .i64 t284, .int .i64 t285, .int .i64 t286, .string t287, .int .i64 t288, .int .i64 t289, .bool t290, .string t291, .slice Ao32 t334.length co32, .bool t295, .int .i64 t296, .int .i64 t297] 29 (0, 0)) B8x16_ hb); have n8_ := Aside0.mk (blk_below (g := gb315) (o := .cells #[.int .i64 t299, .int .i64 t300, .int .i64 t301, .int .i64 t302, .string t303, .int .i64 t304, .int .i64 t305, .bool t306, .string t307, .slice Ao39 t308.length co39, .bool t311, .int .i64 t312, .int .i64 t313] 29 (0, 0)) B8x17_ hb); have n9_ := Aside0.mk (blk_below (g := gb370) (o := .cells #[.int .i64 t354, .int .i64 t355, .int .i64 t356, .int .i64 t357, .string t358, .int .i64 t359, .int .i64 t360, .bool t361, .string t362, .slice Ao119 t363.length co119, .bool t366, .int .i64 t367, .int .i64 t368] 29 (0, 0)) B8x0_ hb); have n10_ := Aside0.mk (below_step B8x36_ hb); clear HO_283009; clear HO_299009; clear HO_316009; clear HO350; clear HO365; clear BK249; clear BK282; clear BK298; clear BK315; clear BK370; clear HB; have HO_283009 := n0_; have HO_299009 := n1_; have HO_316009 := n2_; have HO350 := n3_; have HO365 := n4_; have BK249 := n5_; have BK282 := n6_; have BK298 := n7_; have BK315 := n8_; have BK370 := n9_; have HB := n10_; clear n0_ n1_ n2_ n3_ n4_ n5_ n6_ n7_ n8_ n9_ n10_; (try clear hb); (try clear hb2); (try clear hk); (try clear hi)))
              go_meet
              case rel => exact ⟨_, ((t369 != t281)), (be_), H', ⟨by have := HJ13.out; have := HJ62.out; first | omega | exact Nat.le_refl _⟩, ⟨by (try simp only [hl299009_62]); (with_reducible repeat (first | apply Kd.R_alloc | apply Kd.R_drewN | apply Kd.R_drew)); exact Kd.R_mono HO_283009.out (fun _ hk => ⟨hk.1.1.1, ⟨hk.1.1.2, hk.2⟩⟩)⟩, ⟨by (try simp only [hl299009_62]); (with_reducible repeat (first | apply Kd.R_alloc | apply Kd.R_drewN | apply Kd.R_drew)); exact Kd.R_mono HO_299009.out (fun _ hk => ⟨hk.1.1.1, ⟨hk.1.1.2, hk.2⟩⟩)⟩, ⟨by (try simp only [hl299009_62]); (with_reducible repeat (first | apply Kd.R_alloc | apply Kd.R_drewN | apply Kd.R_drew)); exact Kd.R_mono HO_316009.out (fun _ hk => ⟨hk.1.1.1, ⟨hk.1.1.2, hk.2⟩⟩)⟩, ⟨by (try simp only [hl299009_62]); (with_reducible repeat (first | apply Kd.R_alloc | apply Kd.R_drewN | apply Kd.R_drew)); exact Kd.R_mono HO365.out (fun _ hk => ⟨hk.1.1.1.2, ⟨hk.1.1.2, hk.1.2⟩⟩)⟩, ⟨by (try simp only [hl299009_62]); (with_reducible repeat (first | refine blk_drewN ?_ _ | refine blk_drew ?_ | refine blk_alloc ?_ _)); exact BK249.out⟩, ⟨by (try simp only [hl299009_62]); (with_reducible repeat (first | refine blk_drewN ?_ _ | refine blk_drew ?_ | refine blk_alloc ?_ _)); exact BK282.out⟩, ⟨by (try simp only [hl299009_62]); (with_reducible repeat (first | refine blk_drewN ?_ _ | refine blk_drew ?_ | refine blk_alloc ?_ _)); exact BK298.out⟩, ⟨by (try simp only [hl299009_62]); (with_reducible repeat (first | refine blk_drewN ?_ _ | refine blk_drew ?_ | refine blk_alloc ?_ _)); exact BK315.out⟩, ⟨by (try simp only [hl299009_62]); (with_reducible repeat (first | refine blk_drewN ?_ _ | refine blk_drew ?_ | refine blk_alloc ?_ _)); exact BK370.out⟩, ⟨by repeat (first | (with_reducible first | exact HB.out | apply below_alloc | apply pw_below_drewN | apply below_drew1 | refine below_set ?_ GE249.out | refine below_set ?_ GE282.out | refine below_set ?_ GE298.out | refine below_set ?_ GE315.out | refine below_set ?_ GE370.out) | exact HB.out)⟩⟩
             ·replace c121 := Bool.eq_false_iff.mpr c121
              subst c121
              rw [if_neg (show ¬ (false = true) by decide)] at H
              have H' := Aside0.mk H
              clear H
              have hnb132 := NB370_249.out
              have hnc132 := NB249_370.out
              have hnb133 := NB370_282.out
              have hnc133 := NB282_370.out
              have hnb134 := NB370_298.out
              have hnc134 := NB298_370.out
              have hnb135 := NB370_315.out
              have hnc135 := NB315_370.out
              obtain ⟨hcz136_0, hcz136_1, hcz136_2, hcz136_3, hcz136_4, hcz136_5, hcz136_6, hcz136_7, hcz136_8, hcz136_9, hcz136_10, hcz136_11, hcz136_12⟩ := cl13 BK370.out
              obtain ⟨hfz136_0, hfz136_1, hfz136_2, hfz136_3, hfz136_4, hfz136_5, hfz136_6, hfz136_7, hfz136_8, hfz136_9, hfz136_10, hfz136_11, hfz136_12⟩ := fr13 BK370.out
              have hnb137 := NB282_249.out
              have hnc137 := NB249_282.out
              have hnb138 := NB282_298.out
              have hnc138 := NB298_282.out
              have hnb139 := NB282_315.out
              have hnc139 := NB315_282.out
              obtain ⟨hcz140_0, hcz140_1, hcz140_2, hcz140_3, hcz140_4, hcz140_5, hcz140_6, hcz140_7, hcz140_8, hcz140_9, hcz140_10, hcz140_11, hcz140_12⟩ := cl13 BK282.out
              obtain ⟨hfz140_0, hfz140_1, hfz140_2, hfz140_3, hfz140_4, hfz140_5, hfz140_6, hfz140_7, hfz140_8, hfz140_9, hfz140_10, hfz140_11, hfz140_12⟩ := fr13 BK282.out
              go_wp2_with (first | ((with_reducible refine gate_callee (f := 19) rfl ?_); refine goesL_ (some 89) rfl rfl Try.func19 B8x38_ rfl #[.agg #[.int .i64 t354, .int .i64 t355, .int .i64 t356, .int .i64 t357, .string t358, .int .i64 t359, .int .i64 t360, .bool t361, .string t362, .slice Ao119 t363.length co119, .bool t366, .int .i64 t367, .int .i64 t368], .agg #[.int .i64 t266, .int .i64 t267, .int .i64 t268, .int .i64 t269, .string t270, .int .i64 t271, .int .i64 t272, .bool t273, .string t274, .slice Ao25 t275.length co25, .bool t278, .int .i64 t279, .int .i64 t280]] rfl B8x9_ ?_; (with_reducible refine (laws_eqStream.calls kj62 t354 t355 t356 t357 t358 t359 t360 t361 t362 _ _ t363 t366 t367 t368 t266 t267 t268 t269 t270 t271 t272 t273 t274 _ _ t275 t278 t279 t280 false _ ?side1 ?side2 ?side3 ?side4 A120.out).mono ?_); (case side1 => refine (Kd.R_reads' (e := 112) (base := w.heap.size) (ok := fun k_ => ((((True ∧ some k_ ≠ (.slice Ao25 t275.length co25 : Value).ownBlock) ∧ some k_ ≠ (.slice Ao32 t334.length co32 : Value).ownBlock) ∧ some k_ ≠ (.slice Ao39 t308.length co39 : Value).ownBlock) ∧ some k_ ≠ (.slice Ao111 t348.length co111 : Value).ownBlock)) (n := t363.length) (c := co119) ?_).2.2; exact B8x4_); (case side2 => exact (Kd.R_reads' HO365.out).2.1); (case side3 => refine (Kd.R_reads' (e := 112) (base := w.heap.size) (ok := fun k_ => (((some k_ ≠ (.slice Ao32 t334.length co32 : Value).ownBlock ∧ some k_ ≠ (.slice Ao39 t308.length co39 : Value).ownBlock) ∧ some k_ ≠ (.slice Ao111 t348.length co111 : Value).ownBlock) ∧ some k_ ≠ (.slice Ao119 t363.length co119 : Value).ownBlock)) (n := t275.length) (c := co25) ?_).2.2; exact B8x3_); (case side4 => exact (Kd.R_reads' HO_283009.out).2.1); rintro e w141 ⟨rfl, hb⟩; refine ⟨_, rfl, ?_⟩; have n0_ := Aside0.mk (Kd.R_below B8x3_ hb); have n1_ := Aside0.mk (Kd.R_below B8x24_ hb); have n2_ := Aside0.mk (Kd.R_below B8x25_ hb); have n3_ := Aside0.mk (Kd.R_below B8x26_ hb); have n4_ := Aside0.mk (Kd.R_below B8x4_ hb); have n5_ := Aside0.mk (blk_below (g := gb249) (o := .cells #[.int .i64 a0_0, .int .i64 a0_1, .int .i64 a0_2, .int .i64 a0_3, .string a0_4, .int .i64 a0_5, .int .i64 a0_6, .bool a0_7, .string a0_8, .slice A0_9 l0_9.length c0_9, .bool a0_10, .int .i64 a0_11, .int .i64 a0_12] 24 (0, 0)) B8x12_ hb); have n6_ := Aside0.mk (blk_below (g := gb282) (o := .cells #[.int .i64 t266, .int .i64 t267, .int .i64 t268, .int .i64 t269, .string t270, .int .i64 t271, .int .i64 t272, .bool t273, .string t274, .slice Ao25 t275.length co25, .bool t278, .int .i64 t279, .int .i64 t280] 29 (0, 0)) B8x14_ hb); have n7_ := Aside0.mk (blk_below (g := gb298) (o := .cells #[.int .i64 t283, .int .i64 t284, .int .i64 t285, .int .i64 t286, .string t287, .int .i64 t288, .int .i64 t289, .bool t290, .string t291, .slice Ao32 t334.length co32, .bool t295, .int .i64 t296, .int .i64 t297] 29 (0, 0)) B8x16_ hb); have n8_ := Aside0.mk (blk_below (g := gb315) (o := .cells #[.int .i64 t299, .int .i64 t300, .int .i64 t301, .int .i64 t302, .string t303, .int .i64 t304, .int .i64 t305, .bool t306, .string t307, .slice Ao39 t308.length co39, .bool t311, .int .i64 t312, .int .i64 t313] 29 (0, 0)) B8x17_ hb); have n9_ := Aside0.mk (blk_below (g := gb370) (o := .cells #[.int .i64 t354, .int .i64 t355, .int .i64 t356, .int .i64 t357, .string t358, .int .i64 t359, .int .i64 t360, .bool t361, .string t362, .slice Ao119 t363.length co119, .bool t366, .int .i64 t367, .int .i64 t368] 29 (0, 0)) B8x0_ hb); have n10_ := Aside0.mk (below_step B8x36_ hb); clear HO_283009; clear HO_299009; clear HO_316009; clear HO350; clear HO365; clear BK249; clear BK282; clear BK298; clear BK315; clear BK370; clear HB; have HO_283009 := n0_; have HO_299009 := n1_; have HO_316009 := n2_; have HO350 := n3_; have HO365 := n4_; have BK249 := n5_; have BK282 := n6_; have BK298 := n7_; have BK315 := n8_; have BK370 := n9_; have HB := n10_; clear n0_ n1_ n2_ n3_ n4_ n5_ n6_ n7_ n8_ n9_ n10_; (try clear hb); (try clear hb2); (try clear hk); (try clear hi)))
              go_meet
              case rel => exact ⟨_, (true), (be_), H', ⟨by have := HJ13.out; have := HJ62.out; first | omega | exact Nat.le_refl _⟩, ⟨by (try simp only [hl299009_62]); (with_reducible repeat (first | apply Kd.R_alloc | apply Kd.R_drewN | apply Kd.R_drew)); exact Kd.R_mono HO_283009.out (fun _ hk => ⟨hk.1.1.1, ⟨hk.1.1.2, hk.2⟩⟩)⟩, ⟨by (try simp only [hl299009_62]); (with_reducible repeat (first | apply Kd.R_alloc | apply Kd.R_drewN | apply Kd.R_drew)); exact Kd.R_mono HO_299009.out (fun _ hk => ⟨hk.1.1.1, ⟨hk.1.1.2, hk.2⟩⟩)⟩, ⟨by (try simp only [hl299009_62]); (with_reducible repeat (first | apply Kd.R_alloc | apply Kd.R_drewN | apply Kd.R_drew)); exact Kd.R_mono HO_316009.out (fun _ hk => ⟨hk.1.1.1, ⟨hk.1.1.2, hk.2⟩⟩)⟩, ⟨by (try simp only [hl299009_62]); (with_reducible repeat (first | apply Kd.R_alloc | apply Kd.R_drewN | apply Kd.R_drew)); exact Kd.R_mono HO365.out (fun _ hk => ⟨hk.1.1.1.2, ⟨hk.1.1.2, hk.1.2⟩⟩)⟩, ⟨by (try simp only [hl299009_62]); (with_reducible repeat (first | refine blk_drewN ?_ _ | refine blk_drew ?_ | refine blk_alloc ?_ _)); exact BK249.out⟩, ⟨by (try simp only [hl299009_62]); (with_reducible repeat (first | refine blk_drewN ?_ _ | refine blk_drew ?_ | refine blk_alloc ?_ _)); exact BK282.out⟩, ⟨by (try simp only [hl299009_62]); (with_reducible repeat (first | refine blk_drewN ?_ _ | refine blk_drew ?_ | refine blk_alloc ?_ _)); exact BK298.out⟩, ⟨by (try simp only [hl299009_62]); (with_reducible repeat (first | refine blk_drewN ?_ _ | refine blk_drew ?_ | refine blk_alloc ?_ _)); exact BK315.out⟩, ⟨by (try simp only [hl299009_62]); (with_reducible repeat (first | refine blk_drewN ?_ _ | refine blk_drew ?_ | refine blk_alloc ?_ _)); exact BK370.out⟩, ⟨by repeat (first | (with_reducible first | exact HB.out | apply below_alloc | apply pw_below_drewN | apply below_drew1 | refine below_set ?_ GE249.out | refine below_set ?_ GE282.out | refine below_set ?_ GE298.out | refine below_set ?_ GE315.out | refine below_set ?_ GE370.out) | exact HB.out)⟩⟩
            case rest =>
             clear HC99
             try clear c1
             try clear p2
             try clear c6
             try clear c8
             try clear c9
             try clear c10
             try clear c11
             try clear c12
             try clear c13
             try clear c17
             try clear c19
             try clear c65
             try clear c66
             try clear c68
             try clear c85
             try clear c86
             try clear c88
             try clear c89
             try clear c92
             try clear c95
             try clear c95b0
             try clear c96
             try clear c96b0
             try clear c96b1
             try clear c100
             try clear c101
             try clear c102
             try clear c107
             try clear c108
             try clear c114
             try clear c115
             try clear c116
             try clear c117
             try clear c121
             try clear c122
             try clear c123
             try clear c124
             try clear c125
             try clear c127
             try clear c128
             try clear c129
             try clear c132
             try clear c133
             try clear c134
             try clear c135
             try clear c137
             try clear c138
             try clear c139
             try clear hcz103_0
             try clear hcz103_1
             try clear hcz103_10
             try clear hcz103_11
             try clear hcz103_12
             try clear hcz103_2
             try clear hcz103_3
             try clear hcz103_4
             try clear hcz103_5
             try clear hcz103_6
             try clear hcz103_7
             try clear hcz103_8
             try clear hcz103_9
             try clear hcz105_0
             try clear hcz105_1
             try clear hcz105_10
             try clear hcz105_11
             try clear hcz105_12
             try clear hcz105_2
             try clear hcz105_3
             try clear hcz105_4
             try clear hcz105_5
             try clear hcz105_6
             try clear hcz105_7
             try clear hcz105_8
             try clear hcz105_9
             try clear hcz109_0
             try clear hcz109_1
             try clear hcz109_10
             try clear hcz109_11
             try clear hcz109_12
             try clear hcz109_2
             try clear hcz109_3
             try clear hcz109_4
             try clear hcz109_5
             try clear hcz109_6
             try clear hcz109_7
             try clear hcz109_8
             try clear hcz109_9
             try clear hcz118_0
             try clear hcz118_1
             try clear hcz118_10
             try clear hcz118_11
             try clear hcz118_12
             try clear hcz118_2
             try clear hcz118_3
             try clear hcz118_4
             try clear hcz118_5
             try clear hcz118_6
             try clear hcz118_7
             try clear hcz118_8
             try clear hcz118_9
             try clear hcz126_0
             try clear hcz126_1
             try clear hcz126_10
             try clear hcz126_11
             try clear hcz126_12
             try clear hcz126_2
             try clear hcz126_3
             try clear hcz126_4
             try clear hcz126_5
             try clear hcz126_6
             try clear hcz126_7
             try clear hcz126_8
             try clear hcz126_9
             try clear hcz130_0
             try clear hcz130_1
             try clear hcz130_10
             try clear hcz130_11
             try clear hcz130_12
             try clear hcz130_2
             try clear hcz130_3
             try clear hcz130_4
             try clear hcz130_5
             try clear hcz130_6
             try clear hcz130_7
             try clear hcz130_8
             try clear hcz130_9
             try clear hcz136_0
             try clear hcz136_1
             try clear hcz136_10
             try clear hcz136_11
             try clear hcz136_12
             try clear hcz136_2
             try clear hcz136_3
             try clear hcz136_4
             try clear hcz136_5
             try clear hcz136_6
             try clear hcz136_7
             try clear hcz136_8
             try clear hcz136_9
             try clear hcz140_0
             try clear hcz140_1
             try clear hcz140_10
             try clear hcz140_11
             try clear hcz140_12
             try clear hcz140_2
             try clear hcz140_3
             try clear hcz140_4
             try clear hcz140_5
             try clear hcz140_6
             try clear hcz140_7
             try clear hcz140_8
             try clear hcz140_9
             try clear hcz45_2
             try clear hcz45_3
             try clear hcz45_4
             try clear hcz45_5
             try clear hcz45_6
             try clear hcz45_7
             try clear hcz45_8
             try clear hcz45_9
             try clear hcz48_0
             try clear hcz48_1
             try clear hcz48_10
             try clear hcz48_11
             try clear hcz48_12
             try clear hcz48_2
             try clear hcz48_3
             try clear hcz48_4
             try clear hcz48_5
             try clear hcz48_6
             try clear hcz48_7
             try clear hcz48_8
             try clear hcz48_9
             try clear hcz53_0
             try clear hcz53_1
             try clear hcz53_10
             try clear hcz53_11
             try clear hcz53_12
             try clear hcz53_2
             try clear hcz53_3
             try clear hcz53_4
             try clear hcz53_5
             try clear hcz53_6
             try clear hcz53_7
             try clear hcz53_8
             try clear hcz53_9
             try clear hcz56_0
             try clear hcz56_1
             try clear hcz56_10
             try clear hcz56_11
             try clear hcz56_12
             try clear hcz56_2
             try clear hcz56_3
             try clear hcz56_4
             try clear hcz56_5
             try clear hcz56_6
             try clear hcz56_7
             try clear hcz56_8
             try clear hcz56_9
             try clear hcz71_0
             try clear hcz71_1
             try clear hcz71_10
             try clear hcz71_11
             try clear hcz71_12
             try clear hcz71_2
             try clear hcz71_3
             try clear hcz71_4
             try clear hcz71_5
             try clear hcz71_6
             try clear hcz71_7
             try clear hcz71_8
             try clear hcz71_9
             try clear hcz79_0
             try clear hcz79_1
             try clear hcz79_10
             try clear hcz79_11
             try clear hcz79_12
             try clear hcz79_2
             try clear hcz79_3
             try clear hcz79_4
             try clear hcz79_5
             try clear hcz79_6
             try clear hcz79_7
             try clear hcz79_8
             try clear hcz79_9
             try clear hcz82_0
             try clear hcz82_1
             try clear hcz82_10
             try clear hcz82_11
             try clear hcz82_12
             try clear hcz82_2
             try clear hcz82_3
             try clear hcz82_4
             try clear hcz82_5
             try clear hcz82_6
             try clear hcz82_7
             try clear hcz82_8
             try clear hcz82_9
             try clear hcz87_0
             try clear hcz87_1
             try clear hcz87_10
             try clear hcz87_11
             try clear hcz87_12
             try clear hcz87_2
             try clear hcz87_3
             try clear hcz87_4
             try clear hcz87_5
             try clear hcz87_6
             try clear hcz87_7
             try clear hcz87_8
             try clear hcz87_9
             try clear hcz8_0
             try clear hcz8_1
             try clear hcz8_10
             try clear hcz8_11
             try clear hcz8_12
             try clear hcz8_2
             try clear hcz8_3
             try clear hcz8_4
             try clear hcz8_5
             try clear hcz8_6
             try clear hcz8_7
             try clear hcz8_8
             try clear hcz8_9
             try clear hcz90_0
             try clear hcz90_1
             try clear hcz90_10
             try clear hcz90_11
             try clear hcz90_12
             try clear hcz90_2
             try clear hcz90_3
             try clear hcz90_4
             try clear hcz90_5
             try clear hcz90_6
             try clear hcz90_7
             try clear hcz90_8
             try clear hcz90_9
             try clear hfz103_0
             try clear hfz103_1
             try clear hfz103_10
             try clear hfz103_11
             try clear hfz103_12
             try clear hfz103_2
             try clear hfz103_3
             try clear hfz103_4
             try clear hfz103_5
             try clear hfz103_6
             try clear hfz103_7
             try clear hfz103_8
             try clear hfz103_9
             try clear hfz105_0
             try clear hfz105_1
             try clear hfz105_10
             try clear hfz105_11
             try clear hfz105_12
             try clear hfz105_2
             try clear hfz105_3
             try clear hfz105_4
             try clear hfz105_5
             try clear hfz105_6
             try clear hfz105_7
             try clear hfz105_8
             try clear hfz105_9
             try clear hfz109_0
             try clear hfz109_1
             try clear hfz109_10
             try clear hfz109_11
             try clear hfz109_12
             try clear hfz109_2
             try clear hfz109_3
             try clear hfz109_4
             try clear hfz109_5
             try clear hfz109_6
             try clear hfz109_7
             try clear hfz109_8
             try clear hfz109_9
             try clear hfz118_0
             try clear hfz118_1
             try clear hfz118_10
             try clear hfz118_11
             try clear hfz118_12
             try clear hfz118_2
             try clear hfz118_3
             try clear hfz118_4
             try clear hfz118_5
             try clear hfz118_6
             try clear hfz118_7
             try clear hfz118_8
             try clear hfz118_9
             try clear hfz126_0
             try clear hfz126_1
             try clear hfz126_10
             try clear hfz126_11
             try clear hfz126_12
             try clear hfz126_2
             try clear hfz126_3
             try clear hfz126_4
             try clear hfz126_5
             try clear hfz126_6
             try clear hfz126_7
             try clear hfz126_8
             try clear hfz126_9
             try clear hfz130_0
             try clear hfz130_1
             try clear hfz130_10
             try clear hfz130_11
             try clear hfz130_12
             try clear hfz130_2
             try clear hfz130_3
             try clear hfz130_4
             try clear hfz130_5
             try clear hfz130_6
             try clear hfz130_7
             try clear hfz130_8
             try clear hfz130_9
             try clear hfz136_0
             try clear hfz136_1
             try clear hfz136_10
             try clear hfz136_11
             try clear hfz136_12
             try clear hfz136_2
             try clear hfz136_3
             try clear hfz136_4
             try clear hfz136_5
             try clear hfz136_6
             try clear hfz136_7
             try clear hfz136_8
             try clear hfz136_9
             try clear hfz140_0
             try clear hfz140_1
             try clear hfz140_10
             try clear hfz140_11
             try clear hfz140_12
             try clear hfz140_2
             try clear hfz140_3
             try clear hfz140_4
             try clear hfz140_5
             try clear hfz140_6
             try clear hfz140_7
             try clear hfz140_8
             try clear hfz140_9
             try clear hfz16_0
             try clear hfz16_1
             try clear hfz16_10
             try clear hfz16_11
             try clear hfz16_12
             try clear hfz16_2
             try clear hfz16_3
             try clear hfz16_4
             try clear hfz16_5
             try clear hfz16_6
             try clear hfz16_7
             try clear hfz16_8
             try clear hfz16_9
             try clear hfz18_0
             try clear hfz18_1
             try clear hfz18_10
             try clear hfz18_11
             try clear hfz18_12
             try clear hfz18_2
             try clear hfz18_3
             try clear hfz18_4
             try clear hfz18_5
             try clear hfz18_6
             try clear hfz18_7
             try clear hfz18_8
             try clear hfz18_9
             try clear hfz24_0
             try clear hfz24_1
             try clear hfz24_10
             try clear hfz24_11
             try clear hfz24_12
             try clear hfz24_2
             try clear hfz24_3
             try clear hfz24_4
             try clear hfz24_5
             try clear hfz24_6
             try clear hfz24_7
             try clear hfz24_8
             try clear hfz24_9
             try clear hfz26_0
             try clear hfz26_1
             try clear hfz26_10
             try clear hfz26_11
             try clear hfz26_12
             try clear hfz26_2
             try clear hfz26_3
             try clear hfz26_4
             try clear hfz26_5
             try clear hfz26_6
             try clear hfz26_7
             try clear hfz26_8
             try clear hfz26_9
             try clear hfz31_0
             try clear hfz31_1
             try clear hfz31_10
             try clear hfz31_11
             try clear hfz31_12
             try clear hfz31_2
             try clear hfz31_3
             try clear hfz31_4
             try clear hfz31_5
             try clear hfz31_6
             try clear hfz31_7
             try clear hfz31_8
             try clear hfz31_9
             try clear hfz38_0
             try clear hfz38_1
             try clear hfz38_10
             try clear hfz38_11
             try clear hfz38_12
             try clear hfz38_2
             try clear hfz38_3
             try clear hfz38_4
             try clear hfz38_5
             try clear hfz38_6
             try clear hfz38_7
             try clear hfz38_8
             try clear hfz38_9
             try clear hfz45_0
             try clear hfz45_1
             try clear hfz45_10
             try clear hfz45_11
             try clear hfz45_12
             try clear hfz45_2
             try clear hfz45_3
             try clear hfz45_4
             try clear hfz45_5
             try clear hfz45_6
             try clear hfz45_7
             try clear hfz45_8
             try clear hfz45_9
             try clear hfz48_0
             try clear hfz48_1
             try clear hfz48_10
             try clear hfz48_11
             try clear hfz48_12
             try clear hfz48_2
             try clear hfz48_3
             try clear hfz48_4
             try clear hfz48_5
             try clear hfz48_6
             try clear hfz48_7
             try clear hfz48_8
             try clear hfz48_9
             try clear hfz53_0
             try clear hfz53_1
             try clear hfz53_10
             try clear hfz53_11
             try clear hfz53_12
             try clear hfz53_2
             try clear hfz53_3
             try clear hfz53_4
             try clear hfz53_5
             try clear hfz53_6
             try clear hfz53_7
             try clear hfz53_8
             try clear hfz53_9
             try clear hfz56_0
             try clear hfz56_1
             try clear hfz56_10
             try clear hfz56_11
             try clear hfz56_12
             try clear hfz56_2
             try clear hfz56_3
             try clear hfz56_4
             try clear hfz56_5
             try clear hfz56_6
             try clear hfz56_7
             try clear hfz56_8
             try clear hfz56_9
             try clear hfz71_0
             try clear hfz71_1
             try clear hfz71_10
             try clear hfz71_11
             try clear hfz71_12
             try clear hfz71_2
             try clear hfz71_3
             try clear hfz71_4
             try clear hfz71_5
             try clear hfz71_6
             try clear hfz71_7
             try clear hfz71_8
             try clear hfz71_9
             try clear hfz79_0
             try clear hfz79_1
             try clear hfz79_10
             try clear hfz79_11
             try clear hfz79_12
             try clear hfz79_2
             try clear hfz79_3
             try clear hfz79_4
             try clear hfz79_5
             try clear hfz79_6
             try clear hfz79_7
             try clear hfz79_8
             try clear hfz79_9
             try clear hfz82_0
             try clear hfz82_1
             try clear hfz82_10
             try clear hfz82_11
             try clear hfz82_12
             try clear hfz82_2
             try clear hfz82_3
             try clear hfz82_4
             try clear hfz82_5
             try clear hfz82_6
             try clear hfz82_7
             try clear hfz82_8
             try clear hfz82_9
             try clear hfz87_0
             try clear hfz87_1
             try clear hfz87_10
             try clear hfz87_11
             try clear hfz87_12
             try clear hfz87_2
             try clear hfz87_3
             try clear hfz87_4
             try clear hfz87_5
             try clear hfz87_6
             try clear hfz87_7
             try clear hfz87_8
             try clear hfz87_9
             try clear hfz8_0
             try clear hfz8_1
             try clear hfz8_10
             try clear hfz8_11
             try clear hfz8_12
             try clear hfz8_2
             try clear hfz8_3
             try clear hfz8_4
             try clear hfz8_5
             try clear hfz8_6
             try clear hfz8_7
             try clear hfz8_8
             try clear hfz8_9
             try clear hfz90_0
             try clear hfz90_1
             try clear hfz90_10
             try clear hfz90_11
             try clear hfz90_12
             try clear hfz90_2
             try clear hfz90_3
             try clear hfz90_4
             try clear hfz90_5
             try clear hfz90_6
             try clear hfz90_7
             try clear hfz90_8
             try clear hfz90_9
             obtain ⟨kq, x95_98, rfl, HA, HJ98, HO_283009, HO_299009, HO_316009, HO_371009, BK249, BK282, BK298, BK315, BK370, HB⟩ := hcut
             have hl316009_98 := (Kd.R_reads' HO_316009.out).1
             rw [hl316009_98] at HO_316009
             (try simp only [hl316009_98])
             (try simp only [hl316009_98] at BK249)
             (try simp only [hl316009_98] at BK282)
             (try simp only [hl316009_98] at BK298)
             (try simp only [hl316009_98] at BK315)
             (try simp only [hl316009_98] at BK370)
             (try simp only [hl316009_98] at HO_283009)
             (try simp only [hl316009_98] at HO_299009)
             (try simp only [hl316009_98] at HO_371009)
             cases kq with
             | zero => exact absurd HA.out (by simp [laws_FnExactWrite.j2])
             | succ kj98 =>
              have H := HA.out
              clear HA
              simp only [laws_FnExactWrite.j2] at H
              by_cases c142 : x95_98 = true
              ·subst c142
               rw [if_pos rfl] at H
               exact absurd ((Option.some.inj H).trans hr_.out) (by decide)
              ·replace c142 := Bool.eq_false_iff.mpr c142
               subst c142
               rw [if_neg (show ¬ (false = true) by decide)] at H
               replace H := Option.bind_eq_some_iff.mp H
               obtain ⟨t372, A1430, H⟩ := H
               (try dsimp only at H)
               have A143 := Aside0.mk A1430
               clear A1430
               by_cases c144 : t372 < 0
               ·rw [if_pos c144] at H
                have c144b0 : decide (t372 < 0) = true := decide_eq_true c144
                clear c144
                exact absurd ((Option.some.inj H).trans hr_.out) (by decide)
               ·rw [if_neg c144] at H
                have c144b0 : decide (t372 < 0) = false := decide_eq_false c144
                clear c144
                by_cases c145 : t372 = t336
                ·rw [if_pos c145] at H
                 have c145b0 : (t372 == t336) = true := beq_iff_eq.mpr c145
                 have c145b1 : (t372 != t336) = false := bne_eq_false_iff_eq.mpr c145
                 clear c145
                 obtain rfl := Option.some.inj H
                 have hnb146 := NB315_249.out
                 have hnc146 := NB249_315.out
                 have hnb147 := NB315_282.out
                 have hnc147 := NB282_315.out
                 have hnb148 := NB315_298.out
                 have hnc148 := NB298_315.out
                 have hnb149 := NB315_370.out
                 have hnc149 := NB370_315.out
                 obtain ⟨hcz150_0, hcz150_1, hcz150_2, hcz150_3, hcz150_4, hcz150_5, hcz150_6, hcz150_7, hcz150_8, hcz150_9, hcz150_10, hcz150_11, hcz150_12⟩ := cl13 BK315.out
                 obtain ⟨hfz150_0, hfz150_1, hfz150_2, hfz150_3, hfz150_4, hfz150_5, hfz150_6, hfz150_7, hfz150_8, hfz150_9, hfz150_10, hfz150_11, hfz150_12⟩ := fr13 BK315.out
                 go_wp2_with (first | ((with_reducible refine gate_callee (f := 66) rfl ?_); refine goesL_ (some 98) rfl rfl Try.func66 B8x38_ rfl #[.agg #[.int .i64 t299, .int .i64 t300, .int .i64 t301, .int .i64 t302, .string t303, .int .i64 t304, .int .i64 t305, .bool t306, .string t307, .slice Ao39 t337.length co39, .bool t311, .int .i64 t312, .int .i64 t313], .int .i64 1] rfl B8x9_ ?_; (with_reducible refine (laws_heldStream.calls kj98 t299 t300 t301 t302 t303 t304 t305 t306 t307 _ _ t337 t311 t312 t313 1 t372 _ ?side1 ?side2 A143.out).mono ?_); (case side1 => repeat (first | exact (Kd.R_reads' HO_316009.out).2.2 | (with_reducible refine Kd.C_alloc ?_ _) | (with_reducible refine Kd.C_drewN ?_ _) | (with_reducible refine Kd.C_drew ?_))); (case side2 => exact (Kd.R_reads' HO_316009.out).2.1); rintro e w151 ⟨rfl, hb⟩; refine ⟨_, rfl, ?_⟩; have n0_ := Aside0.mk (Kd.R_below B8x21_ hb); have n1_ := Aside0.mk (Kd.R_below B8x22_ hb); have n2_ := Aside0.mk (Kd.R_below B8x23_ hb); have n3_ := Aside0.mk (Kd.R_below (by (with_reducible repeat (first | apply Kd.R_alloc | apply Kd.R_drewN | apply Kd.R_drew)); exact HO_371009.out) hb); have n4_ := Aside0.mk (blk_below (g := gb249) (o := .cells #[.int .i64 a0_0, .int .i64 a0_1, .int .i64 a0_2, .int .i64 a0_3, .string a0_4, .int .i64 a0_5, .int .i64 a0_6, .bool a0_7, .string a0_8, .slice A0_9 l0_9.length c0_9, .bool a0_10, .int .i64 a0_11, .int .i64 a0_12] 24 (0, 0)) B8x7_ hb); have n5_ := Aside0.mk (blk_below (g := gb282) (o := .cells #[.int .i64 t266, .int .i64 t267, .int .i64 t268, .int .i64 t269, .string t270, .int .i64 t271, .int .i64 t272, .bool t273, .string t274, .slice Ao25 t275.length co25, .bool t278, .int .i64 t279, .int .i64 t280] 29 (0, 0)) B8x10_ hb); have n6_ := Aside0.mk (blk_below (g := gb298) (o := .cells #[.int .i64 t283, .int .i64 t284, .int .i64 t285, .int .i64 t286, .string t287, .int .i64 t288, .int .i64 t289, .bool t290, .string t291, .slice Ao32 t334.length co32, .bool t295, .int .i64 t296, .int .i64 t297] 29 (0, 0)) B8x18_ hb); have n7_ := Aside0.mk (blk_below (g := gb315) (o := .cells #[.int .i64 t299, .int .i64 t300, .int .i64 t301, .int .i64 t302, .string t303, .int .i64 t304, .int .i64 t305, .bool t306, .string t307, .slice Ao39 t337.length co39, .bool t311, .int .i64 t312, .int .i64 t313] 29 (0, 0)) B8x19_ hb); have n8_ := Aside0.mk (blk_below (g := gb370) (o := .cells #[.int .i64 t354, .int .i64 t355, .int .i64 t356, .int .i64 t357, .string t358, .int .i64 t359, .int .i64 t360, .bool t361, .string t362, .slice Ao119 t363.length co119, .bool t366, .int .i64 t367, .int .i64 t368] 29 (0, 0)) (by (with_reducible repeat (first | refine blk_drewN ?_ _ | refine blk_drew ?_ | refine blk_alloc ?_ _)); exact BK370.out) hb); have n9_ := Aside0.mk (below_step B8x36_ hb); clear HO_283009; clear HO_299009; clear HO_316009; clear HO_371009; clear BK249; clear BK282; clear BK298; clear BK315; clear BK370; clear HB; have HO_283009 := n0_; have HO_299009 := n1_; have HO_316009 := n2_; have HO_371009 := n3_; have BK249 := n4_; have BK282 := n5_; have BK298 := n6_; have BK315 := n7_; have BK370 := n8_; have HB := n9_; clear n0_ n1_ n2_ n3_ n4_ n5_ n6_ n7_ n8_ n9_; (try clear hb); (try clear hb2); (try clear hk); (try clear hi)))
                 go_ret
                 exact ⟨by first | rfl | (simp [errW_none, errW_some] <;> rfl) | (simp [*, errW_none, errW_some] <;> rfl), by repeat (first | (with_reducible first | exact HB.out | apply below_alloc | apply pw_below_drewN | apply below_drew1 | refine below_set ?_ GE249.out | refine below_set ?_ GE282.out | refine below_set ?_ GE298.out | refine below_set ?_ GE315.out | refine below_set ?_ GE370.out) | exact HB.out)⟩
                ·rw [if_neg c145] at H
                 have c145b0 : (t372 == t336) = false := beq_eq_false_iff_ne.mpr c145
                 have c145b1 : (t372 != t336) = true := bne_iff_ne.mpr c145
                 exact absurd ((Option.some.inj H).trans hr_.out) (by decide)
           ·rw [if_neg c96] at H
            have c96b0 : (t338 == t336) = false := beq_eq_false_iff_ne.mpr c96
            have c96b1 : (t338 != t336) = true := bne_iff_ne.mpr c96
            exact absurd ((Option.some.inj H).trans hr_.out) (by decide)
      ·replace c61 := Bool.eq_false_iff.mpr c61
       subst c61
       rw [if_neg (show ¬ (false = true) by decide)] at H
       exact absurd ((Option.some.inj H).trans hr_.out) (by decide)

end Go.Proofs.Ytjijbffecppeiaa.QFnExactWrite
