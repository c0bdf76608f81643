/- Functions that a law reaches, as functions of Lean, and the walks that show that the calls come to their answers: written by a program of this project out of the translation. No condition. -/
import Derived.Test.YtjijbffecppeiaaQFnExactShutx0
import Derived.Test.YtjijbffecppeiaaQFnExactShutx1
import Derived.Test.YtjijbffecppeiaaQFnExactShutx2
import Derived.Test.YtjijbffecppeiaaQFnExactShutx4
import Derived.Test.YtjijbffecppeiaaQFnExactShutx6
import Derived.Test.YtjijbffecppeiaaVFnExactShutShort3
import Derived.Test.YtjijbffecppeiaaVFnExactShutShort2
import Derived.Test.YtjijbffecppeiaaVFnExactShutShort
namespace Go.Proofs.Ytjijbffecppeiaa.QFnExactShut
open Go.RowKit Go.Proofs.YtjijbffecppeiaaW.PrintWords Go.Proofs.YtjijbffecppeiaaW.PrintLast Go.Proofs.YtjijbffecppeiaaW.PrintMore Go.Proofs.Ytjijbffecppeiaa.Short
attribute [local go_sem] max2_int min2_int max_two min_two max_three min_three max_four min_four   -- for this text's walks alone
set_option linter.unusedVariables false
set_option linter.unusedSimpArgs false

theorem B7x0_ {p : Prop} (h : p := by (with_reducible repeat (first | refine blk_drewN ?_ _ | refine blk_drew ?_ | refine blk_alloc ?_ _)); refine blk_put (cs := #[.int .i64 t354, .int .i64 t355, .int .i64 t356, .int .i64 t357, .string t358, .int .i64 t359, .int .i64 t360, .bool t361, .string t362, .slice Ao116 t363.length co116, .bool t366, .int .i64 t367, .int .i64 0]) ?_ 12 _ rfl; (with_reducible repeat (first | refine blk_drewN ?_ _ | refine blk_drew ?_ | refine blk_alloc ?_ _)); refine blk_put (cs := #[.int .i64 t354, .int .i64 t355, .int .i64 t356, .int .i64 t357, .string t358, .int .i64 t359, .int .i64 t360, .bool t361, .string t362, .slice Ao116 t363.length co116, .bool t366, .int .i64 0, .int .i64 0]) ?_ 11 _ rfl; (with_reducible repeat (first | refine blk_drewN ?_ _ | refine blk_drew ?_ | refine blk_alloc ?_ _)); refine blk_put (cs := #[.int .i64 t354, .int .i64 t355, .int .i64 t356, .int .i64 t357, .string t358, .int .i64 t359, .int .i64 t360, .bool t361, .string t362, .slice Ao116 t363.length co116, .bool false, .int .i64 0, .int .i64 0]) ?_ 10 _ rfl; (with_reducible repeat (first | refine blk_drewN ?_ _ | refine blk_drew ?_ | refine blk_alloc ?_ _)); refine blk_put (cs := #[.int .i64 t354, .int .i64 t355, .int .i64 t356, .int .i64 t357, .string t358, .int .i64 t359, .int .i64 t360, .bool t361, .string t362, .slice none 0 0, .bool false, .int .i64 0, .int .i64 0]) ?_ 9 _ rfl; (with_reducible repeat (first | refine blk_drewN ?_ _ | refine blk_drew ?_ | refine blk_alloc ?_ _)); refine blk_put (cs := #[.int .i64 t354, .int .i64 t355, .int .i64 t356, .int .i64 t357, .string t358, .int .i64 t359, .int .i64 t360, .bool t361, .string (⟨#[]⟩ : ByteArray), .slice none 0 0, .bool false, .int .i64 0, .int .i64 0]) ?_ 8 _ rfl; (with_reducible repeat (first | refine blk_drewN ?_ _ | refine blk_drew ?_ | refine blk_alloc ?_ _)); refine blk_put (cs := #[.int .i64 t354, .int .i64 t355, .int .i64 t356, .int .i64 t357, .string t358, .int .i64 t359, .int .i64 t360, .bool false, .string (⟨#[]⟩ : ByteArray), .slice none 0 0, .bool false, .int .i64 0, .int .i64 0]) ?_ 7 _ rfl; (with_reducible repeat (first | refine blk_drewN ?_ _ | refine blk_drew ?_ | refine blk_alloc ?_ _)); refine blk_put (cs := #[.int .i64 t354, .int .i64 t355, .int .i64 t356, .int .i64 t357, .string t358, .int .i64 t359, .int .i64 0, .bool false, .string (⟨#[]⟩ : ByteArray), .slice none 0 0, .bool false, .int .i64 0, .int .i64 0]) ?_ 6 _ rfl; (with_reducible repeat (first | refine blk_drewN ?_ _ | refine blk_drew ?_ | refine blk_alloc ?_ _)); refine blk_put (cs := #[.int .i64 t354, .int .i64 t355, .int .i64 t356, .int .i64 t357, .string t358, .int .i64 0, .int .i64 0, .bool false, .string (⟨#[]⟩ : ByteArray), .slice none 0 0, .bool false, .int .i64 0, .int .i64 0]) ?_ 5 _ rfl; (with_reducible repeat (first | refine blk_drewN ?_ _ | refine blk_drew ?_ | refine blk_alloc ?_ _)); refine blk_put (cs := #[.int .i64 t354, .int .i64 t355, .int .i64 t356, .int .i64 t357, .string (⟨#[]⟩ : ByteArray), .int .i64 0, .int .i64 0, .bool false, .string (⟨#[]⟩ : ByteArray), .slice none 0 0, .bool false, .int .i64 0, .int .i64 0]) ?_ 4 _ rfl; (with_reducible repeat (first | refine blk_drewN ?_ _ | refine blk_drew ?_ | refine blk_alloc ?_ _)); refine blk_put (cs := #[.int .i64 t354, .int .i64 t355, .int .i64 t356, .int .i64 0, .string (⟨#[]⟩ : ByteArray), .int .i64 0, .int .i64 0, .bool false, .string (⟨#[]⟩ : ByteArray), .slice none 0 0, .bool false, .int .i64 0, .int .i64 0]) ?_ 3 _ rfl; (with_reducible repeat (first | refine blk_drewN ?_ _ | refine blk_drew ?_ | refine blk_alloc ?_ _)); refine blk_put (cs := #[.int .i64 t354, .int .i64 t355, .int .i64 0, .int .i64 0, .string (⟨#[]⟩ : ByteArray), .int .i64 0, .int .i64 0, .bool false, .string (⟨#[]⟩ : ByteArray), .slice none 0 0, .bool false, .int .i64 0, .int .i64 0]) ?_ 2 _ rfl; (with_reducible repeat (first | refine blk_drewN ?_ _ | refine blk_drew ?_ | refine blk_alloc ?_ _)); refine blk_put (cs := #[.int .i64 t354, .int .i64 0, .int .i64 0, .int .i64 0, .string (⟨#[]⟩ : ByteArray), .int .i64 0, .int .i64 0, .bool false, .string (⟨#[]⟩ : ByteArray), .slice none 0 0, .bool false, .int .i64 0, .int .i64 0]) ?_ 1 _ rfl; (with_reducible repeat (first | refine blk_drewN ?_ _ | refine blk_drew ?_ | refine blk_alloc ?_ _)); refine blk_put (cs := #[.int .i64 0, .int .i64 0, .int .i64 0, .int .i64 0, .string (⟨#[]⟩ : ByteArray), .int .i64 0, .int .i64 0, .bool false, .string (⟨#[]⟩ : ByteArray), .slice none 0 0, .bool false, .int .i64 0, .int .i64 0]) ?_ 0 _ rfl; (with_reducible repeat (first | refine blk_drewN ?_ _ | refine blk_drew ?_ | refine blk_alloc ?_ _)); exact BK370.out) : p := h
theorem B7x1_ {p : Prop} (h : p := by (with_reducible repeat (first | refine blk_drewN ?_ _ | refine blk_drew ?_ | refine blk_alloc ?_ _)); refine blk_put (cs := #[.int .i64 t299, .int .i64 t300, .int .i64 t301, .int .i64 t302, .string t303, .int .i64 t304, .int .i64 t305, .bool t306, .string t307, .slice Ao36 t308.length co36, .bool t311, .int .i64 t312, .int .i64 0]) ?_ 12 _ rfl; (with_reducible repeat (first | refine blk_drewN ?_ _ | refine blk_drew ?_ | refine blk_alloc ?_ _)); refine blk_put (cs := #[.int .i64 t299, .int .i64 t300, .int .i64 t301, .int .i64 t302, .string t303, .int .i64 t304, .int .i64 t305, .bool t306, .string t307, .slice Ao36 t308.length co36, .bool t311, .int .i64 0, .int .i64 0]) ?_ 11 _ rfl; (with_reducible repeat (first | refine blk_drewN ?_ _ | refine blk_drew ?_ | refine blk_alloc ?_ _)); refine blk_put (cs := #[.int .i64 t299, .int .i64 t300, .int .i64 t301, .int .i64 t302, .string t303, .int .i64 t304, .int .i64 t305, .bool t306, .string t307, .slice Ao36 t308.length co36, .bool false, .int .i64 0, .int .i64 0]) ?_ 10 _ rfl; (with_reducible repeat (first | refine blk_drewN ?_ _ | refine blk_drew ?_ | refine blk_alloc ?_ _)); refine blk_put (cs := #[.int .i64 t299, .int .i64 t300, .int .i64 t301, .int .i64 t302, .string t303, .int .i64 t304, .int .i64 t305, .bool t306, .string t307, .slice none 0 0, .bool false, .int .i64 0, .int .i64 0]) ?_ 9 _ rfl; (with_reducible repeat (first | refine blk_drewN ?_ _ | refine blk_drew ?_ | refine blk_alloc ?_ _)); refine blk_put (cs := #[.int .i64 t299, .int .i64 t300, .int .i64 t301, .int .i64 t302, .string t303, .int .i64 t304, .int .i64 t305, .bool t306, .string (⟨#[]⟩ : ByteArray), .slice none 0 0, .bool false, .int .i64 0, .int .i64 0]) ?_ 8 _ rfl; (with_reducible repeat (first | refine blk_drewN ?_ _ | refine blk_drew ?_ | refine blk_alloc ?_ _)); refine blk_put (cs := #[.int .i64 t299, .int .i64 t300, .int .i64 t301, .int .i64 t302, .string t303, .int .i64 t304, .int .i64 t305, .bool false, .string (⟨#[]⟩ : ByteArray), .slice none 0 0, .bool false, .int .i64 0, .int .i64 0]) ?_ 7 _ rfl; (with_reducible repeat (first | refine blk_drewN ?_ _ | refine blk_drew ?_ | refine blk_alloc ?_ _)); refine blk_put (cs := #[.int .i64 t299, .int .i64 t300, .int .i64 t301, .int .i64 t302, .string t303, .int .i64 t304, .int .i64 0, .bool false, .string (⟨#[]⟩ : ByteArray), .slice none 0 0, .bool false, .int .i64 0, .int .i64 0]) ?_ 6 _ rfl; (with_reducible repeat (first | refine blk_drewN ?_ _ | refine blk_drew ?_ | refine blk_alloc ?_ _)); refine blk_put (cs := #[.int .i64 t299, .int .i64 t300, .int .i64 t301, .int .i64 t302, .string t303, .int .i64 0, .int .i64 0, .bool false, .string (⟨#[]⟩ : ByteArray), .slice none 0 0, .bool false, .int .i64 0, .int .i64 0]) ?_ 5 _ rfl; (with_reducible repeat (first | refine blk_drewN ?_ _ | refine blk_drew ?_ | refine blk_alloc ?_ _)); refine blk_put (cs := #[.int .i64 t299, .int .i64 t300, .int .i64 t301, .int .i64 t302, .string (⟨#[]⟩ : ByteArray), .int .i64 0, .int .i64 0, .bool false, .string (⟨#[]⟩ : ByteArray), .slice none 0 0, .bool false, .int .i64 0, .int .i64 0]) ?_ 4 _ rfl; (with_reducible repeat (first | refine blk_drewN ?_ _ | refine blk_drew ?_ | refine blk_alloc ?_ _)); refine blk_put (cs := #[.int .i64 t299, .int .i64 t300, .int .i64 t301, .int .i64 0, .string (⟨#[]⟩ : ByteArray), .int .i64 0, .int .i64 0, .bool false, .string (⟨#[]⟩ : ByteArray), .slice none 0 0, .bool false, .int .i64 0, .int .i64 0]) ?_ 3 _ rfl; (with_reducible repeat (first | refine blk_drewN ?_ _ | refine blk_drew ?_ | refine blk_alloc ?_ _)); refine blk_put (cs := #[.int .i64 t299, .int .i64 t300, .int .i64 0, .int .i64 0, .string (⟨#[]⟩ : ByteArray), .int .i64 0, .int .i64 0, .bool false, .string (⟨#[]⟩ : ByteArray), .slice none 0 0, .bool false, .int .i64 0, .int .i64 0]) ?_ 2 _ rfl; (with_reducible repeat (first | refine blk_drewN ?_ _ | refine blk_drew ?_ | refine blk_alloc ?_ _)); refine blk_put (cs := #[.int .i64 t299, .int .i64 0, .int .i64 0, .int .i64 0, .string (⟨#[]⟩ : ByteArray), .int .i64 0, .int .i64 0, .bool false, .string (⟨#[]⟩ : ByteArray), .slice none 0 0, .bool false, .int .i64 0, .int .i64 0]) ?_ 1 _ rfl; (with_reducible repeat (first | refine blk_drewN ?_ _ | refine blk_drew ?_ | refine blk_alloc ?_ _)); refine blk_put (cs := #[.int .i64 0, .int .i64 0, .int .i64 0, .int .i64 0, .string (⟨#[]⟩ : ByteArray), .int .i64 0, .int .i64 0, .bool false, .string (⟨#[]⟩ : ByteArray), .slice none 0 0, .bool false, .int .i64 0, .int .i64 0]) ?_ 0 _ rfl; (with_reducible repeat (first | refine blk_drewN ?_ _ | refine blk_drew ?_ | refine blk_alloc ?_ _)); exact BK315.out) : p := h
theorem B7x2_ {p : Prop} (h : p := by repeat (first | (with_reducible first | exact HB.out | apply below_alloc | apply pw_below_drewN | apply below_drew1 | refine below_set ?_ GE249.out | refine below_set ?_ GE282.out | refine below_set ?_ GE298.out | refine below_set ?_ GE315.out) | exact HB.out)) : p := h
theorem B7x3_ {p : Prop} (h : p := by (with_reducible repeat (first | apply Kd.R_alloc | apply Kd.R_drewN | apply Kd.R_drew)); exact (Kd.R_mono (Kd.R_far (p := ⟨gb370, 12, none⟩) (Kd.R_far (p := ⟨gb370, 11, none⟩) (Kd.R_far (p := ⟨gb370, 10, none⟩) (Kd.R_far (p := ⟨gb370, 9, none⟩) (Kd.R_far (p := ⟨gb370, 8, none⟩) (Kd.R_far (p := ⟨gb370, 7, none⟩) (Kd.R_far (p := ⟨gb370, 6, none⟩) (Kd.R_far (p := ⟨gb370, 5, none⟩) (Kd.R_far (p := ⟨gb370, 4, none⟩) (Kd.R_far (p := ⟨gb370, 3, none⟩) (Kd.R_far (p := ⟨gb370, 2, none⟩) (Kd.R_far (p := ⟨gb370, 1, none⟩) (Kd.R_far (p := ⟨gb370, 0, none⟩) (Kd.R_types HO_283009.out BK370.out (by decide)) (fun _ hk => hk.2) (.int .i64 t354)) (fun _ hk => hk.2) (.int .i64 t355)) (fun _ hk => hk.2) (.int .i64 t356)) (fun _ hk => hk.2) (.int .i64 t357)) (fun _ hk => hk.2) (.string t358)) (fun _ hk => hk.2) (.int .i64 t359)) (fun _ hk => hk.2) (.int .i64 t360)) (fun _ hk => hk.2) (.bool t361)) (fun _ hk => hk.2) (.string t362)) (fun _ hk => hk.2) (.slice Ao116 t363.length co116)) (fun _ hk => hk.2) (.bool t366)) (fun _ hk => hk.2) (.int .i64 t367)) (fun _ hk => hk.2) (.int .i64 t368)) (fun _ h_ => h_.1))) : p := h
theorem B7x4_ {p : Prop} (h : p := by (with_reducible repeat (first | apply Kd.R_alloc | apply Kd.R_drewN | apply Kd.R_drew)); exact (Kd.R_mono (Kd.R_far (p := ⟨gb370, 12, none⟩) (Kd.R_far (p := ⟨gb370, 11, none⟩) (Kd.R_far (p := ⟨gb370, 10, none⟩) (Kd.R_far (p := ⟨gb370, 9, none⟩) (Kd.R_far (p := ⟨gb370, 8, none⟩) (Kd.R_far (p := ⟨gb370, 7, none⟩) (Kd.R_far (p := ⟨gb370, 6, none⟩) (Kd.R_far (p := ⟨gb370, 5, none⟩) (Kd.R_far (p := ⟨gb370, 4, none⟩) (Kd.R_far (p := ⟨gb370, 3, none⟩) (Kd.R_far (p := ⟨gb370, 2, none⟩) (Kd.R_far (p := ⟨gb370, 1, none⟩) (Kd.R_far (p := ⟨gb370, 0, none⟩) (Kd.R_types HO365.out BK370.out (by decide)) (fun _ hk => hk.2) (.int .i64 t354)) (fun _ hk => hk.2) (.int .i64 t355)) (fun _ hk => hk.2) (.int .i64 t356)) (fun _ hk => hk.2) (.int .i64 t357)) (fun _ hk => hk.2) (.string t358)) (fun _ hk => hk.2) (.int .i64 t359)) (fun _ hk => hk.2) (.int .i64 t360)) (fun _ hk => hk.2) (.bool t361)) (fun _ hk => hk.2) (.string t362)) (fun _ hk => hk.2) (.slice Ao116 t363.length co116)) (fun _ hk => hk.2) (.bool t366)) (fun _ hk => hk.2) (.int .i64 t367)) (fun _ hk => hk.2) (.int .i64 t368)) (fun _ h_ => h_.1))) : p := h
theorem B7x5_ {p : Prop} (h : p := by (with_reducible repeat (first | apply Kd.R_alloc | apply Kd.R_drewN | apply Kd.R_drew)); exact (Kd.R_mono (Kd.R_far (p := ⟨gb315, 12, none⟩) (Kd.R_far (p := ⟨gb315, 11, none⟩) (Kd.R_far (p := ⟨gb315, 10, none⟩) (Kd.R_far (p := ⟨gb315, 9, none⟩) (Kd.R_far (p := ⟨gb315, 8, none⟩) (Kd.R_far (p := ⟨gb315, 7, none⟩) (Kd.R_far (p := ⟨gb315, 6, none⟩) (Kd.R_far (p := ⟨gb315, 5, none⟩) (Kd.R_far (p := ⟨gb315, 4, none⟩) (Kd.R_far (p := ⟨gb315, 3, none⟩) (Kd.R_far (p := ⟨gb315, 2, none⟩) (Kd.R_far (p := ⟨gb315, 1, none⟩) (Kd.R_far (p := ⟨gb315, 0, none⟩) (Kd.R_types HO277.out BK315.out (by decide)) (fun _ hk => hk.2) (.int .i64 t299)) (fun _ hk => hk.2) (.int .i64 t300)) (fun _ hk => hk.2) (.int .i64 t301)) (fun _ hk => hk.2) (.int .i64 t302)) (fun _ hk => hk.2) (.string t303)) (fun _ hk => hk.2) (.int .i64 t304)) (fun _ hk => hk.2) (.int .i64 t305)) (fun _ hk => hk.2) (.bool t306)) (fun _ hk => hk.2) (.string t307)) (fun _ hk => hk.2) (.slice Ao36 t308.length co36)) (fun _ hk => hk.2) (.bool t311)) (fun _ hk => hk.2) (.int .i64 t312)) (fun _ hk => hk.2) (.int .i64 t313)) (fun _ h_ => h_.1))) : p := h
theorem B7x6_ {p : Prop} (h : p := by (with_reducible repeat (first | apply Kd.R_alloc | apply Kd.R_drewN | apply Kd.R_drew)); exact (Kd.R_mono (Kd.R_far (p := ⟨gb315, 12, none⟩) (Kd.R_far (p := ⟨gb315, 11, none⟩) (Kd.R_far (p := ⟨gb315, 10, none⟩) (Kd.R_far (p := ⟨gb315, 9, none⟩) (Kd.R_far (p := ⟨gb315, 8, none⟩) (Kd.R_far (p := ⟨gb315, 7, none⟩) (Kd.R_far (p := ⟨gb315, 6, none⟩) (Kd.R_far (p := ⟨gb315, 5, none⟩) (Kd.R_far (p := ⟨gb315, 4, none⟩) (Kd.R_far (p := ⟨gb315, 3, none⟩) (Kd.R_far (p := ⟨gb315, 2, none⟩) (Kd.R_far (p := ⟨gb315, 1, none⟩) (Kd.R_far (p := ⟨gb315, 0, none⟩) (Kd.R_types HO310.out BK315.out (by decide)) (fun _ hk => hk.2) (.int .i64 t299)) (fun _ hk => hk.2) (.int .i64 t300)) (fun _ hk => hk.2) (.int .i64 t301)) (fun _ hk => hk.2) (.int .i64 t302)) (fun _ hk => hk.2) (.string t303)) (fun _ hk => hk.2) (.int .i64 t304)) (fun _ hk => hk.2) (.int .i64 t305)) (fun _ hk => hk.2) (.bool t306)) (fun _ hk => hk.2) (.string t307)) (fun _ hk => hk.2) (.slice Ao36 t308.length co36)) (fun _ hk => hk.2) (.bool t311)) (fun _ hk => hk.2) (.int .i64 t312)) (fun _ hk => hk.2) (.int .i64 t313)) (fun _ h_ => h_.1))) : p := h
theorem B7x7_ {p : Prop} (h : p := by (with_reducible repeat (first | refine blk_drewN ?_ _ | refine blk_drew ?_ | refine blk_alloc ?_ _)); exact BK249.out) : p := h
theorem B7x8_ {p : Prop} (h : p := by (with_reducible repeat (first | apply Kd.R_alloc | apply Kd.R_drewN | apply Kd.R_drew)); exact (Kd.R_mono (Kd.R_far (p := ⟨gb298, 12, none⟩) (Kd.R_far (p := ⟨gb298, 11, none⟩) (Kd.R_far (p := ⟨gb298, 10, none⟩) (Kd.R_far (p := ⟨gb298, 9, none⟩) (Kd.R_far (p := ⟨gb298, 8, none⟩) (Kd.R_far (p := ⟨gb298, 7, none⟩) (Kd.R_far (p := ⟨gb298, 6, none⟩) (Kd.R_far (p := ⟨gb298, 5, none⟩) (Kd.R_far (p := ⟨gb298, 4, none⟩) (Kd.R_far (p := ⟨gb298, 3, none⟩) (Kd.R_far (p := ⟨gb298, 2, none⟩) (Kd.R_far (p := ⟨gb298, 1, none⟩) (Kd.R_far (p := ⟨gb298, 0, none⟩) (Kd.R_types HO294.out BK298.out (by decide)) (fun _ hk => hk.2) (.int .i64 t283)) (fun _ hk => hk.2) (.int .i64 t284)) (fun _ hk => hk.2) (.int .i64 t285)) (fun _ hk => hk.2) (.int .i64 t286)) (fun _ hk => hk.2) (.string t287)) (fun _ hk => hk.2) (.int .i64 t288)) (fun _ hk => hk.2) (.int .i64 t289)) (fun _ hk => hk.2) (.bool t290)) (fun _ hk => hk.2) (.string t291)) (fun _ hk => hk.2) (.slice Ao29 t292.length co29)) (fun _ hk => hk.2) (.bool t295)) (fun _ hk => hk.2) (.int .i64 t296)) (fun _ hk => hk.2) (.int .i64 t297)) (fun _ h_ => h_.1))) : p := h
theorem B7x9_ {p : Prop} (h : p := by (try simp only [List.map_toArray, List.map_cons, List.map_nil]); first | done | rfl | (simp only [List.length_drop, List.length_take]; rfl)) : p := h
theorem B7x10_ {p : Prop} (h : p := by (with_reducible repeat (first | refine blk_drewN ?_ _ | refine blk_drew ?_ | refine blk_alloc ?_ _)); exact BK282.out) : p := h
theorem B7x11_ {p : Prop} (h : p := by (with_reducible repeat (first | refine blk_drewN ?_ _ | refine blk_drew ?_ | refine blk_alloc ?_ _)); refine blk_far ?_ NB249_315.out _; (with_reducible repeat (first | refine blk_drewN ?_ _ | refine blk_drew ?_ | refine blk_alloc ?_ _)); refine blk_far ?_ NB249_315.out _; (with_reducible repeat (first | refine blk_drewN ?_ _ | refine blk_drew ?_ | refine blk_alloc ?_ _)); refine blk_far ?_ NB249_315.out _; (with_reducible repeat (first | refine blk_drewN ?_ _ | refine blk_drew ?_ | refine blk_alloc ?_ _)); refine blk_far ?_ NB249_315.out _; (with_reducible repeat (first | refine blk_drewN ?_ _ | refine blk_drew ?_ | refine blk_alloc ?_ _)); refine blk_far ?_ NB249_315.out _; (with_reducible repeat (first | refine blk_drewN ?_ _ | refine blk_drew ?_ | refine blk_alloc ?_ _)); refine blk_far ?_ NB249_315.out _; (with_reducible repeat (first | refine blk_drewN ?_ _ | refine blk_drew ?_ | refine blk_alloc ?_ _)); refine blk_far ?_ NB249_315.out _; (with_reducible repeat (first | refine blk_drewN ?_ _ | refine blk_drew ?_ | refine blk_alloc ?_ _)); refine blk_far ?_ NB249_315.out _; (with_reducible repeat (first | refine blk_drewN ?_ _ | refine blk_drew ?_ | refine blk_alloc ?_ _)); refine blk_far ?_ NB249_315.out _; (with_reducible repeat (first | refine blk_drewN ?_ _ | refine blk_drew ?_ | refine blk_alloc ?_ _)); refine blk_far ?_ NB249_315.out _; (with_reducible repeat (first | refine blk_drewN ?_ _ | refine blk_drew ?_ | refine blk_alloc ?_ _)); refine blk_far ?_ NB249_315.out _; (with_reducible repeat (first | refine blk_drewN ?_ _ | refine blk_drew ?_ | refine blk_alloc ?_ _)); refine blk_far ?_ NB249_315.out _; (with_reducible repeat (first | refine blk_drewN ?_ _ | refine blk_drew ?_ | refine blk_alloc ?_ _)); refine blk_far ?_ NB249_315.out _; (with_reducible repeat (first | refine blk_drewN ?_ _ | refine blk_drew ?_ | refine blk_alloc ?_ _)); exact BK249.out) : p := h
theorem B7x12_ {p : Prop} (h : p := by (with_reducible repeat (first | refine blk_drewN ?_ _ | refine blk_drew ?_ | refine blk_alloc ?_ _)); refine blk_far ?_ NB249_370.out _; (with_reducible repeat (first | refine blk_drewN ?_ _ | refine blk_drew ?_ | refine blk_alloc ?_ _)); refine blk_far ?_ NB249_370.out _; (with_reducible repeat (first | refine blk_drewN ?_ _ | refine blk_drew ?_ | refine blk_alloc ?_ _)); refine blk_far ?_ NB249_370.out _; (with_reducible repeat (first | refine blk_drewN ?_ _ | refine blk_drew ?_ | refine blk_alloc ?_ _)); refine blk_far ?_ NB249_370.out _; (with_reducible repeat (first | refine blk_drewN ?_ _ | refine blk_drew ?_ | refine blk_alloc ?_ _)); refine blk_far ?_ NB249_370.out _; (with_reducible repeat (first | refine blk_drewN ?_ _ | refine blk_drew ?_ | refine blk_alloc ?_ _)); refine blk_far ?_ NB249_370.out _; (with_reducible repeat (first | refine blk_drewN ?_ _ | refine blk_drew ?_ | refine blk_alloc ?_ _)); refine blk_far ?_ NB249_370.out _; (with_reducible repeat (first | refine blk_drewN ?_ _ | refine blk_drew ?_ | refine blk_alloc ?_ _)); refine blk_far ?_ NB249_370.out _; (with_reducible repeat (first | refine blk_drewN ?_ _ | refine blk_drew ?_ | refine blk_alloc ?_ _)); refine blk_far ?_ NB249_370.out _; (with_reducible repeat (first | refine blk_drewN ?_ _ | refine blk_drew ?_ | refine blk_alloc ?_ _)); refine blk_far ?_ NB249_370.out _; (with_reducible repeat (first | refine blk_drewN ?_ _ | refine blk_drew ?_ | refine blk_alloc ?_ _)); refine blk_far ?_ NB249_370.out _; (with_reducible repeat (first | refine blk_drewN ?_ _ | refine blk_drew ?_ | refine blk_alloc ?_ _)); refine blk_far ?_ NB249_370.out _; (with_reducible repeat (first | refine blk_drewN ?_ _ | refine blk_drew ?_ | refine blk_alloc ?_ _)); refine blk_far ?_ NB249_370.out _; (with_reducible repeat (first | refine blk_drewN ?_ _ | refine blk_drew ?_ | refine blk_alloc ?_ _)); exact BK249.out) : p := h
theorem B7x13_ {p : Prop} (h : p := by (with_reducible repeat (first | refine blk_drewN ?_ _ | refine blk_drew ?_ | refine blk_alloc ?_ _)); refine blk_far ?_ NB282_315.out _; (with_reducible repeat (first | refine blk_drewN ?_ _ | refine blk_drew ?_ | refine blk_alloc ?_ _)); refine blk_far ?_ NB282_315.out _; (with_reducible repeat (first | refine blk_drewN ?_ _ | refine blk_drew ?_ | refine blk_alloc ?_ _)); refine blk_far ?_ NB282_315.out _; (with_reducible repeat (first | refine blk_drewN ?_ _ | refine blk_drew ?_ | refine blk_alloc ?_ _)); refine blk_far ?_ NB282_315.out _; (with_reducible repeat (first | refine blk_drewN ?_ _ | refine blk_drew ?_ | refine blk_alloc ?_ _)); refine blk_far ?_ NB282_315.out _; (with_reducible repeat (first | refine blk_drewN ?_ _ | refine blk_drew ?_ | refine blk_alloc ?_ _)); refine blk_far ?_ NB282_315.out _; (with_reducible repeat (first | refine blk_drewN ?_ _ | refine blk_drew ?_ | refine blk_alloc ?_ _)); refine blk_far ?_ NB282_315.out _; (with_reducible repeat (first | refine blk_drewN ?_ _ | refine blk_drew ?_ | refine blk_alloc ?_ _)); refine blk_far ?_ NB282_315.out _; (with_reducible repeat (first | refine blk_drewN ?_ _ | refine blk_drew ?_ | refine blk_alloc ?_ _)); refine blk_far ?_ NB282_315.out _; (with_reducible repeat (first | refine blk_drewN ?_ _ | refine blk_drew ?_ | refine blk_alloc ?_ _)); refine blk_far ?_ NB282_315.out _; (with_reducible repeat (first | refine blk_drewN ?_ _ | refine blk_drew ?_ | refine blk_alloc ?_ _)); refine blk_far ?_ NB282_315.out _; (with_reducible repeat (first | refine blk_drewN ?_ _ | refine blk_drew ?_ | refine blk_alloc ?_ _)); refine blk_far ?_ NB282_315.out _; (with_reducible repeat (first | refine blk_drewN ?_ _ | refine blk_drew ?_ | refine blk_alloc ?_ _)); refine blk_far ?_ NB282_315.out _; (with_reducible repeat (first | refine blk_drewN ?_ _ | refine blk_drew ?_ | refine blk_alloc ?_ _)); exact BK282.out) : p := h
theorem B7x14_ {p : Prop} (h : p := by (with_reducible repeat (first | refine blk_drewN ?_ _ | refine blk_drew ?_ | refine blk_alloc ?_ _)); refine blk_far ?_ NB282_370.out _; (with_reducible repeat (first | refine blk_drewN ?_ _ | refine blk_drew ?_ | refine blk_alloc ?_ _)); refine blk_far ?_ NB282_370.out _; (with_reducible repeat (first | refine blk_drewN ?_ _ | refine blk_drew ?_ | refine blk_alloc ?_ _)); refine blk_far ?_ NB282_370.out _; (with_reducible repeat (first | refine blk_drewN ?_ _ | refine blk_drew ?_ | refine blk_alloc ?_ _)); refine blk_far ?_ NB282_370.out _; (with_reducible repeat (first | refine blk_drewN ?_ _ | refine blk_drew ?_ | refine blk_alloc ?_ _)); refine blk_far ?_ NB282_370.out _; (with_reducible repeat (first | refine blk_drewN ?_ _ | refine blk_drew ?_ | refine blk_alloc ?_ _)); refine blk_far ?_ NB282_370.out _; (with_reducible repeat (first | refine blk_drewN ?_ _ | refine blk_drew ?_ | refine blk_alloc ?_ _)); refine blk_far ?_ NB282_370.out _; (with_reducible repeat (first | refine blk_drewN ?_ _ | refine blk_drew ?_ | refine blk_alloc ?_ _)); refine blk_far ?_ NB282_370.out _; (with_reducible repeat (first | refine blk_drewN ?_ _ | refine blk_drew ?_ | refine blk_alloc ?_ _)); refine blk_far ?_ NB282_370.out _; (with_reducible repeat (first | refine blk_drewN ?_ _ | refine blk_drew ?_ | refine blk_alloc ?_ _)); refine blk_far ?_ NB282_370.out _; (with_reducible repeat (first | refine blk_drewN ?_ _ | refine blk_drew ?_ | refine blk_alloc ?_ _)); refine blk_far ?_ NB282_370.out _; (with_reducible repeat (first | refine blk_drewN ?_ _ | refine blk_drew ?_ | refine blk_alloc ?_ _)); refine blk_far ?_ NB282_370.out _; (with_reducible repeat (first | refine blk_drewN ?_ _ | refine blk_drew ?_ | refine blk_alloc ?_ _)); refine blk_far ?_ NB282_370.out _; (with_reducible repeat (first | refine blk_drewN ?_ _ | refine blk_drew ?_ | refine blk_alloc ?_ _)); exact BK282.out) : p := h
theorem B7x15_ {p : Prop} (h : p := by (with_reducible repeat (first | refine blk_drewN ?_ _ | refine blk_drew ?_ | refine blk_alloc ?_ _)); refine blk_far ?_ NB298_315.out _; (with_reducible repeat (first | refine blk_drewN ?_ _ | refine blk_drew ?_ | refine blk_alloc ?_ _)); refine blk_far ?_ NB298_315.out _; (with_reducible repeat (first | refine blk_drewN ?_ _ | refine blk_drew ?_ | refine blk_alloc ?_ _)); refine blk_far ?_ NB298_315.out _; (with_reducible repeat (first | refine blk_drewN ?_ _ | refine blk_drew ?_ | refine blk_alloc ?_ _)); refine blk_far ?_ NB298_315.out _; (with_reducible repeat (first | refine blk_drewN ?_ _ | refine blk_drew ?_ | refine blk_alloc ?_ _)); refine blk_far ?_ NB298_315.out _; (with_reducible repeat (first | refine blk_drewN ?_ _ | refine blk_drew ?_ | refine blk_alloc ?_ _)); refine blk_far ?_ NB298_315.out _; (with_reducible repeat (first | refine blk_drewN ?_ _ | refine blk_drew ?_ | refine blk_alloc ?_ _)); refine blk_far ?_ NB298_315.out _; (with_reducible repeat (first | refine blk_drewN ?_ _ | refine blk_drew ?_ | refine blk_alloc ?_ _)); refine blk_far ?_ NB298_315.out _; (with_reducible repeat (first | refine blk_drewN ?_ _ | refine blk_drew ?_ | refine blk_alloc ?_ _)); refine blk_far ?_ NB298_315.out _; (with_reducible repeat (first | refine blk_drewN ?_ _ | refine blk_drew ?_ | refine blk_alloc ?_ _)); refine blk_far ?_ NB298_315.out _; (with_reducible repeat (first | refine blk_drewN ?_ _ | refine blk_drew ?_ | refine blk_alloc ?_ _)); refine blk_far ?_ NB298_315.out _; (with_reducible repeat (first | refine blk_drewN ?_ _ | refine blk_drew ?_ | refine blk_alloc ?_ _)); refine blk_far ?_ NB298_315.out _; (with_reducible repeat (first | refine blk_drewN ?_ _ | refine blk_drew ?_ | refine blk_alloc ?_ _)); refine blk_far ?_ NB298_315.out _; (with_reducible repeat (first | refine blk_drewN ?_ _ | refine blk_drew ?_ | refine blk_alloc ?_ _)); exact BK298.out) : p := h
theorem B7x16_ {p : Prop} (h : p := by (with_reducible repeat (first | refine blk_drewN ?_ _ | refine blk_drew ?_ | refine blk_alloc ?_ _)); refine blk_far ?_ NB298_370.out _; (with_reducible repeat (first | refine blk_drewN ?_ _ | refine blk_drew ?_ | refine blk_alloc ?_ _)); refine blk_far ?_ NB298_370.out _; (with_reducible repeat (first | refine blk_drewN ?_ _ | refine blk_drew ?_ | refine blk_alloc ?_ _)); refine blk_far ?_ NB298_370.out _; (with_reducible repeat (first | refine blk_drewN ?_ _ | refine blk_drew ?_ | refine blk_alloc ?_ _)); refine blk_far ?_ NB298_370.out _; (with_reducible repeat (first | refine blk_drewN ?_ _ | refine blk_drew ?_ | refine blk_alloc ?_ _)); refine blk_far ?_ NB298_370.out _; (with_reducible repeat (first | refine blk_drewN ?_ _ | refine blk_drew ?_ | refine blk_alloc ?_ _)); refine blk_far ?_ NB298_370.out _; (with_reducible repeat (first | refine blk_drewN ?_ _ | refine blk_drew ?_ | refine blk_alloc ?_ _)); refine blk_far ?_ NB298_370.out _; (with_reducible repeat (first | refine blk_drewN ?_ _ | refine blk_drew ?_ | refine blk_alloc ?_ _)); refine blk_far ?_ NB298_370.out _; (with_reducible repeat (first | refine blk_drewN ?_ _ | refine blk_drew ?_ | refine blk_alloc ?_ _)); refine blk_far ?_ NB298_370.out _; (with_reducible repeat (first | refine blk_drewN ?_ _ | refine blk_drew ?_ | refine blk_alloc ?_ _)); refine blk_far ?_ NB298_370.out _; (with_reducible repeat (first | refine blk_drewN ?_ _ | refine blk_drew ?_ | refine blk_alloc ?_ _)); refine blk_far ?_ NB298_370.out _; (with_reducible repeat (first | refine blk_drewN ?_ _ | refine blk_drew ?_ | refine blk_alloc ?_ _)); refine blk_far ?_ NB298_370.out _; (with_reducible repeat (first | refine blk_drewN ?_ _ | refine blk_drew ?_ | refine blk_alloc ?_ _)); refine blk_far ?_ NB298_370.out _; (with_reducible repeat (first | refine blk_drewN ?_ _ | refine blk_drew ?_ | refine blk_alloc ?_ _)); exact BK298.out) : p := h
theorem B7x17_ {p : Prop} (h : p := by (with_reducible repeat (first | refine blk_drewN ?_ _ | refine blk_drew ?_ | refine blk_alloc ?_ _)); refine blk_far ?_ NB315_370.out _; (with_reducible repeat (first | refine blk_drewN ?_ _ | refine blk_drew ?_ | refine blk_alloc ?_ _)); refine blk_far ?_ NB315_370.out _; (with_reducible repeat (first | refine blk_drewN ?_ _ | refine blk_drew ?_ | refine blk_alloc ?_ _)); refine blk_far ?_ NB315_370.out _; (with_reducible repeat (first | refine blk_drewN ?_ _ | refine blk_drew ?_ | refine blk_alloc ?_ _)); refine blk_far ?_ NB315_370.out _; (with_reducible repeat (first | refine blk_drewN ?_ _ | refine blk_drew ?_ | refine blk_alloc ?_ _)); refine blk_far ?_ NB315_370.out _; (with_reducible repeat (first | refine blk_drewN ?_ _ | refine blk_drew ?_ | refine blk_alloc ?_ _)); refine blk_far ?_ NB315_370.out _; (with_reducible repeat (first | refine blk_drewN ?_ _ | refine blk_drew ?_ | refine blk_alloc ?_ _)); refine blk_far ?_ NB315_370.out _; (with_reducible repeat (first | refine blk_drewN ?_ _ | refine blk_drew ?_ | refine blk_alloc ?_ _)); refine blk_far ?_ NB315_370.out _; (with_reducible repeat (first | refine blk_drewN ?_ _ | refine blk_drew ?_ | refine blk_alloc ?_ _)); refine blk_far ?_ NB315_370.out _; (with_reducible repeat (first | refine blk_drewN ?_ _ | refine blk_drew ?_ | refine blk_alloc ?_ _)); refine blk_far ?_ NB315_370.out _; (with_reducible repeat (first | refine blk_drewN ?_ _ | refine blk_drew ?_ | refine blk_alloc ?_ _)); refine blk_far ?_ NB315_370.out _; (with_reducible repeat (first | refine blk_drewN ?_ _ | refine blk_drew ?_ | refine blk_alloc ?_ _)); refine blk_far ?_ NB315_370.out _; (with_reducible repeat (first | refine blk_drewN ?_ _ | refine blk_drew ?_ | refine blk_alloc ?_ _)); refine blk_far ?_ NB315_370.out _; (with_reducible repeat (first | refine blk_drewN ?_ _ | refine blk_drew ?_ | refine blk_alloc ?_ _)); exact BK315.out) : p := h
theorem B7x18_ {p : Prop} (h : p := by (with_reducible repeat (first | refine blk_drewN ?_ _ | refine blk_drew ?_ | refine blk_alloc ?_ _)); exact BK298.out) : p := h
theorem B7x19_ {p : Prop} (h : p := by (with_reducible repeat (first | refine blk_drewN ?_ _ | refine blk_drew ?_ | refine blk_alloc ?_ _)); exact BK315.out) : p := h
theorem B7x20_ {p : Prop} (h : p := by repeat (first | (with_reducible first | exact HB.out | apply below_alloc | apply pw_below_drewN | apply below_drew1 | refine below_set ?_ GE249.out) | exact HB.out)) : p := h
theorem B7x21_ {p : Prop} (h : p := by (with_reducible repeat (first | apply Kd.R_alloc | apply Kd.R_drewN | apply Kd.R_drew)); exact HO_283009.out) : p := h
theorem B7x22_ {p : Prop} (h : p := by (with_reducible repeat (first | apply Kd.R_alloc | apply Kd.R_drewN | apply Kd.R_drew)); exact HO_299009.out) : p := h
theorem B7x23_ {p : Prop} (h : p := by (with_reducible repeat (first | apply Kd.R_alloc | apply Kd.R_drewN | apply Kd.R_drew)); exact HO_316009.out) : p := h
theorem B7x24_ {p : Prop} (h : p := by (with_reducible repeat (first | apply Kd.R_alloc | apply Kd.R_drewN | apply Kd.R_drew)); exact (Kd.R_mono (Kd.R_far (p := ⟨gb370, 12, none⟩) (Kd.R_far (p := ⟨gb370, 11, none⟩) (Kd.R_far (p := ⟨gb370, 10, none⟩) (Kd.R_far (p := ⟨gb370, 9, none⟩) (Kd.R_far (p := ⟨gb370, 8, none⟩) (Kd.R_far (p := ⟨gb370, 7, none⟩) (Kd.R_far (p := ⟨gb370, 6, none⟩) (Kd.R_far (p := ⟨gb370, 5, none⟩) (Kd.R_far (p := ⟨gb370, 4, none⟩) (Kd.R_far (p := ⟨gb370, 3, none⟩) (Kd.R_far (p := ⟨gb370, 2, none⟩) (Kd.R_far (p := ⟨gb370, 1, none⟩) (Kd.R_far (p := ⟨gb370, 0, none⟩) (Kd.R_types HO_299009.out BK370.out (by decide)) (fun _ hk => hk.2) (.int .i64 t354)) (fun _ hk => hk.2) (.int .i64 t355)) (fun _ hk => hk.2) (.int .i64 t356)) (fun _ hk => hk.2) (.int .i64 t357)) (fun _ hk => hk.2) (.string t358)) (fun _ hk => hk.2) (.int .i64 t359)) (fun _ hk => hk.2) (.int .i64 t360)) (fun _ hk => hk.2) (.bool t361)) (fun _ hk => hk.2) (.string t362)) (fun _ hk => hk.2) (.slice Ao116 t363.length co116)) (fun _ hk => hk.2) (.bool t366)) (fun _ hk => hk.2) (.int .i64 t367)) (fun _ hk => hk.2) (.int .i64 t368)) (fun _ h_ => h_.1))) : p := h
theorem B7x25_ {p : Prop} (h : p := by (with_reducible repeat (first | apply Kd.R_alloc | apply Kd.R_drewN | apply Kd.R_drew)); exact (Kd.R_mono (Kd.R_far (p := ⟨gb370, 12, none⟩) (Kd.R_far (p := ⟨gb370, 11, none⟩) (Kd.R_far (p := ⟨gb370, 10, none⟩) (Kd.R_far (p := ⟨gb370, 9, none⟩) (Kd.R_far (p := ⟨gb370, 8, none⟩) (Kd.R_far (p := ⟨gb370, 7, none⟩) (Kd.R_far (p := ⟨gb370, 6, none⟩) (Kd.R_far (p := ⟨gb370, 5, none⟩) (Kd.R_far (p := ⟨gb370, 4, none⟩) (Kd.R_far (p := ⟨gb370, 3, none⟩) (Kd.R_far (p := ⟨gb370, 2, none⟩) (Kd.R_far (p := ⟨gb370, 1, none⟩) (Kd.R_far (p := ⟨gb370, 0, none⟩) (Kd.R_types HO_316009.out BK370.out (by decide)) (fun _ hk => hk.2) (.int .i64 t354)) (fun _ hk => hk.2) (.int .i64 t355)) (fun _ hk => hk.2) (.int .i64 t356)) (fun _ hk => hk.2) (.int .i64 t357)) (fun _ hk => hk.2) (.string t358)) (fun _ hk => hk.2) (.int .i64 t359)) (fun _ hk => hk.2) (.int .i64 t360)) (fun _ hk => hk.2) (.bool t361)) (fun _ hk => hk.2) (.string t362)) (fun _ hk => hk.2) (.slice Ao116 t363.length co116)) (fun _ hk => hk.2) (.bool t366)) (fun _ hk => hk.2) (.int .i64 t367)) (fun _ hk => hk.2) (.int .i64 t368)) (fun _ h_ => h_.1))) : p := h
theorem B7x26_ {p : Prop} (h : p := by (with_reducible repeat (first | apply Kd.R_alloc | apply Kd.R_drewN | apply Kd.R_drew)); exact (Kd.R_mono (Kd.R_far (p := ⟨gb370, 12, none⟩) (Kd.R_far (p := ⟨gb370, 11, none⟩) (Kd.R_far (p := ⟨gb370, 10, none⟩) (Kd.R_far (p := ⟨gb370, 9, none⟩) (Kd.R_far (p := ⟨gb370, 8, none⟩) (Kd.R_far (p := ⟨gb370, 7, none⟩) (Kd.R_far (p := ⟨gb370, 6, none⟩) (Kd.R_far (p := ⟨gb370, 5, none⟩) (Kd.R_far (p := ⟨gb370, 4, none⟩) (Kd.R_far (p := ⟨gb370, 3, none⟩) (Kd.R_far (p := ⟨gb370, 2, none⟩) (Kd.R_far (p := ⟨gb370, 1, none⟩) (Kd.R_far (p := ⟨gb370, 0, none⟩) (Kd.R_types HO350.out BK370.out (by decide)) (fun _ hk => hk.2) (.int .i64 t354)) (fun _ hk => hk.2) (.int .i64 t355)) (fun _ hk => hk.2) (.int .i64 t356)) (fun _ hk => hk.2) (.int .i64 t357)) (fun _ hk => hk.2) (.string t358)) (fun _ hk => hk.2) (.int .i64 t359)) (fun _ hk => hk.2) (.int .i64 t360)) (fun _ hk => hk.2) (.bool t361)) (fun _ hk => hk.2) (.string t362)) (fun _ hk => hk.2) (.slice Ao116 t363.length co116)) (fun _ hk => hk.2) (.bool t366)) (fun _ hk => hk.2) (.int .i64 t367)) (fun _ hk => hk.2) (.int .i64 t368)) (fun _ h_ => h_.1))) : p := h
theorem B7x27_ {p : Prop} (h : p := by (with_reducible repeat (first | apply Kd.R_alloc | apply Kd.R_drewN | apply Kd.R_drew)); exact (Kd.R_mono (Kd.R_far (p := ⟨gb282, 12, none⟩) (Kd.R_far (p := ⟨gb282, 11, none⟩) (Kd.R_far (p := ⟨gb282, 10, none⟩) (Kd.R_far (p := ⟨gb282, 9, none⟩) (Kd.R_far (p := ⟨gb282, 8, none⟩) (Kd.R_far (p := ⟨gb282, 7, none⟩) (Kd.R_far (p := ⟨gb282, 6, none⟩) (Kd.R_far (p := ⟨gb282, 5, none⟩) (Kd.R_far (p := ⟨gb282, 4, none⟩) (Kd.R_far (p := ⟨gb282, 3, none⟩) (Kd.R_far (p := ⟨gb282, 2, none⟩) (Kd.R_far (p := ⟨gb282, 1, none⟩) (Kd.R_far (p := ⟨gb282, 0, none⟩) (Kd.R_types HO262.out BK282.out (by decide)) (fun _ hk => hk.2) (.int .i64 t266)) (fun _ hk => hk.2) (.int .i64 t267)) (fun _ hk => hk.2) (.int .i64 t268)) (fun _ hk => hk.2) (.int .i64 t269)) (fun _ hk => hk.2) (.string t270)) (fun _ hk => hk.2) (.int .i64 t271)) (fun _ hk => hk.2) (.int .i64 t272)) (fun _ hk => hk.2) (.bool t273)) (fun _ hk => hk.2) (.string t274)) (fun _ hk => hk.2) (.slice Ao22 t275.length co22)) (fun _ hk => hk.2) (.bool t278)) (fun _ hk => hk.2) (.int .i64 t279)) (fun _ hk => hk.2) (.int .i64 t280)) (fun _ h_ => h_.1))) : p := h
theorem B7x28_ {p : Prop} (h : p := by (with_reducible repeat (first | apply Kd.R_alloc | apply Kd.R_drewN | apply Kd.R_drew)); exact (Kd.R_mono (Kd.R_far (p := ⟨gb282, 12, none⟩) (Kd.R_far (p := ⟨gb282, 11, none⟩) (Kd.R_far (p := ⟨gb282, 10, none⟩) (Kd.R_far (p := ⟨gb282, 9, none⟩) (Kd.R_far (p := ⟨gb282, 8, none⟩) (Kd.R_far (p := ⟨gb282, 7, none⟩) (Kd.R_far (p := ⟨gb282, 6, none⟩) (Kd.R_far (p := ⟨gb282, 5, none⟩) (Kd.R_far (p := ⟨gb282, 4, none⟩) (Kd.R_far (p := ⟨gb282, 3, none⟩) (Kd.R_far (p := ⟨gb282, 2, none⟩) (Kd.R_far (p := ⟨gb282, 1, none⟩) (Kd.R_far (p := ⟨gb282, 0, none⟩) (Kd.R_types HO277.out BK282.out (by decide)) (fun _ hk => hk.2) (.int .i64 t266)) (fun _ hk => hk.2) (.int .i64 t267)) (fun _ hk => hk.2) (.int .i64 t268)) (fun _ hk => hk.2) (.int .i64 t269)) (fun _ hk => hk.2) (.string t270)) (fun _ hk => hk.2) (.int .i64 t271)) (fun _ hk => hk.2) (.int .i64 t272)) (fun _ hk => hk.2) (.bool t273)) (fun _ hk => hk.2) (.string t274)) (fun _ hk => hk.2) (.slice Ao22 t275.length co22)) (fun _ hk => hk.2) (.bool t278)) (fun _ hk => hk.2) (.int .i64 t279)) (fun _ hk => hk.2) (.int .i64 t280)) (fun _ h_ => h_.1))) : p := h
theorem B7x29_ {p : Prop} (h : p := by (with_reducible repeat (first | apply Kd.R_alloc | apply Kd.R_drewN | apply Kd.R_drew)); exact (Kd.R_mono (Kd.R_far (p := ⟨gb298, 12, none⟩) (Kd.R_far (p := ⟨gb298, 11, none⟩) (Kd.R_far (p := ⟨gb298, 10, none⟩) (Kd.R_far (p := ⟨gb298, 9, none⟩) (Kd.R_far (p := ⟨gb298, 8, none⟩) (Kd.R_far (p := ⟨gb298, 7, none⟩) (Kd.R_far (p := ⟨gb298, 6, none⟩) (Kd.R_far (p := ⟨gb298, 5, none⟩) (Kd.R_far (p := ⟨gb298, 4, none⟩) (Kd.R_far (p := ⟨gb298, 3, none⟩) (Kd.R_far (p := ⟨gb298, 2, none⟩) (Kd.R_far (p := ⟨gb298, 1, none⟩) (Kd.R_far (p := ⟨gb298, 0, none⟩) (Kd.R_types HO262.out BK298.out (by decide)) (fun _ hk => hk.2) (.int .i64 t283)) (fun _ hk => hk.2) (.int .i64 t284)) (fun _ hk => hk.2) (.int .i64 t285)) (fun _ hk => hk.2) (.int .i64 t286)) (fun _ hk => hk.2) (.string t287)) (fun _ hk => hk.2) (.int .i64 t288)) (fun _ hk => hk.2) (.int .i64 t289)) (fun _ hk => hk.2) (.bool t290)) (fun _ hk => hk.2) (.string t291)) (fun _ hk => hk.2) (.slice Ao29 t292.length co29)) (fun _ hk => hk.2) (.bool t295)) (fun _ hk => hk.2) (.int .i64 t296)) (fun _ hk => hk.2) (.int .i64 t297)) (fun _ h_ => h_.1))) : p := h
theorem B7x30_ {p : Prop} (h : p := by (with_reducible repeat (first | apply Kd.R_alloc | apply Kd.R_drewN | apply Kd.R_drew)); exact (Kd.R_mono (Kd.R_far (p := ⟨gb298, 12, none⟩) (Kd.R_far (p := ⟨gb298, 11, none⟩) (Kd.R_far (p := ⟨gb298, 10, none⟩) (Kd.R_far (p := ⟨gb298, 9, none⟩) (Kd.R_far (p := ⟨gb298, 8, none⟩) (Kd.R_far (p := ⟨gb298, 7, none⟩) (Kd.R_far (p := ⟨gb298, 6, none⟩) (Kd.R_far (p := ⟨gb298, 5, none⟩) (Kd.R_far (p := ⟨gb298, 4, none⟩) (Kd.R_far (p := ⟨gb298, 3, none⟩) (Kd.R_far (p := ⟨gb298, 2, none⟩) (Kd.R_far (p := ⟨gb298, 1, none⟩) (Kd.R_far (p := ⟨gb298, 0, none⟩) (Kd.R_types HO277.out BK298.out (by decide)) (fun _ hk => hk.2) (.int .i64 t283)) (fun _ hk => hk.2) (.int .i64 t284)) (fun _ hk => hk.2) (.int .i64 t285)) (fun _ hk => hk.2) (.int .i64 t286)) (fun _ hk => hk.2) (.string t287)) (fun _ hk => hk.2) (.int .i64 t288)) (fun _ hk => hk.2) (.int .i64 t289)) (fun _ hk => hk.2) (.bool t290)) (fun _ hk => hk.2) (.string t291)) (fun _ hk => hk.2) (.slice Ao29 t292.length co29)) (fun _ hk => hk.2) (.bool t295)) (fun _ hk => hk.2) (.int .i64 t296)) (fun _ hk => hk.2) (.int .i64 t297)) (fun _ h_ => h_.1))) : p := h
theorem B7x31_ {p : Prop} (h : p := by (with_reducible repeat (first | apply Kd.R_alloc | apply Kd.R_drewN | apply Kd.R_drew)); exact (Kd.R_mono (Kd.R_far (p := ⟨gb315, 12, none⟩) (Kd.R_far (p := ⟨gb315, 11, none⟩) (Kd.R_far (p := ⟨gb315, 10, none⟩) (Kd.R_far (p := ⟨gb315, 9, none⟩) (Kd.R_far (p := ⟨gb315, 8, none⟩) (Kd.R_far (p := ⟨gb315, 7, none⟩) (Kd.R_far (p := ⟨gb315, 6, none⟩) (Kd.R_far (p := ⟨gb315, 5, none⟩) (Kd.R_far (p := ⟨gb315, 4, none⟩) (Kd.R_far (p := ⟨gb315, 3, none⟩) (Kd.R_far (p := ⟨gb315, 2, none⟩) (Kd.R_far (p := ⟨gb315, 1, none⟩) (Kd.R_far (p := ⟨gb315, 0, none⟩) (Kd.R_types HO262.out BK315.out (by decide)) (fun _ hk => hk.2) (.int .i64 t299)) (fun _ hk => hk.2) (.int .i64 t300)) (fun _ hk => hk.2) (.int .i64 t301)) (fun _ hk => hk.2) (.int .i64 t302)) (fun _ hk => hk.2) (.string t303)) (fun _ hk => hk.2) (.int .i64 t304)) (fun _ hk => hk.2) (.int .i64 t305)) (fun _ hk => hk.2) (.bool t306)) (fun _ hk => hk.2) (.string t307)) (fun _ hk => hk.2) (.slice Ao36 t308.length co36)) (fun _ hk => hk.2) (.bool t311)) (fun _ hk => hk.2) (.int .i64 t312)) (fun _ hk => hk.2) (.int .i64 t313)) (fun _ h_ => h_.1))) : p := h
theorem B7x32_ {p : Prop} (h : p := by (with_reducible repeat (first | apply Kd.R_alloc | apply Kd.R_drewN | apply Kd.R_drew)); exact (Kd.R_mono (Kd.R_far (p := ⟨gb315, 12, none⟩) (Kd.R_far (p := ⟨gb315, 11, none⟩) (Kd.R_far (p := ⟨gb315, 10, none⟩) (Kd.R_far (p := ⟨gb315, 9, none⟩) (Kd.R_far (p := ⟨gb315, 8, none⟩) (Kd.R_far (p := ⟨gb315, 7, none⟩) (Kd.R_far (p := ⟨gb315, 6, none⟩) (Kd.R_far (p := ⟨gb315, 5, none⟩) (Kd.R_far (p := ⟨gb315, 4, none⟩) (Kd.R_far (p := ⟨gb315, 3, none⟩) (Kd.R_far (p := ⟨gb315, 2, none⟩) (Kd.R_far (p := ⟨gb315, 1, none⟩) (Kd.R_far (p := ⟨gb315, 0, none⟩) (Kd.R_types HO294.out BK315.out (by decide)) (fun _ hk => hk.2) (.int .i64 t299)) (fun _ hk => hk.2) (.int .i64 t300)) (fun _ hk => hk.2) (.int .i64 t301)) (fun _ hk => hk.2) (.int .i64 t302)) (fun _ hk => hk.2) (.string t303)) (fun _ hk => hk.2) (.int .i64 t304)) (fun _ hk => hk.2) (.int .i64 t305)) (fun _ hk => hk.2) (.bool t306)) (fun _ hk => hk.2) (.string t307)) (fun _ hk => hk.2) (.slice Ao36 t308.length co36)) (fun _ hk => hk.2) (.bool t311)) (fun _ hk => hk.2) (.int .i64 t312)) (fun _ hk => hk.2) (.int .i64 t313)) (fun _ h_ => h_.1))) : p := h
theorem B7x33_ {p : Prop} (h : p := by repeat (first | (with_reducible first | exact HB.out | apply below_alloc | apply pw_below_drewN | apply below_drew1 | refine below_set ?_ GE249.out | refine below_set ?_ GE282.out) | exact HB.out)) : p := h
theorem B7x34_ {p : Prop} (h : p := by repeat (first | (with_reducible first | exact HB.out | apply below_alloc | apply pw_below_drewN | apply below_drew1 | refine below_set ?_ GE249.out | refine below_set ?_ GE282.out | refine below_set ?_ GE298.out) | exact HB.out)) : p := h
theorem B7x35_ {p : Prop} (h : p := by repeat (first | (with_reducible first | exact HB.out | apply below_alloc | apply pw_below_drewN | apply below_drew1) | exact HB.out)) : p := h
theorem B7x36_ {p : Prop} (h : p := by repeat (first | (with_reducible first | exact HB.out | apply below_alloc | apply pw_below_drewN | apply below_drew1 | refine below_set ?_ GE249.out | refine below_set ?_ GE282.out | refine below_set ?_ GE298.out | refine below_set ?_ GE315.out | refine below_set ?_ GE370.out) | exact HB.out)) : p := h
theorem B7x37_ {p : Prop} (h : p := by (with_reducible repeat (first | apply Kd.R_alloc | apply Kd.R_drewN | apply Kd.R_drew)); exact HO262.out) : p := h
theorem B7x38_ {p : Prop} (h : p := by kernel_rfl) : p := h
theorem B7x39_ {p : Prop} (h : p := by (with_reducible repeat (first | apply Kd.R_alloc | apply Kd.R_drewN | apply Kd.R_drew)); exact HO277.out) : p := h
theorem B7x40_ {p : Prop} (h : p := by (with_reducible repeat (first | apply Kd.R_alloc | apply Kd.R_drewN | apply Kd.R_drew)); exact HO328.out) : p := h
theorem B7x41_ {p : Prop} (h : p := by (with_reducible repeat (first | apply Kd.R_alloc | apply Kd.R_drewN | apply Kd.R_drew)); exact HO350.out) : p := h
theorem B7x42_ {p : Prop} (h : p := by (with_reducible repeat (first | apply Kd.R_alloc | apply Kd.R_drewN | apply Kd.R_drew)); exact HO294.out) : p := h
/-! ### laws_FnExactShut: function 11 -/
mutual
def laws_FnExactShut.j0 : Nat → Bool → Bool → Bool → Int → Int → Int → Int → ByteArray → Int → Int → Bool → ByteArray → List (S170) → Bool → Int → Int → Int → Int → Int → Int → ByteArray → Int → Int → Bool → ByteArray → List (S112) → Bool → Int → Int → Int → Int → Int → Int → ByteArray → Int → Int → Bool → ByteArray → List (S112) → Bool → Int → Int → Int → Int → Int → Int → ByteArray → Int → Int → Bool → ByteArray → List (S112) → Bool → Int → Int → Option (Bool)
 | 0, _, _, _, _, _, _, _, _, _, _, _, _, _, _, _, _, _, _, _, _, _, _, _, _, _, _, _, _, _, _, _, _, _, _, _, _, _, _, _, _, _, _, _, _, _, _, _, _, _, _, _, _, _, _, _ => none
 | k + 1, x5, x8, x40, x250000, x250001, x250002, x250003, x250004, x250005, x250006, x250007, x250008, x250009, x250010, x250011, x250012, x283000, x283001, x283002, x283003, x283004, x283005, x283006, x283007, x283008, x283009, x283010, x283011, x283012, x299000, x299001, x299002, x299003, x299004, x299005, x299006, x299007, x299008, x299009, x299010, x299011, x299012, x316000, x316001, x316002, x316003, x316004, x316005, x316006, x316007, x316008, x316009, x316010, x316011, x316012 => if x40 = true then (some false) else ((laws_toStream.f k x250000 x250001 x250002 x250003 x250004 x250005 x250006 x250007 x250008 x250009 x250010 x250011 x250012).bind fun bt317 => ((laws_eqStream.f k x299000 x299001 x299002 x299003 x299004 x299005 x299006 x299007 x299008 x299009 x299010 x299011 x299012 bt317.1 bt317.2.1 bt317.2.2.1 bt317.2.2.2.1 bt317.2.2.2.2.1 bt317.2.2.2.2.2.1 bt317.2.2.2.2.2.2.1 bt317.2.2.2.2.2.2.2.1 bt317.2.2.2.2.2.2.2.2.1 bt317.2.2.2.2.2.2.2.2.2.1 bt317.2.2.2.2.2.2.2.2.2.2.1 bt317.2.2.2.2.2.2.2.2.2.2.2.1 bt317.2.2.2.2.2.2.2.2.2.2.2.2).bind fun t332 => (if t332 = true then ((laws_markStream.f k x299000 x299001 x299002 x299003 x299004 x299005 x299006 x299007 x299008 x299009 x299010 x299011 x299012 1).bind fun bt333 => (if bt333.1 < 0 then (laws_FnExactShut.j1 k x5 true x250000 x250001 x250002 x250003 x250004 x250005 x250006 x250007 x250008 x250009 x250010 x250011 x250012 x283000 x283001 x283002 x283003 x283004 x283005 x283006 x283007 x283008 x283009 x283010 x283011 x283012 x316000 x316001 x316002 x316003 x316004 x316005 x316006 x316007 x316008 x316009 x316010 x316011 x316012) else ((laws_eqStream.f k x316000 x316001 x316002 x316003 x316004 x316005 x316006 x316007 x316008 x316009 x316010 x316011 x316012 x283000 x283001 x283002 x283003 x283004 x283005 x283006 x283007 x283008 x283009 x283010 x283011 x283012).bind fun t335 => (if t335 = true then (laws_FnExactShut.j1 k x5 (x8 != x5) x250000 x250001 x250002 x250003 x250004 x250005 x250006 x250007 x250008 x250009 x250010 x250011 x250012 x283000 x283001 x283002 x283003 x283004 x283005 x283006 x283007 x283008 x283009 x283010 x283011 x283012 x316000 x316001 x316002 x316003 x316004 x316005 x316006 x316007 x316008 x316009 x316010 x316011 x316012) else (laws_FnExactShut.j1 k x5 true x250000 x250001 x250002 x250003 x250004 x250005 x250006 x250007 x250008 x250009 x250010 x250011 x250012 x283000 x283001 x283002 x283003 x283004 x283005 x283006 x283007 x283008 x283009 x283010 x283011 x283012 x316000 x316001 x316002 x316003 x316004 x316005 x316006 x316007 x316008 x316009 x316010 x316011 x316012))))) else (some false))))
def laws_FnExactShut.j1 : Nat → Bool → Bool → Int → Int → Int → Int → ByteArray → Int → Int → Bool → ByteArray → List (S170) → Bool → Int → Int → Int → Int → Int → Int → ByteArray → Int → Int → Bool → ByteArray → List (S112) → Bool → Int → Int → Int → Int → Int → Int → ByteArray → Int → Int → Bool → ByteArray → List (S112) → Bool → Int → Int → Option (Bool)
 | 0, _, _, _, _, _, _, _, _, _, _, _, _, _, _, _, _, _, _, _, _, _, _, _, _, _, _, _, _, _, _, _, _, _, _, _, _, _, _, _, _, _ => none
 | k + 1, x5, x61, x250000, x250001, x250002, x250003, x250004, x250005, x250006, x250007, x250008, x250009, x250010, x250011, x250012, x283000, x283001, x283002, x283003, x283004, x283005, x283006, x283007, x283008, x283009, x283010, x283011, x283012, x316000, x316001, x316002, x316003, x316004, x316005, x316006, x316007, x316008, x316009, x316010, x316011, x316012 => if x61 = true then (some false) else ((laws_markStream.f k x316000 x316001 x316002 x316003 x316004 x316005 x316006 x316007 x316008 x316009 x316010 x316011 x316012 1).bind fun bt336 => ((laws_heldStream.f k x316000 x316001 x316002 x316003 x316004 x316005 x316006 x316007 x316008 bt336.2 x316010 x316011 x316012 1).bind fun t338 => (if t338 < 0 then (some false) else (if t338 = bt336.1 then ((laws_toStream.f k x250000 x250001 x250002 x250003 x250004 x250005 x250006 x250007 x250008 x250009 x250010 x250011 x250012).bind fun bt339 => ((impl_Shut.f k bt339.1 bt339.2.1 bt339.2.2.1 bt339.2.2.2.1 bt339.2.2.2.2.1 bt339.2.2.2.2.2.1 bt339.2.2.2.2.2.2.1 bt339.2.2.2.2.2.2.2.1 bt339.2.2.2.2.2.2.2.2.1 bt339.2.2.2.2.2.2.2.2.2.1 bt339.2.2.2.2.2.2.2.2.2.2.1 bt339.2.2.2.2.2.2.2.2.2.2.2.1 bt339.2.2.2.2.2.2.2.2.2.2.2.2).bind fun bt354 => ((laws_eqStream.f k bt354.1 bt354.2.1 bt354.2.2.1 bt354.2.2.2.1 bt354.2.2.2.2.1 bt354.2.2.2.2.2.1 bt354.2.2.2.2.2.2.1 bt354.2.2.2.2.2.2.2.1 bt354.2.2.2.2.2.2.2.2.1 bt354.2.2.2.2.2.2.2.2.2.1 bt354.2.2.2.2.2.2.2.2.2.2.1 bt354.2.2.2.2.2.2.2.2.2.2.2.1 bt354.2.2.2.2.2.2.2.2.2.2.2.2.1 x283000 x283001 x283002 x283003 x283004 x283005 x283006 x283007 x283008 x283009 x283010 x283011 x283012).bind fun t371 => (if t371 = true then (laws_FnExactShut.j2 k bt336.1 (bt354.2.2.2.2.2.2.2.2.2.2.2.2.2 != x5) x316000 x316001 x316002 x316003 x316004 x316005 x316006 x316007 x316008 bt336.2 x316010 x316011 x316012) else (laws_FnExactShut.j2 k bt336.1 true x316000 x316001 x316002 x316003 x316004 x316005 x316006 x316007 x316008 bt336.2 x316010 x316011 x316012))))) else (some false)))))
def laws_FnExactShut.j2 : Nat → Int → Bool → Int → Int → Int → Int → ByteArray → Int → Int → Bool → ByteArray → List (S112) → Bool → Int → Int → Option (Bool)
 | 0, _, _, _, _, _, _, _, _, _, _, _, _, _, _, _ => none
 | k + 1, x10, x87, x316000, x316001, x316002, x316003, x316004, x316005, x316006, x316007, x316008, x316009, x316010, x316011, x316012 => if x87 = true then (some false) else ((laws_heldStream.f k x316000 x316001 x316002 x316003 x316004 x316005 x316006 x316007 x316008 x316009 x316010 x316011 x316012 1).bind fun t372 => (if t372 < 0 then (some false) else (if t372 = x10 then (some true) else (some false))))
end
def laws_FnExactShut.f (k : Nat) (a0_0 : Int) (a0_1 : Int) (a0_2 : Int) (a0_3 : Int) (a0_4 : ByteArray) (a0_5 : Int) (a0_6 : Int) (a0_7 : Bool) (a0_8 : ByteArray) (l0_9 : List (S170)) (a0_10 : Bool) (a0_11 : Int) (a0_12 : Int) : Option (Bool) := (laws_szStream.f k a0_0 a0_1 a0_2 a0_3 a0_4 a0_5 a0_6 a0_7 a0_8 l0_9 a0_10 a0_11 a0_12 1048576).bind fun t250 => (if t250 < 0 then (some true) else ((laws_toStream.f k a0_0 a0_1 a0_2 a0_3 a0_4 a0_5 a0_6 a0_7 a0_8 l0_9 a0_10 a0_11 a0_12).bind fun bt251 => ((spec_Shut.f k bt251.1 bt251.2.1 bt251.2.2.1 bt251.2.2.2.1 bt251.2.2.2.2.1 bt251.2.2.2.2.2.1 bt251.2.2.2.2.2.2.1 bt251.2.2.2.2.2.2.2.1 bt251.2.2.2.2.2.2.2.2.1 bt251.2.2.2.2.2.2.2.2.2.1 bt251.2.2.2.2.2.2.2.2.2.2.1 bt251.2.2.2.2.2.2.2.2.2.2.2.1 bt251.2.2.2.2.2.2.2.2.2.2.2.2).bind fun bt266 => ((laws_toStream.f k a0_0 a0_1 a0_2 a0_3 a0_4 a0_5 a0_6 a0_7 a0_8 l0_9 a0_10 a0_11 a0_12).bind fun bt283 => ((impl_Shut.f k bt283.1 bt283.2.1 bt283.2.2.1 bt283.2.2.2.1 bt283.2.2.2.2.1 bt283.2.2.2.2.2.1 bt283.2.2.2.2.2.2.1 bt283.2.2.2.2.2.2.2.1 bt283.2.2.2.2.2.2.2.2.1 bt283.2.2.2.2.2.2.2.2.2.1 bt283.2.2.2.2.2.2.2.2.2.2.1 bt283.2.2.2.2.2.2.2.2.2.2.2.1 bt283.2.2.2.2.2.2.2.2.2.2.2.2).bind fun bt299 => ((laws_eqStream.f k bt299.1 bt299.2.1 bt299.2.2.1 bt299.2.2.2.1 bt299.2.2.2.2.1 bt299.2.2.2.2.2.1 bt299.2.2.2.2.2.2.1 bt299.2.2.2.2.2.2.2.1 bt299.2.2.2.2.2.2.2.2.1 bt299.2.2.2.2.2.2.2.2.2.1 bt299.2.2.2.2.2.2.2.2.2.2.1 bt299.2.2.2.2.2.2.2.2.2.2.2.1 bt299.2.2.2.2.2.2.2.2.2.2.2.2.1 bt266.1 bt266.2.1 bt266.2.2.1 bt266.2.2.2.1 bt266.2.2.2.2.1 bt266.2.2.2.2.2.1 bt266.2.2.2.2.2.2.1 bt266.2.2.2.2.2.2.2.1 bt266.2.2.2.2.2.2.2.2.1 bt266.2.2.2.2.2.2.2.2.2.1 bt266.2.2.2.2.2.2.2.2.2.2.1 bt266.2.2.2.2.2.2.2.2.2.2.2.1 bt266.2.2.2.2.2.2.2.2.2.2.2.2.1).bind fun t316 => (if t316 = true then (laws_FnExactShut.j0 k bt266.2.2.2.2.2.2.2.2.2.2.2.2.2 bt299.2.2.2.2.2.2.2.2.2.2.2.2.2 (bt299.2.2.2.2.2.2.2.2.2.2.2.2.2 != bt266.2.2.2.2.2.2.2.2.2.2.2.2.2) a0_0 a0_1 a0_2 a0_3 a0_4 a0_5 a0_6 a0_7 a0_8 l0_9 a0_10 a0_11 a0_12 bt266.1 bt266.2.1 bt266.2.2.1 bt266.2.2.2.1 bt266.2.2.2.2.1 bt266.2.2.2.2.2.1 bt266.2.2.2.2.2.2.1 bt266.2.2.2.2.2.2.2.1 bt266.2.2.2.2.2.2.2.2.1 bt266.2.2.2.2.2.2.2.2.2.1 bt266.2.2.2.2.2.2.2.2.2.2.1 bt266.2.2.2.2.2.2.2.2.2.2.2.1 bt266.2.2.2.2.2.2.2.2.2.2.2.2.1 bt283.1 bt283.2.1 bt283.2.2.1 bt283.2.2.2.1 bt283.2.2.2.2.1 bt283.2.2.2.2.2.1 bt283.2.2.2.2.2.2.1 bt283.2.2.2.2.2.2.2.1 bt283.2.2.2.2.2.2.2.2.1 bt283.2.2.2.2.2.2.2.2.2.1 bt283.2.2.2.2.2.2.2.2.2.2.1 bt283.2.2.2.2.2.2.2.2.2.2.2.1 bt283.2.2.2.2.2.2.2.2.2.2.2.2 bt299.1 bt299.2.1 bt299.2.2.1 bt299.2.2.2.1 bt299.2.2.2.2.1 bt299.2.2.2.2.2.1 bt299.2.2.2.2.2.2.1 bt299.2.2.2.2.2.2.2.1 bt299.2.2.2.2.2.2.2.2.1 bt299.2.2.2.2.2.2.2.2.2.1 bt299.2.2.2.2.2.2.2.2.2.2.1 bt299.2.2.2.2.2.2.2.2.2.2.2.1 bt299.2.2.2.2.2.2.2.2.2.2.2.2.1) else (laws_FnExactShut.j0 k bt266.2.2.2.2.2.2.2.2.2.2.2.2.2 bt299.2.2.2.2.2.2.2.2.2.2.2.2.2 true a0_0 a0_1 a0_2 a0_3 a0_4 a0_5 a0_6 a0_7 a0_8 l0_9 a0_10 a0_11 a0_12 bt266.1 bt266.2.1 bt266.2.2.1 bt266.2.2.2.1 bt266.2.2.2.2.1 bt266.2.2.2.2.2.1 bt266.2.2.2.2.2.2.1 bt266.2.2.2.2.2.2.2.1 bt266.2.2.2.2.2.2.2.2.1 bt266.2.2.2.2.2.2.2.2.2.1 bt266.2.2.2.2.2.2.2.2.2.2.1 bt266.2.2.2.2.2.2.2.2.2.2.2.1 bt266.2.2.2.2.2.2.2.2.2.2.2.2.1 bt283.1 bt283.2.1 bt283.2.2.1 bt283.2.2.2.1 bt283.2.2.2.2.1 bt283.2.2.2.2.2.1 bt283.2.2.2.2.2.2.1 bt283.2.2.2.2.2.2.2.1 bt283.2.2.2.2.2.2.2.2.1 bt283.2.2.2.2.2.2.2.2.2.1 bt283.2.2.2.2.2.2.2.2.2.2.1 bt283.2.2.2.2.2.2.2.2.2.2.2.1 bt283.2.2.2.2.2.2.2.2.2.2.2.2 bt299.1 bt299.2.1 bt299.2.2.1 bt299.2.2.2.1 bt299.2.2.2.2.1 bt299.2.2.2.2.2.1 bt299.2.2.2.2.2.2.1 bt299.2.2.2.2.2.2.2.1 bt299.2.2.2.2.2.2.2.2.1 bt299.2.2.2.2.2.2.2.2.2.1 bt299.2.2.2.2.2.2.2.2.2.2.1 bt299.2.2.2.2.2.2.2.2.2.2.2.1 bt299.2.2.2.2.2.2.2.2.2.2.2.2.1))))))))
theorem laws_FnExactShut.mono_l : ∀ k, (∀ y0 y1 y2 y3 y4 y5 y6 y7 y8 y9 y10 y11 y12 y13 y14 y15 y16 y17 y18 y19 y20 y21 y22 y23 y24 y25 y26 y27 y28 y29 y30 y31 y32 y33 y34 y35 y36 y37 y38 y39 y40 y41 y42 y43 y44 y45 y46 y47 y48 y49 y50 y51 y52 y53 y54, LeO (laws_FnExactShut.j0 k y0 y1 y2 y3 y4 y5 y6 y7 y8 y9 y10 y11 y12 y13 y14 y15 y16 y17 y18 y19 y20 y21 y22 y23 y24 y25 y26 y27 y28 y29 y30 y31 y32 y33 y34 y35 y36 y37 y38 y39 y40 y41 y42 y43 y44 y45 y46 y47 y48 y49 y50 y51 y52 y53 y54) (laws_FnExactShut.j0 (k + 1) y0 y1 y2 y3 y4 y5 y6 y7 y8 y9 y10 y11 y12 y13 y14 y15 y16 y17 y18 y19 y20 y21 y22 y23 y24 y25 y26 y27 y28 y29 y30 y31 y32 y33 y34 y35 y36 y37 y38 y39 y40 y41 y42 y43 y44 y45 y46 y47 y48 y49 y50 y51 y52 y53 y54)) ∧ (∀ y0 y1 y2 y3 y4 y5 y6 y7 y8 y9 y10 y11 y12 y13 y14 y15 y16 y17 y18 y19 y20 y21 y22 y23 y24 y25 y26 y27 y28 y29 y30 y31 y32 y33 y34 y35 y36 y37 y38 y39 y40, LeO (laws_FnExactShut.j1 k y0 y1 y2 y3 y4 y5 y6 y7 y8 y9 y10 y11 y12 y13 y14 y15 y16 y17 y18 y19 y20 y21 y22 y23 y24 y25 y26 y27 y28 y29 y30 y31 y32 y33 y34 y35 y36 y37 y38 y39 y40) (laws_FnExactShut.j1 (k + 1) y0 y1 y2 y3 y4 y5 y6 y7 y8 y9 y10 y11 y12 y13 y14 y15 y16 y17 y18 y19 y20 y21 y22 y23 y24 y25 y26 y27 y28 y29 y30 y31 y32 y33 y34 y35 y36 y37 y38 y39 y40)) ∧ (∀ y0 y1 y2 y3 y4 y5 y6 y7 y8 y9 y10 y11 y12 y13 y14, LeO (laws_FnExactShut.j2 k y0 y1 y2 y3 y4 y5 y6 y7 y8 y9 y10 y11 y12 y13 y14) (laws_FnExactShut.j2 (k + 1) y0 y1 y2 y3 y4 y5 y6 y7 y8 y9 y10 y11 y12 y13 y14))
 | 0 => ⟨fun _ _ _ _ _ _ _ _ _ _ _ _ _ _ _ _ _ _ _ _ _ _ _ _ _ _ _ _ _ _ _ _ _ _ _ _ _ _ _ _ _ _ _ _ _ _ _ _ _ _ _ _ _ _ _ r h => by simp [laws_FnExactShut.j0] at h, fun _ _ _ _ _ _ _ _ _ _ _ _ _ _ _ _ _ _ _ _ _ _ _ _ _ _ _ _ _ _ _ _ _ _ _ _ _ _ _ _ _ r h => by simp [laws_FnExactShut.j1] at h, fun _ _ _ _ _ _ _ _ _ _ _ _ _ _ _ r h => by simp [laws_FnExactShut.j2] at h⟩
 | k + 1 => by
  obtain ⟨ih0, ih1, ih2⟩ := laws_FnExactShut.mono_l k
  refine ⟨?_, ?_, ?_⟩
  ·intro y0 y1 y2 y3 y4 y5 y6 y7 y8 y9 y10 y11 y12 y13 y14 y15 y16 y17 y18 y19 y20 y21 y22 y23 y24 y25 y26 y27 y28 y29 y30 y31 y32 y33 y34 y35 y36 y37 y38 y39 y40 y41 y42 y43 y44 y45 y46 y47 y48 y49 y50 y51 y52 y53 y54
   unfold laws_FnExactShut.j0
   repeat' first
   | (with_reducible exact ih0 _ _ _ _ _ _ _ _ _ _ _ _ _ _ _ _ _ _ _ _ _ _ _ _ _ _ _ _ _ _ _ _ _ _ _ _ _ _ _ _ _ _ _ _ _ _ _ _ _ _ _ _ _ _ _)
   | (with_reducible exact ih1 _ _ _ _ _ _ _ _ _ _ _ _ _ _ _ _ _ _ _ _ _ _ _ _ _ _ _ _ _ _ _ _ _ _ _ _ _ _ _ _ _)
   | (with_reducible exact ih2 _ _ _ _ _ _ _ _ _ _ _ _ _ _ _)
   | (with_reducible exact impl_Shut.mono _ _ _ _ _ _ _ _ _ _ _ _ _ _)
   | (with_reducible exact laws_eqStream.mono _ _ _ _ _ _ _ _ _ _ _ _ _ _ _ _ _ _ _ _ _ _ _ _ _ _ _)
   | (with_reducible exact laws_heldStream.mono _ _ _ _ _ _ _ _ _ _ _ _ _ _ _)
   | (with_reducible exact laws_markStream.mono _ _ _ _ _ _ _ _ _ _ _ _ _ _ _)
   | (with_reducible exact laws_szStream.mono _ _ _ _ _ _ _ _ _ _ _ _ _ _ _)
   | (with_reducible exact laws_toStream.mono _ _ _ _ _ _ _ _ _ _ _ _ _ _)
   | (with_reducible exact spec_Shut.mono _ _ _ _ _ _ _ _ _ _ _ _ _ _)
   | (with_reducible exact LeO.refl _)
   | (with_reducible exact LeO.none _)
   | (with_reducible refine LeO.ite ?_ ?_)
   | (with_reducible refine LeO.bind ?_ (fun _ => ?_))
   | exact ih0 _ _ _ _ _ _ _ _ _ _ _ _ _ _ _ _ _ _ _ _ _ _ _ _ _ _ _ _ _ _ _ _ _ _ _ _ _ _ _ _ _ _ _ _ _ _ _ _ _ _ _ _ _ _ _
   | exact ih1 _ _ _ _ _ _ _ _ _ _ _ _ _ _ _ _ _ _ _ _ _ _ _ _ _ _ _ _ _ _ _ _ _ _ _ _ _ _ _ _ _
   | exact ih2 _ _ _ _ _ _ _ _ _ _ _ _ _ _ _
   | exact impl_Shut.mono _ _ _ _ _ _ _ _ _ _ _ _ _ _
   | exact laws_eqStream.mono _ _ _ _ _ _ _ _ _ _ _ _ _ _ _ _ _ _ _ _ _ _ _ _ _ _ _
   | exact laws_heldStream.mono _ _ _ _ _ _ _ _ _ _ _ _ _ _ _
   | exact laws_markStream.mono _ _ _ _ _ _ _ _ _ _ _ _ _ _ _
   | exact laws_szStream.mono _ _ _ _ _ _ _ _ _ _ _ _ _ _ _
   | exact laws_toStream.mono _ _ _ _ _ _ _ _ _ _ _ _ _ _
   | exact spec_Shut.mono _ _ _ _ _ _ _ _ _ _ _ _ _ _
   | exact LeO.none _
   | refine LeO.ite ?_ ?_
   | refine LeO.bind ?_ (fun _ => ?_)
  ·intro y0 y1 y2 y3 y4 y5 y6 y7 y8 y9 y10 y11 y12 y13 y14 y15 y16 y17 y18 y19 y20 y21 y22 y23 y24 y25 y26 y27 y28 y29 y30 y31 y32 y33 y34 y35 y36 y37 y38 y39 y40
   unfold laws_FnExactShut.j1
   repeat' first
   | (with_reducible exact ih0 _ _ _ _ _ _ _ _ _ _ _ _ _ _ _ _ _ _ _ _ _ _ _ _ _ _ _ _ _ _ _ _ _ _ _ _ _ _ _ _ _ _ _ _ _ _ _ _ _ _ _ _ _ _ _)
   | (with_reducible exact ih1 _ _ _ _ _ _ _ _ _ _ _ _ _ _ _ _ _ _ _ _ _ _ _ _ _ _ _ _ _ _ _ _ _ _ _ _ _ _ _ _ _)
   | (with_reducible exact ih2 _ _ _ _ _ _ _ _ _ _ _ _ _ _ _)
   | (with_reducible exact impl_Shut.mono _ _ _ _ _ _ _ _ _ _ _ _ _ _)
   | (with_reducible exact laws_eqStream.mono _ _ _ _ _ _ _ _ _ _ _ _ _ _ _ _ _ _ _ _ _ _ _ _ _ _ _)
   | (with_reducible exact laws_heldStream.mono _ _ _ _ _ _ _ _ _ _ _ _ _ _ _)
   | (with_reducible exact laws_markStream.mono _ _ _ _ _ _ _ _ _ _ _ _ _ _ _)
   | (with_reducible exact laws_szStream.mono _ _ _ _ _ _ _ _ _ _ _ _ _ _ _)
   | (with_reducible exact laws_toStream.mono _ _ _ _ _ _ _ _ _ _ _ _ _ _)
   | (with_reducible exact spec_Shut.mono _ _ _ _ _ _ _ _ _ _ _ _ _ _)
   | (with_reducible exact LeO.refl _)
   | (with_reducible exact LeO.none _)
   | (with_reducible refine LeO.ite ?_ ?_)
   | (with_reducible refine LeO.bind ?_ (fun _ => ?_))
   | exact ih0 _ _ _ _ _ _ _ _ _ _ _ _ _ _ _ _ _ _ _ _ _ _ _ _ _ _ _ _ _ _ _ _ _ _ _ _ _ _ _ _ _ _ _ _ _ _ _ _ _ _ _ _ _ _ _
   | exact ih1 _ _ _ _ _ _ _ _ _ _ _ _ _ _ _ _ _ _ _ _ _ _ _ _ _ _ _ _ _ _ _ _ _ _ _ _ _ _ _ _ _
   | exact ih2 _ _ _ _ _ _ _ _ _ _ _ _ _ _ _
   | exact impl_Shut.mono _ _ _ _ _ _ _ _ _ _ _ _ _ _
   | exact laws_eqStream.mono _ _ _ _ _ _ _ _ _ _ _ _ _ _ _ _ _ _ _ _ _ _ _ _ _ _ _
   | exact laws_heldStream.mono _ _ _ _ _ _ _ _ _ _ _ _ _ _ _
   | exact laws_markStream.mono _ _ _ _ _ _ _ _ _ _ _ _ _ _ _
   | exact laws_szStream.mono _ _ _ _ _ _ _ _ _ _ _ _ _ _ _
   | exact laws_toStream.mono _ _ _ _ _ _ _ _ _ _ _ _ _ _
   | exact spec_Shut.mono _ _ _ _ _ _ _ _ _ _ _ _ _ _
   | exact LeO.none _
   | refine LeO.ite ?_ ?_
   | refine LeO.bind ?_ (fun _ => ?_)
  ·intro y0 y1 y2 y3 y4 y5 y6 y7 y8 y9 y10 y11 y12 y13 y14
   unfold laws_FnExactShut.j2
   repeat' first
   | (with_reducible exact ih0 _ _ _ _ _ _ _ _ _ _ _ _ _ _ _ _ _ _ _ _ _ _ _ _ _ _ _ _ _ _ _ _ _ _ _ _ _ _ _ _ _ _ _ _ _ _ _ _ _ _ _ _ _ _ _)
   | (with_reducible exact ih1 _ _ _ _ _ _ _ _ _ _ _ _ _ _ _ _ _ _ _ _ _ _ _ _ _ _ _ _ _ _ _ _ _ _ _ _ _ _ _ _ _)
   | (with_reducible exact ih2 _ _ _ _ _ _ _ _ _ _ _ _ _ _ _)
   | (with_reducible exact impl_Shut.mono _ _ _ _ _ _ _ _ _ _ _ _ _ _)
   | (with_reducible exact laws_eqStream.mono _ _ _ _ _ _ _ _ _ _ _ _ _ _ _ _ _ _ _ _ _ _ _ _ _ _ _)
   | (with_reducible exact laws_heldStream.mono _ _ _ _ _ _ _ _ _ _ _ _ _ _ _)
   | (with_reducible exact laws_markStream.mono _ _ _ _ _ _ _ _ _ _ _ _ _ _ _)
   | (with_reducible exact laws_szStream.mono _ _ _ _ _ _ _ _ _ _ _ _ _ _ _)
   | (with_reducible exact laws_toStream.mono _ _ _ _ _ _ _ _ _ _ _ _ _ _)
   | (with_reducible exact spec_Shut.mono _ _ _ _ _ _ _ _ _ _ _ _ _ _)
   | (with_reducible exact LeO.refl _)
   | (with_reducible exact LeO.none _)
   | (with_reducible refine LeO.ite ?_ ?_)
   | (with_reducible refine LeO.bind ?_ (fun _ => ?_))
   | exact ih0 _ _ _ _ _ _ _ _ _ _ _ _ _ _ _ _ _ _ _ _ _ _ _ _ _ _ _ _ _ _ _ _ _ _ _ _ _ _ _ _ _ _ _ _ _ _ _ _ _ _ _ _ _ _ _
   | exact ih1 _ _ _ _ _ _ _ _ _ _ _ _ _ _ _ _ _ _ _ _ _ _ _ _ _ _ _ _ _ _ _ _ _ _ _ _ _ _ _ _ _
   | exact ih2 _ _ _ _ _ _ _ _ _ _ _ _ _ _ _
   | exact impl_Shut.mono _ _ _ _ _ _ _ _ _ _ _ _ _ _
   | exact laws_eqStream.mono _ _ _ _ _ _ _ _ _ _ _ _ _ _ _ _ _ _ _ _ _ _ _ _ _ _ _
   | exact laws_heldStream.mono _ _ _ _ _ _ _ _ _ _ _ _ _ _ _
   | exact laws_markStream.mono _ _ _ _ _ _ _ _ _ _ _ _ _ _ _
   | exact laws_szStream.mono _ _ _ _ _ _ _ _ _ _ _ _ _ _ _
   | exact laws_toStream.mono _ _ _ _ _ _ _ _ _ _ _ _ _ _
   | exact spec_Shut.mono _ _ _ _ _ _ _ _ _ _ _ _ _ _
   | exact LeO.none _
   | refine LeO.ite ?_ ?_
   | refine LeO.bind ?_ (fun _ => ?_)
theorem laws_FnExactShut.mono : ∀ a0 a1 a2 a3 a4 a5 a6 a7 a8 a9 a10 a11 a12 k, LeO (laws_FnExactShut.f k a0 a1 a2 a3 a4 a5 a6 a7 a8 a9 a10 a11 a12) (laws_FnExactShut.f (k + 1) a0 a1 a2 a3 a4 a5 a6 a7 a8 a9 a10 a11 a12) := by
 intro a0 a1 a2 a3 a4 a5 a6 a7 a8 a9 a10 a11 a12 k
 obtain ⟨ih0, ih1, ih2⟩ := laws_FnExactShut.mono_l k
 unfold laws_FnExactShut.f
 repeat' first
   | (with_reducible exact ih0 _ _ _ _ _ _ _ _ _ _ _ _ _ _ _ _ _ _ _ _ _ _ _ _ _ _ _ _ _ _ _ _ _ _ _ _ _ _ _ _ _ _ _ _ _ _ _ _ _ _ _ _ _ _ _)
   | (with_reducible exact ih1 _ _ _ _ _ _ _ _ _ _ _ _ _ _ _ _ _ _ _ _ _ _ _ _ _ _ _ _ _ _ _ _ _ _ _ _ _ _ _ _ _)
   | (with_reducible exact ih2 _ _ _ _ _ _ _ _ _ _ _ _ _ _ _)
   | (with_reducible exact impl_Shut.mono _ _ _ _ _ _ _ _ _ _ _ _ _ _)
   | (with_reducible exact laws_eqStream.mono _ _ _ _ _ _ _ _ _ _ _ _ _ _ _ _ _ _ _ _ _ _ _ _ _ _ _)
   | (with_reducible exact laws_heldStream.mono _ _ _ _ _ _ _ _ _ _ _ _ _ _ _)
   | (with_reducible exact laws_markStream.mono _ _ _ _ _ _ _ _ _ _ _ _ _ _ _)
   | (with_reducible exact laws_szStream.mono _ _ _ _ _ _ _ _ _ _ _ _ _ _ _)
   | (with_reducible exact laws_toStream.mono _ _ _ _ _ _ _ _ _ _ _ _ _ _)
   | (with_reducible exact spec_Shut.mono _ _ _ _ _ _ _ _ _ _ _ _ _ _)
   | (with_reducible exact LeO.refl _)
   | (with_reducible exact LeO.none _)
   | (with_reducible refine LeO.ite ?_ ?_)
   | (with_reducible refine LeO.bind ?_ (fun _ => ?_))
   | exact ih0 _ _ _ _ _ _ _ _ _ _ _ _ _ _ _ _ _ _ _ _ _ _ _ _ _ _ _ _ _ _ _ _ _ _ _ _ _ _ _ _ _ _ _ _ _ _ _ _ _ _ _ _ _ _ _
   | exact ih1 _ _ _ _ _ _ _ _ _ _ _ _ _ _ _ _ _ _ _ _ _ _ _ _ _ _ _ _ _ _ _ _ _ _ _ _ _ _ _ _ _
   | exact ih2 _ _ _ _ _ _ _ _ _ _ _ _ _ _ _
   | exact impl_Shut.mono _ _ _ _ _ _ _ _ _ _ _ _ _ _
   | exact laws_eqStream.mono _ _ _ _ _ _ _ _ _ _ _ _ _ _ _ _ _ _ _ _ _ _ _ _ _ _ _
   | exact laws_heldStream.mono _ _ _ _ _ _ _ _ _ _ _ _ _ _ _
   | exact laws_markStream.mono _ _ _ _ _ _ _ _ _ _ _ _ _ _ _
   | exact laws_szStream.mono _ _ _ _ _ _ _ _ _ _ _ _ _ _ _
   | exact laws_toStream.mono _ _ _ _ _ _ _ _ _ _ _ _ _ _
   | exact spec_Shut.mono _ _ _ _ _ _ _ _ _ _ _ _ _ _
   | exact LeO.none _
   | refine LeO.ite ?_ ?_
   | refine LeO.bind ?_ (fun _ => ?_)
set_option maxHeartbeats 8000000 in
set_option maxRecDepth 100000 in
theorem laws_FnExactShut.calls (k : Nat) (a0_0 : Int) (a0_1 : Int) (a0_2 : Int) (a0_3 : Int) (a0_4 : ByteArray) (a0_5 : Int) (a0_6 : Int) (a0_7 : Bool) (a0_8 : ByteArray) (A0_9 : Option Addr) (c0_9 : Nat) (l0_9 : List (S170)) (a0_10 : Bool) (a0_11 : Int) (a0_12 : Int) (r : Bool) (w : World) (hr0_9 : Kd.C k170 w A0_9 l0_9.length l0_9) (hc0_9 : l0_9.length ≤ c0_9) (h : laws_FnExactShut.f k a0_0 a0_1 a0_2 a0_3 a0_4 a0_5 a0_6 a0_7 a0_8 l0_9 a0_10 a0_11 a0_12 = some r) (hr_ : Aside0 (r = true)) :
  Calls Try.prog 11 #[.agg #[.int .i64 a0_0, .int .i64 a0_1, .int .i64 a0_2, .int .i64 a0_3, .string a0_4, .int .i64 a0_5, .int .i64 a0_6, .bool a0_7, .string a0_8, .slice A0_9 l0_9.length c0_9, .bool a0_10, .int .i64 a0_11, .int .i64 a0_12]] w fun e w' => e = .returned (.bool r) ∧ Below w.heap.size w w' := by
 have hu24 := Try.underlying24
 have hu29 := Try.underlying29
 have HR0_9 := Aside0.mk hr0_9
 have HC0_9 := Aside0.mk hc0_9
 clear hr0_9 hc0_9
 have HB := Aside0.mk (Below.refl w.heap.size w)
 have H : ((laws_szStream.f k a0_0 a0_1 a0_2 a0_3 a0_4 a0_5 a0_6 a0_7 a0_8 l0_9 a0_10 a0_11 a0_12 1048576).bind fun t250 => (if t250 < 0 then (some true) else ((laws_toStream.f k a0_0 a0_1 a0_2 a0_3 a0_4 a0_5 a0_6 a0_7 a0_8 l0_9 a0_10 a0_11 a0_12).bind fun bt251 => ((spec_Shut.f k bt251.1 bt251.2.1 bt251.2.2.1 bt251.2.2.2.1 bt251.2.2.2.2.1 bt251.2.2.2.2.2.1 bt251.2.2.2.2.2.2.1 bt251.2.2.2.2.2.2.2.1 bt251.2.2.2.2.2.2.2.2.1 bt251.2.2.2.2.2.2.2.2.2.1 bt251.2.2.2.2.2.2.2.2.2.2.1 bt251.2.2.2.2.2.2.2.2.2.2.2.1 bt251.2.2.2.2.2.2.2.2.2.2.2.2).bind fun bt266 => ((laws_toStream.f k a0_0 a0_1 a0_2 a0_3 a0_4 a0_5 a0_6 a0_7 a0_8 l0_9 a0_10 a0_11 a0_12).bind fun bt283 => ((impl_Shut.f k bt283.1 bt283.2.1 bt283.2.2.1 bt283.2.2.2.1 bt283.2.2.2.2.1 bt283.2.2.2.2.2.1 bt283.2.2.2.2.2.2.1 bt283.2.2.2.2.2.2.2.1 bt283.2.2.2.2.2.2.2.2.1 bt283.2.2.2.2.2.2.2.2.2.1 bt283.2.2.2.2.2.2.2.2.2.2.1 bt283.2.2.2.2.2.2.2.2.2.2.2.1 bt283.2.2.2.2.2.2.2.2.2.2.2.2).bind fun bt299 => ((laws_eqStream.f k bt299.1 bt299.2.1 bt299.2.2.1 bt299.2.2.2.1 bt299.2.2.2.2.1 bt299.2.2.2.2.2.1 bt299.2.2.2.2.2.2.1 bt299.2.2.2.2.2.2.2.1 bt299.2.2.2.2.2.2.2.2.1 bt299.2.2.2.2.2.2.2.2.2.1 bt299.2.2.2.2.2.2.2.2.2.2.1 bt299.2.2.2.2.2.2.2.2.2.2.2.1 bt299.2.2.2.2.2.2.2.2.2.2.2.2.1 bt266.1 bt266.2.1 bt266.2.2.1 bt266.2.2.2.1 bt266.2.2.2.2.1 bt266.2.2.2.2.2.1 bt266.2.2.2.2.2.2.1 bt266.2.2.2.2.2.2.2.1 bt266.2.2.2.2.2.2.2.2.1 bt266.2.2.2.2.2.2.2.2.2.1 bt266.2.2.2.2.2.2.2.2.2.2.1 bt266.2.2.2.2.2.2.2.2.2.2.2.1 bt266.2.2.2.2.2.2.2.2.2.2.2.2.1).bind fun t316 => (if t316 = true then (laws_FnExactShut.j0 k bt266.2.2.2.2.2.2.2.2.2.2.2.2.2 bt299.2.2.2.2.2.2.2.2.2.2.2.2.2 (bt299.2.2.2.2.2.2.2.2.2.2.2.2.2 != bt266.2.2.2.2.2.2.2.2.2.2.2.2.2) a0_0 a0_1 a0_2 a0_3 a0_4 a0_5 a0_6 a0_7 a0_8 l0_9 a0_10 a0_11 a0_12 bt266.1 bt266.2.1 bt266.2.2.1 bt266.2.2.2.1 bt266.2.2.2.2.1 bt266.2.2.2.2.2.1 bt266.2.2.2.2.2.2.1 bt266.2.2.2.2.2.2.2.1 bt266.2.2.2.2.2.2.2.2.1 bt266.2.2.2.2.2.2.2.2.2.1 bt266.2.2.2.2.2.2.2.2.2.2.1 bt266.2.2.2.2.2.2.2.2.2.2.2.1 bt266.2.2.2.2.2.2.2.2.2.2.2.2.1 bt283.1 bt283.2.1 bt283.2.2.1 bt283.2.2.2.1 bt283.2.2.2.2.1 bt283.2.2.2.2.2.1 bt283.2.2.2.2.2.2.1 bt283.2.2.2.2.2.2.2.1 bt283.2.2.2.2.2.2.2.2.1 bt283.2.2.2.2.2.2.2.2.2.1 bt283.2.2.2.2.2.2.2.2.2.2.1 bt283.2.2.2.2.2.2.2.2.2.2.2.1 bt283.2.2.2.2.2.2.2.2.2.2.2.2 bt299.1 bt299.2.1 bt299.2.2.1 bt299.2.2.2.1 bt299.2.2.2.2.1 bt299.2.2.2.2.2.1 bt299.2.2.2.2.2.2.1 bt299.2.2.2.2.2.2.2.1 bt299.2.2.2.2.2.2.2.2.1 bt299.2.2.2.2.2.2.2.2.2.1 bt299.2.2.2.2.2.2.2.2.2.2.1 bt299.2.2.2.2.2.2.2.2.2.2.2.1 bt299.2.2.2.2.2.2.2.2.2.2.2.2.1) else (laws_FnExactShut.j0 k bt266.2.2.2.2.2.2.2.2.2.2.2.2.2 bt299.2.2.2.2.2.2.2.2.2.2.2.2.2 true a0_0 a0_1 a0_2 a0_3 a0_4 a0_5 a0_6 a0_7 a0_8 l0_9 a0_10 a0_11 a0_12 bt266.1 bt266.2.1 bt266.2.2.1 bt266.2.2.2.1 bt266.2.2.2.2.1 bt266.2.2.2.2.2.1 bt266.2.2.2.2.2.2.1 bt266.2.2.2.2.2.2.2.1 bt266.2.2.2.2.2.2.2.2.1 bt266.2.2.2.2.2.2.2.2.2.1 bt266.2.2.2.2.2.2.2.2.2.2.1 bt266.2.2.2.2.2.2.2.2.2.2.2.1 bt266.2.2.2.2.2.2.2.2.2.2.2.2.1 bt283.1 bt283.2.1 bt283.2.2.1 bt283.2.2.2.1 bt283.2.2.2.2.1 bt283.2.2.2.2.2.1 bt283.2.2.2.2.2.2.1 bt283.2.2.2.2.2.2.2.1 bt283.2.2.2.2.2.2.2.2.1 bt283.2.2.2.2.2.2.2.2.2.1 bt283.2.2.2.2.2.2.2.2.2.2.1 bt283.2.2.2.2.2.2.2.2.2.2.2.1 bt283.2.2.2.2.2.2.2.2.2.2.2.2 bt299.1 bt299.2.1 bt299.2.2.1 bt299.2.2.2.1 bt299.2.2.2.2.1 bt299.2.2.2.2.2.1 bt299.2.2.2.2.2.2.1 bt299.2.2.2.2.2.2.2.1 bt299.2.2.2.2.2.2.2.2.1 bt299.2.2.2.2.2.2.2.2.2.1 bt299.2.2.2.2.2.2.2.2.2.2.1 bt299.2.2.2.2.2.2.2.2.2.2.2.1 bt299.2.2.2.2.2.2.2.2.2.2.2.2.1))))))))) = some r := h
 clear h
 replace H := Option.bind_eq_some_iff.mp H
 obtain ⟨t250, A20, H⟩ := H
 (try dsimp only at H)
 have A2 := Aside0.mk A20
 clear A20
 by_cases c3 : t250 < 0
 ·rw [if_pos c3] at H
  have c3b0 : decide (t250 < 0) = true := decide_eq_true c3
  clear c3
  obtain rfl := Option.some.inj H
  go_enter Try.func11, Try.ntmps11
  go_wp2_with (first | ((with_reducible refine gate_dst (N := 1) rfl ?_); refine box_event ?hg (N := 1) ?hd (cs := #[.int .i64 a0_0, .int .i64 a0_1, .int .i64 a0_2, .int .i64 a0_3, .string a0_4, .int .i64 a0_5, .int .i64 a0_6, .bool a0_7, .string a0_8, .slice A0_9 l0_9.length c0_9, .bool a0_10, .int .i64 a0_11, .int .i64 a0_12]) (t := 24) ?hr ?_; (case hd => rfl); (case hg => rfl); (case hr => first | (go_simp; done) | (go_simp; rfl)); intro gb249 hg w4 hbox hb; have n0_ := Aside0.mk (below_step B7x35_ hb); have n1_ := Aside0.mk (hbox); have n2_ := Aside0.mk ((by rw [hg]; exact (below_size B7x35_) : w.heap.size ≤ gb249)); have n3_ := Aside0.mk ((by rw [hg]; exact (below_size B7x35_) : w.heap.size ≤ gb249)); clear HB; have HB := n0_; have BK249 := n1_; have GW249 := n2_; have GE249 := n3_; clear n0_ n1_ n2_ n3_; clear hb hbox hg; obtain ⟨hcz5_0, hcz5_1, hcz5_2, hcz5_3, hcz5_4, hcz5_5, hcz5_6, hcz5_7, hcz5_8, hcz5_9, hcz5_10, hcz5_11, hcz5_12⟩ := cl13 BK249.out; obtain ⟨hfz5_0, hfz5_1, hfz5_2, hfz5_3, hfz5_4, hfz5_5, hfz5_6, hfz5_7, hfz5_8, hfz5_9, hfz5_10, hfz5_11, hfz5_12⟩ := fr13 BK249.out) | ((with_reducible refine gate_callee (f := 15) rfl ?_); refine goesL_ (some 16) rfl rfl Try.func15 B7x38_ rfl #[.agg #[.int .i64 a0_0, .int .i64 a0_1, .int .i64 a0_2, .int .i64 a0_3, .string a0_4, .int .i64 a0_5, .int .i64 a0_6, .bool a0_7, .string a0_8, .slice A0_9 l0_9.length c0_9, .bool a0_10, .int .i64 a0_11, .int .i64 a0_12], .int .i64 1048576] rfl B7x9_ ?_; (with_reducible refine (laws_szStream.calls k a0_0 a0_1 a0_2 a0_3 a0_4 a0_5 a0_6 a0_7 a0_8 _ _ l0_9 a0_10 a0_11 a0_12 1048576 t250 _ ?side1 ?side2 A2.out).mono ?_); (case side1 => repeat (first | exact (Kd.C_below HR0_9.out HB.out) | (with_reducible refine Kd.C_alloc ?_ _) | (with_reducible refine Kd.C_drewN ?_ _) | (with_reducible refine Kd.C_drew ?_))); (case side2 => exact HC0_9.out); rintro e w6 ⟨rfl, hb⟩; refine ⟨_, rfl, ?_⟩; have n0_ := Aside0.mk (blk_below (g := gb249) (o := .cells #[.int .i64 a0_0, .int .i64 a0_1, .int .i64 a0_2, .int .i64 a0_3, .string a0_4, .int .i64 a0_5, .int .i64 a0_6, .bool a0_7, .string a0_8, .slice A0_9 l0_9.length c0_9, .bool a0_10, .int .i64 a0_11, .int .i64 a0_12] 24 (0, 0)) B7x7_ hb); have n1_ := Aside0.mk (below_step B7x20_ hb); clear BK249; clear HB; have BK249 := n0_; have HB := n1_; clear n0_ n1_; (try clear hb); (try clear hb2); (try clear hk); (try clear hi)))
  go_ret
  exact ⟨by first | rfl | (simp [errW_none, errW_some] <;> rfl) | (simp [*, errW_none, errW_some] <;> rfl), by repeat (first | (with_reducible first | exact HB.out | apply below_alloc | apply pw_below_drewN | apply below_drew1 | refine below_set ?_ GE249.out) | exact HB.out)⟩
 ·rw [if_neg c3] at H
  have c3b0 : decide (t250 < 0) = false := decide_eq_false c3
  clear c3
  replace H := Option.bind_eq_some_iff.mp H
  obtain ⟨⟨t251, t252, t253, t254, t255, t256, t257, t258, t259, t260, t263, t264, t265⟩, A70, H⟩ := H
  (try dsimp only at H)
  have A7 := Aside0.mk A70
  clear A70
  replace H := Option.bind_eq_some_iff.mp H
  obtain ⟨⟨t266, t267, t268, t269, t270, t271, t272, t273, t274, t275, t278, t279, t280, t281⟩, A80, H⟩ := H
  (try dsimp only at H)
  have A8 := Aside0.mk A80
  clear A80
  replace H := Option.bind_eq_some_iff.mp H
  obtain ⟨⟨t283, t284, t285, t286, t287, t288, t289, t290, t291, t292, t295, t296, t297⟩, A90, H⟩ := H
  (try dsimp only at H)
  have A9 := Aside0.mk A90
  clear A90
  replace H := Option.bind_eq_some_iff.mp H
  obtain ⟨⟨t299, t300, t301, t302, t303, t304, t305, t306, t307, t308, t311, t312, t313, t314⟩, A100, H⟩ := H
  (try dsimp only at H)
  have A10 := Aside0.mk A100
  clear A100
  have HC11 := Aside0.mk H
  clear H
  go_enter Try.func11, Try.ntmps11
  go_upto_region 8 with (first | ((with_reducible refine gate_dst (N := 1) rfl ?_); refine box_event ?hg (N := 1) ?hd (cs := #[.int .i64 a0_0, .int .i64 a0_1, .int .i64 a0_2, .int .i64 a0_3, .string a0_4, .int .i64 a0_5, .int .i64 a0_6, .bool a0_7, .string a0_8, .slice A0_9 l0_9.length c0_9, .bool a0_10, .int .i64 a0_11, .int .i64 a0_12]) (t := 24) ?hr ?_; (case hd => rfl); (case hg => rfl); (case hr => first | (go_simp; done) | (go_simp; rfl)); intro gb249 hg w12 hbox hb; have n0_ := Aside0.mk (below_step B7x35_ hb); have n1_ := Aside0.mk (hbox); have n2_ := Aside0.mk ((by rw [hg]; exact (below_size B7x35_) : w.heap.size ≤ gb249)); have n3_ := Aside0.mk ((by rw [hg]; exact (below_size B7x35_) : w.heap.size ≤ gb249)); clear HB; have HB := n0_; have BK249 := n1_; have GW249 := n2_; have GE249 := n3_; clear n0_ n1_ n2_ n3_; clear hb hbox hg; obtain ⟨hcz13_0, hcz13_1, hcz13_2, hcz13_3, hcz13_4, hcz13_5, hcz13_6, hcz13_7, hcz13_8, hcz13_9, hcz13_10, hcz13_11, hcz13_12⟩ := cl13 BK249.out; obtain ⟨hfz13_0, hfz13_1, hfz13_2, hfz13_3, hfz13_4, hfz13_5, hfz13_6, hfz13_7, hfz13_8, hfz13_9, hfz13_10, hfz13_11, hfz13_12⟩ := fr13 BK249.out) | ((with_reducible refine gate_callee (f := 15) rfl ?_); refine goesL_ (some 16) rfl rfl Try.func15 B7x38_ rfl #[.agg #[.int .i64 a0_0, .int .i64 a0_1, .int .i64 a0_2, .int .i64 a0_3, .string a0_4, .int .i64 a0_5, .int .i64 a0_6, .bool a0_7, .string a0_8, .slice A0_9 l0_9.length c0_9, .bool a0_10, .int .i64 a0_11, .int .i64 a0_12], .int .i64 1048576] rfl B7x9_ ?_; (with_reducible refine (laws_szStream.calls k a0_0 a0_1 a0_2 a0_3 a0_4 a0_5 a0_6 a0_7 a0_8 _ _ l0_9 a0_10 a0_11 a0_12 1048576 t250 _ ?side1 ?side2 A2.out).mono ?_); (case side1 => repeat (first | exact (Kd.C_below HR0_9.out HB.out) | (with_reducible refine Kd.C_alloc ?_ _) | (with_reducible refine Kd.C_drewN ?_ _) | (with_reducible refine Kd.C_drew ?_))); (case side2 => exact HC0_9.out); rintro e w14 ⟨rfl, hb⟩; refine ⟨_, rfl, ?_⟩; have n0_ := Aside0.mk (blk_below (g := gb249) (o := .cells #[.int .i64 a0_0, .int .i64 a0_1, .int .i64 a0_2, .int .i64 a0_3, .string a0_4, .int .i64 a0_5, .int .i64 a0_6, .bool a0_7, .string a0_8, .slice A0_9 l0_9.length c0_9, .bool a0_10, .int .i64 a0_11, .int .i64 a0_12] 24 (0, 0)) B7x7_ hb); have n1_ := Aside0.mk (below_step B7x20_ hb); clear BK249; clear HB; have BK249 := n0_; have HB := n1_; clear n0_ n1_; (try clear hb); (try clear hb2); (try clear hk); (try clear hi); obtain ⟨hcz15_0, hcz15_1, hcz15_2, hcz15_3, hcz15_4, hcz15_5, hcz15_6, hcz15_7, hcz15_8, hcz15_9, hcz15_10, hcz15_11, hcz15_12⟩ := cl13 BK249.out; obtain ⟨hfz15_0, hfz15_1, hfz15_2, hfz15_3, hfz15_4, hfz15_5, hfz15_6, hfz15_7, hfz15_8, hfz15_9, hfz15_10, hfz15_11, hfz15_12⟩ := fr13 BK249.out) | ((with_reducible refine gate_callee (f := 17) rfl ?_); refine goesL_ (some 21) rfl rfl Try.func17 B7x38_ rfl #[.agg #[.int .i64 a0_0, .int .i64 a0_1, .int .i64 a0_2, .int .i64 a0_3, .string a0_4, .int .i64 a0_5, .int .i64 a0_6, .bool a0_7, .string a0_8, .slice A0_9 l0_9.length c0_9, .bool a0_10, .int .i64 a0_11, .int .i64 a0_12]] rfl B7x9_ ?_; (with_reducible refine (laws_toStream.calls k a0_0 a0_1 a0_2 a0_3 a0_4 a0_5 a0_6 a0_7 a0_8 _ _ l0_9 a0_10 a0_11 a0_12 t251 t252 t253 t254 t255 t256 t257 t258 t259 t260 t263 t264 t265 _ ?side1 ?side2 A7.out).mono ?_); (case side1 => repeat (first | exact (Kd.C_below HR0_9.out HB.out) | (with_reducible refine Kd.C_alloc ?_ _) | (with_reducible refine Kd.C_drewN ?_ _) | (with_reducible refine Kd.C_drew ?_))); (case side2 => exact HC0_9.out); rintro e w16 ⟨v261, rfl, ho0, hb⟩; refine ⟨_, rfl, ?_⟩; have n0_ := Aside0.mk (Kd.R_lower ho0 (below_size B7x20_)); have n1_ := Aside0.mk (blk_below (g := gb249) (o := .cells #[.int .i64 a0_0, .int .i64 a0_1, .int .i64 a0_2, .int .i64 a0_3, .string a0_4, .int .i64 a0_5, .int .i64 a0_6, .bool a0_7, .string a0_8, .slice A0_9 l0_9.length c0_9, .bool a0_10, .int .i64 a0_11, .int .i64 a0_12] 24 (0, 0)) B7x7_ hb); have n2_ := Aside0.mk (below_step B7x20_ hb); clear BK249; clear HB; have HO262 := n0_; have BK249 := n1_; have HB := n2_; clear n0_ n1_ n2_; (try clear hb); (try clear hb2); (try clear hk); (try clear hi); (try clear ho0); obtain ⟨Ao17, co17, eo17⟩ := Kd.R_slice HO262.out; subst eo17) | ((with_reducible refine gate_callee (f := 63) rfl ?_); refine goesL_ (some 22) rfl rfl Try.func63 B7x38_ rfl #[.agg #[.int .i64 t251, .int .i64 t252, .int .i64 t253, .int .i64 t254, .string t255, .int .i64 t256, .int .i64 t257, .bool t258, .string t259, .slice Ao17 t260.length co17, .bool t263, .int .i64 t264, .int .i64 t265]] rfl B7x9_ ?_; (with_reducible refine (spec_Shut.calls k t251 t252 t253 t254 t255 t256 t257 t258 t259 _ _ t260 t263 t264 t265 t266 t267 t268 t269 t270 t271 t272 t273 t274 t275 t278 t279 t280 t281 _ ?side1 ?side2 A8.out).mono ?_); (case side1 => repeat (first | exact (Kd.R_reads' HO262.out).2.2 | (with_reducible refine Kd.C_alloc ?_ _) | (with_reducible refine Kd.C_drewN ?_ _) | (with_reducible refine Kd.C_drew ?_))); (case side2 => exact (Kd.R_reads' HO262.out).2.1); rintro e w18 ⟨v276, rfl, ho0, hb⟩; refine ⟨_, rfl, ?_⟩; have n0_ := Aside0.mk (Kd.R_elder' B7x37_ (Kd.R_base ho0) hb); have n1_ := Aside0.mk (Kd.R_lower (Kd.R_new' ho0 (Kd.R_lt B7x37_)) (below_size B7x20_)); have n2_ := Aside0.mk (blk_below (g := gb249) (o := .cells #[.int .i64 a0_0, .int .i64 a0_1, .int .i64 a0_2, .int .i64 a0_3, .string a0_4, .int .i64 a0_5, .int .i64 a0_6, .bool a0_7, .string a0_8, .slice A0_9 l0_9.length c0_9, .bool a0_10, .int .i64 a0_11, .int .i64 a0_12] 24 (0, 0)) B7x7_ hb); have n3_ := Aside0.mk (below_step B7x20_ hb); clear HO262; clear BK249; clear HB; have HO262 := n0_; have HO277 := n1_; have BK249 := n2_; have HB := n3_; clear n0_ n1_ n2_ n3_; (try clear hb); (try clear hb2); (try clear hk); (try clear hi); (try clear ho0)) | ((with_reducible refine gate_dst (N := 4) rfl ?_); refine box_event ?hg (N := 4) ?hd (cs := #[.int .i64 0, .int .i64 0, .int .i64 0, .int .i64 0, .string (⟨#[]⟩ : ByteArray), .int .i64 0, .int .i64 0, .bool false, .string (⟨#[]⟩ : ByteArray), .slice none 0 0, .bool false, .int .i64 0, .int .i64 0]) (t := 29) ?hr ?_; (case hd => rfl); (case hg => rfl); (case hr => first | (go_simp; done) | (go_simp; rfl)); intro gb282 hg w19 hbox hb; have n0_ := Aside0.mk (Kd.R_below B7x37_ hb); have n1_ := Aside0.mk (Kd.R_below B7x39_ hb); have n2_ := Aside0.mk (blk_below (g := gb249) (o := .cells #[.int .i64 a0_0, .int .i64 a0_1, .int .i64 a0_2, .int .i64 a0_3, .string a0_4, .int .i64 a0_5, .int .i64 a0_6, .bool a0_7, .string a0_8, .slice A0_9 l0_9.length c0_9, .bool a0_10, .int .i64 a0_11, .int .i64 a0_12] 24 (0, 0)) B7x7_ hb); have n3_ := Aside0.mk (below_step B7x20_ hb); have n4_ := Aside0.mk (hbox); have n5_ := Aside0.mk ((by rw [hg]; exact (below_size B7x20_) : w.heap.size ≤ gb282)); have n6_ := Aside0.mk ((by rw [hg]; exact (below_size B7x20_) : w.heap.size ≤ gb282)); have n7_ := Aside0.mk ((by rw [hg]; exact Nat.ne_of_lt (blk_lt (g := gb249) (o := .cells #[.int .i64 a0_0, .int .i64 a0_1, .int .i64 a0_2, .int .i64 a0_3, .string a0_4, .int .i64 a0_5, .int .i64 a0_6, .bool a0_7, .string a0_8, .slice A0_9 l0_9.length c0_9, .bool a0_10, .int .i64 a0_11, .int .i64 a0_12] 24 (0, 0)) B7x7_) : gb249 ≠ gb282)); have n8_ := Aside0.mk ((by rw [hg]; exact Nat.ne_of_gt (blk_lt (g := gb249) (o := .cells #[.int .i64 a0_0, .int .i64 a0_1, .int .i64 a0_2, .int .i64 a0_3, .string a0_4, .int .i64 a0_5, .int .i64 a0_6, .bool a0_7, .string a0_8, .slice A0_9 l0_9.length c0_9, .bool a0_10, .int .i64 a0_11, .int .i64 a0_12] 24 (0, 0)) B7x7_) : gb282 ≠ gb249)); clear HO262; clear HO277; clear BK249; clear HB; have HO262 := n0_; have HO277 := n1_; have BK249 := n2_; have HB := n3_; have BK282 := n4_; have GW282 := n5_; have GE282 := n6_; have NB249_282 := n7_; have NB282_249 := n8_; clear n0_ n1_ n2_ n3_ n4_ n5_ n6_ n7_ n8_; clear hb hbox hg; have hnb20 := NB282_249.out; have hnc20 := NB249_282.out; obtain ⟨hcz21_0, hcz21_1, hcz21_2, hcz21_3, hcz21_4, hcz21_5, hcz21_6, hcz21_7, hcz21_8, hcz21_9, hcz21_10, hcz21_11, hcz21_12⟩ := cl13 BK282.out; obtain ⟨hfz21_0, hfz21_1, hfz21_2, hfz21_3, hfz21_4, hfz21_5, hfz21_6, hfz21_7, hfz21_8, hfz21_9, hfz21_10, hfz21_11, hfz21_12⟩ := fr13 BK282.out; obtain ⟨Ao22, co22, eo22⟩ := Kd.R_slice HO277.out; subst eo22; obtain ⟨hcz23_0, hcz23_1, hcz23_2, hcz23_3, hcz23_4, hcz23_5, hcz23_6, hcz23_7, hcz23_8, hcz23_9, hcz23_10, hcz23_11, hcz23_12⟩ := cl13 BK249.out; obtain ⟨hfz23_0, hfz23_1, hfz23_2, hfz23_3, hfz23_4, hfz23_5, hfz23_6, hfz23_7, hfz23_8, hfz23_9, hfz23_10, hfz23_11, hfz23_12⟩ := fr13 BK249.out) | ((with_reducible refine gate_callee (f := 17) rfl ?_); refine goesL_ (some 26) rfl rfl Try.func17 B7x38_ rfl #[.agg #[.int .i64 a0_0, .int .i64 a0_1, .int .i64 a0_2, .int .i64 a0_3, .string a0_4, .int .i64 a0_5, .int .i64 a0_6, .bool a0_7, .string a0_8, .slice A0_9 l0_9.length c0_9, .bool a0_10, .int .i64 a0_11, .int .i64 a0_12]] rfl B7x9_ ?_; (with_reducible refine (laws_toStream.calls k a0_0 a0_1 a0_2 a0_3 a0_4 a0_5 a0_6 a0_7 a0_8 _ _ l0_9 a0_10 a0_11 a0_12 t283 t284 t285 t286 t287 t288 t289 t290 t291 t292 t295 t296 t297 _ ?side1 ?side2 A9.out).mono ?_); (case side1 => exact Kd.C_below HR0_9.out B7x33_); (case side2 => exact HC0_9.out); rintro e w24 ⟨v293, rfl, ho0, hb⟩; refine ⟨_, rfl, ?_⟩; have n0_ := Aside0.mk (Kd.R_elder' B7x27_ (Kd.R_base ho0) hb); have n1_ := Aside0.mk (Kd.R_elder' B7x28_ (Kd.R_base ho0) hb); have n2_ := Aside0.mk (Kd.R_lower (Kd.R_new' (Kd.R_new' ho0 (Kd.R_lt B7x27_)) (Kd.R_lt B7x28_)) (below_size B7x33_)); have n3_ := Aside0.mk (blk_below (g := gb249) (o := .cells #[.int .i64 a0_0, .int .i64 a0_1, .int .i64 a0_2, .int .i64 a0_3, .string a0_4, .int .i64 a0_5, .int .i64 a0_6, .bool a0_7, .string a0_8, .slice A0_9 l0_9.length c0_9, .bool a0_10, .int .i64 a0_11, .int .i64 a0_12] 24 (0, 0)) (by (with_reducible repeat (first | refine blk_drewN ?_ _ | refine blk_drew ?_ | refine blk_alloc ?_ _)); refine blk_far ?_ NB249_282.out _; (with_reducible repeat (first | refine blk_drewN ?_ _ | refine blk_drew ?_ | refine blk_alloc ?_ _)); refine blk_far ?_ NB249_282.out _; (with_reducible repeat (first | refine blk_drewN ?_ _ | refine blk_drew ?_ | refine blk_alloc ?_ _)); refine blk_far ?_ NB249_282.out _; (with_reducible repeat (first | refine blk_drewN ?_ _ | refine blk_drew ?_ | refine blk_alloc ?_ _)); refine blk_far ?_ NB249_282.out _; (with_reducible repeat (first | refine blk_drewN ?_ _ | refine blk_drew ?_ | refine blk_alloc ?_ _)); refine blk_far ?_ NB249_282.out _; (with_reducible repeat (first | refine blk_drewN ?_ _ | refine blk_drew ?_ | refine blk_alloc ?_ _)); refine blk_far ?_ NB249_282.out _; (with_reducible repeat (first | refine blk_drewN ?_ _ | refine blk_drew ?_ | refine blk_alloc ?_ _)); refine blk_far ?_ NB249_282.out _; (with_reducible repeat (first | refine blk_drewN ?_ _ | refine blk_drew ?_ | refine blk_alloc ?_ _)); refine blk_far ?_ NB249_282.out _; (with_reducible repeat (first | refine blk_drewN ?_ _ | refine blk_drew ?_ | refine blk_alloc ?_ _)); refine blk_far ?_ NB249_282.out _; (with_reducible repeat (first | refine blk_drewN ?_ _ | refine blk_drew ?_ | refine blk_alloc ?_ _)); refine blk_far ?_ NB249_282.out _; (with_reducible repeat (first | refine blk_drewN ?_ _ | refine blk_drew ?_ | refine blk_alloc ?_ _)); refine blk_far ?_ NB249_282.out _; (with_reducible repeat (first | refine blk_drewN ?_ _ | refine blk_drew ?_ | refine blk_alloc ?_ _)); refine blk_far ?_ NB249_282.out _; (with_reducible repeat (first | refine blk_drewN ?_ _ | refine blk_drew ?_ | refine blk_alloc ?_ _)); refine blk_far ?_ NB249_282.out _; (with_reducible repeat (first | refine blk_drewN ?_ _ | refine blk_drew ?_ | refine blk_alloc ?_ _)); exact BK249.out) hb); have n4_ := Aside0.mk (blk_below (g := gb282) (o := .cells #[.int .i64 t266, .int .i64 t267, .int .i64 t268, .int .i64 t269, .string t270, .int .i64 t271, .int .i64 t272, .bool t273, .string t274, .slice Ao22 t275.length co22, .bool t278, .int .i64 t279, .int .i64 t280] 29 (0, 0)) (by (with_reducible repeat (first | refine blk_drewN ?_ _ | refine blk_drew ?_ | refine blk_alloc ?_ _)); refine blk_put (cs := #[.int .i64 t266, .int .i64 t267, .int .i64 t268, .int .i64 t269, .string t270, .int .i64 t271, .int .i64 t272, .bool t273, .string t274, .slice Ao22 t275.length co22, .bool t278, .int .i64 t279, .int .i64 0]) ?_ 12 _ rfl; (with_reducible repeat (first | refine blk_drewN ?_ _ | refine blk_drew ?_ | refine blk_alloc ?_ _)); refine blk_put (cs := #[.int .i64 t266, .int .i64 t267, .int .i64 t268, .int .i64 t269, .string t270, .int .i64 t271, .int .i64 t272, .bool t273, .string t274, .slice Ao22 t275.length co22, .bool t278, .int .i64 0, .int .i64 0]) ?_ 11 _ rfl; (with_reducible repeat (first | refine blk_drewN ?_ _ | refine blk_drew ?_ | refine blk_alloc ?_ _)); refine blk_put (cs := #[.int .i64 t266, .int .i64 t267, .int .i64 t268, .int .i64 t269, .string t270, .int .i64 t271, .int .i64 t272, .bool t273, .string t274, .slice Ao22 t275.length co22, .bool false, .int .i64 0, .int .i64 0]) ?_ 10 _ rfl; (with_reducible repeat (first | refine blk_drewN ?_ _ | refine blk_drew ?_ | refine blk_alloc ?_ _)); refine blk_put (cs := #[.int .i64 t266, .int .i64 t267, .int .i64 t268, .int .i64 t269, .string t270, .int .i64 t271, .int .i64 t272, .bool t273, .string t274, .slice none 0 0, .bool false, .int .i64 0, .int .i64 0]) ?_ 9 _ rfl; (with_reducible repeat (first | refine blk_drewN ?_ _ | refine blk_drew ?_ | refine blk_alloc ?_ _)); refine blk_put (cs := #[.int .i64 t266, .int .i64 t267, .int .i64 t268, .int .i64 t269, .string t270, .int .i64 t271, .int .i64 t272, .bool t273, .string (⟨#[]⟩ : ByteArray), .slice none 0 0, .bool false, .int .i64 0, .int .i64 0]) ?_ 8 _ rfl; (with_reducible repeat (first | refine blk_drewN ?_ _ | refine blk_drew ?_ | refine blk_alloc ?_ _)); refine blk_put (cs := #[.int .i64 t266, .int .i64 t267, .int .i64 t268, .int .i64 t269, .string t270, .int .i64 t271, .int .i64 t272, .bool false, .string (⟨#[]⟩ : ByteArray), .slice none 0 0, .bool false, .int .i64 0, .int .i64 0]) ?_ 7 _ rfl; (with_reducible repeat (first | refine blk_drewN ?_ _ | refine blk_drew ?_ | refine blk_alloc ?_ _)); refine blk_put (cs := #[.int .i64 t266, .int .i64 t267, .int .i64 t268, .int .i64 t269, .string t270, .int .i64 t271, .int .i64 0, .bool false, .string (⟨#[]⟩ : ByteArray), .slice none 0 0, .bool false, .int .i64 0, .int .i64 0]) ?_ 6 _ rfl; (with_reducible repeat (first | refine blk_drewN ?_ _ | refine blk_drew ?_ | refine blk_alloc ?_ _)); refine blk_put (cs := #[.int .i64 t266, .int .i64 t267, .int .i64 t268, .int .i64 t269, .string t270, .int .i64 0, .int .i64 0, .bool false, .string (⟨#[]⟩ : ByteArray), .slice none 0 0, .bool false, .int .i64 0, .int .i64 0]) ?_ 5 _ rfl; (with_reducible repeat (first | refine blk_drewN ?_ _ | refine blk_drew ?_ | refine blk_alloc ?_ _)); refine blk_put (cs := #[.int .i64 t266, .int .i64 t267, .int .i64 t268, .int .i64 t269, .string (⟨#[]⟩ : ByteArray), .int .i64 0, .int .i64 0, .bool false, .string (⟨#[]⟩ : ByteArray), .slice none 0 0, .bool false, .int .i64 0, .int .i64 0]) ?_ 4 _ rfl; (with_reducible repeat (first | refine blk_drewN ?_ _ | refine blk_drew ?_ | refine blk_alloc ?_ _)); refine blk_put (cs := #[.int .i64 t266, .int .i64 t267, .int .i64 t268, .int .i64 0, .string (⟨#[]⟩ : ByteArray), .int .i64 0, .int .i64 0, .bool false, .string (⟨#[]⟩ : ByteArray), .slice none 0 0, .bool false, .int .i64 0, .int .i64 0]) ?_ 3 _ rfl; (with_reducible repeat (first | refine blk_drewN ?_ _ | refine blk_drew ?_ | refine blk_alloc ?_ _)); refine blk_put (cs := #[.int .i64 t266, .int .i64 t267, .int .i64 0, .int .i64 0, .string (⟨#[]⟩ : ByteArray), .int .i64 0, .int .i64 0, .bool false, .string (⟨#[]⟩ : ByteArray), .slice none 0 0, .bool false, .int .i64 0, .int .i64 0]) ?_ 2 _ rfl; (with_reducible repeat (first | refine blk_drewN ?_ _ | refine blk_drew ?_ | refine blk_alloc ?_ _)); refine blk_put (cs := #[.int .i64 t266, .int .i64 0, .int .i64 0, .int .i64 0, .string (⟨#[]⟩ : ByteArray), .int .i64 0, .int .i64 0, .bool false, .string (⟨#[]⟩ : ByteArray), .slice none 0 0, .bool false, .int .i64 0, .int .i64 0]) ?_ 1 _ rfl; (with_reducible repeat (first | refine blk_drewN ?_ _ | refine blk_drew ?_ | refine blk_alloc ?_ _)); refine blk_put (cs := #[.int .i64 0, .int .i64 0, .int .i64 0, .int .i64 0, .string (⟨#[]⟩ : ByteArray), .int .i64 0, .int .i64 0, .bool false, .string (⟨#[]⟩ : ByteArray), .slice none 0 0, .bool false, .int .i64 0, .int .i64 0]) ?_ 0 _ rfl; (with_reducible repeat (first | refine blk_drewN ?_ _ | refine blk_drew ?_ | refine blk_alloc ?_ _)); exact BK282.out) hb); have n5_ := Aside0.mk (below_step B7x33_ hb); clear HO262; clear HO277; clear BK249; clear BK282; clear HB; have HO262 := n0_; have HO277 := n1_; have HO294 := n2_; have BK249 := n3_; have BK282 := n4_; have HB := n5_; clear n0_ n1_ n2_ n3_ n4_ n5_; (try clear hb); (try clear hb2); (try clear hk); (try clear hi); (try clear ho0)) | ((with_reducible refine gate_dst (N := 6) rfl ?_); refine box_event ?hg (N := 6) ?hd (cs := #[.int .i64 0, .int .i64 0, .int .i64 0, .int .i64 0, .string (⟨#[]⟩ : ByteArray), .int .i64 0, .int .i64 0, .bool false, .string (⟨#[]⟩ : ByteArray), .slice none 0 0, .bool false, .int .i64 0, .int .i64 0]) (t := 29) ?hr ?_; (case hd => rfl); (case hg => rfl); (case hr => first | (go_simp; done) | (go_simp; rfl)); intro gb298 hg w25 hbox hb; have n0_ := Aside0.mk (Kd.R_below B7x37_ hb); have n1_ := Aside0.mk (Kd.R_below B7x39_ hb); have n2_ := Aside0.mk (Kd.R_below B7x42_ hb); have n3_ := Aside0.mk (blk_below (g := gb249) (o := .cells #[.int .i64 a0_0, .int .i64 a0_1, .int .i64 a0_2, .int .i64 a0_3, .string a0_4, .int .i64 a0_5, .int .i64 a0_6, .bool a0_7, .string a0_8, .slice A0_9 l0_9.length c0_9, .bool a0_10, .int .i64 a0_11, .int .i64 a0_12] 24 (0, 0)) B7x7_ hb); have n4_ := Aside0.mk (blk_below (g := gb282) (o := .cells #[.int .i64 t266, .int .i64 t267, .int .i64 t268, .int .i64 t269, .string t270, .int .i64 t271, .int .i64 t272, .bool t273, .string t274, .slice Ao22 t275.length co22, .bool t278, .int .i64 t279, .int .i64 t280] 29 (0, 0)) B7x10_ hb); have n5_ := Aside0.mk (below_step B7x33_ hb); have n6_ := Aside0.mk (hbox); have n7_ := Aside0.mk ((by rw [hg]; exact (below_size B7x33_) : w.heap.size ≤ gb298)); have n8_ := Aside0.mk ((by rw [hg]; exact (below_size B7x33_) : w.heap.size ≤ gb298)); have n9_ := Aside0.mk ((by rw [hg]; exact Nat.ne_of_lt (blk_lt (g := gb249) (o := .cells #[.int .i64 a0_0, .int .i64 a0_1, .int .i64 a0_2, .int .i64 a0_3, .string a0_4, .int .i64 a0_5, .int .i64 a0_6, .bool a0_7, .string a0_8, .slice A0_9 l0_9.length c0_9, .bool a0_10, .int .i64 a0_11, .int .i64 a0_12] 24 (0, 0)) B7x7_) : gb249 ≠ gb298)); have n10_ := Aside0.mk ((by rw [hg]; exact Nat.ne_of_gt (blk_lt (g := gb249) (o := .cells #[.int .i64 a0_0, .int .i64 a0_1, .int .i64 a0_2, .int .i64 a0_3, .string a0_4, .int .i64 a0_5, .int .i64 a0_6, .bool a0_7, .string a0_8, .slice A0_9 l0_9.length c0_9, .bool a0_10, .int .i64 a0_11, .int .i64 a0_12] 24 (0, 0)) B7x7_) : gb298 ≠ gb249)); have n11_ := Aside0.mk ((by rw [hg]; exact Nat.ne_of_lt (blk_lt (g := gb282) (o := .cells #[.int .i64 t266, .int .i64 t267, .int .i64 t268, .int .i64 t269, .string t270, .int .i64 t271, .int .i64 t272, .bool t273, .string t274, .slice Ao22 t275.length co22, .bool t278, .int .i64 t279, .int .i64 t280] 29 (0, 0)) B7x10_) : gb282 ≠ gb298)); have n12_ := Aside0.mk ((by rw [hg]; exact Nat.ne_of_gt (blk_lt (g := gb282) (o := .cells #[.int .i64 t266, .int .i64 t267, .int .i64 t268, .int .i64 t269, .string t270, .int .i64 t271, .int .i64 t272, .bool t273, .string t274, .slice Ao22 t275.length co22, .bool t278, .int .i64 t279, .int .i64 t280] 29 (0, 0)) B7x10_) : gb298 ≠ gb282)); clear HO262; clear HO277; clear HO294; clear BK249; clear BK282; clear HB; have HO262 := n0_; have HO277 := n1_; have HO294 := n2_; have BK249 := n3_; have BK282 := n4_; have HB := n5_; have BK298 := n6_; have GW298 := n7_; have GE298 := n8_; have NB249_298 := n9_; have NB298_249 := n10_; have NB282_298 := n11_; have NB298_282 := n12_; clear n0_ n1_ n2_ n3_ n4_ n5_ n6_ n7_ n8_ n9_ n10_ n11_ n12_; clear hb hbox hg; have hnb26 := NB298_249.out; have hnc26 := NB249_298.out; have hnb27 := NB298_282.out; have hnc27 := NB282_298.out; obtain ⟨hcz28_0, hcz28_1, hcz28_2, hcz28_3, hcz28_4, hcz28_5, hcz28_6, hcz28_7, hcz28_8, hcz28_9, hcz28_10, hcz28_11, hcz28_12⟩ := cl13 BK298.out; obtain ⟨hfz28_0, hfz28_1, hfz28_2, hfz28_3, hfz28_4, hfz28_5, hfz28_6, hfz28_7, hfz28_8, hfz28_9, hfz28_10, hfz28_11, hfz28_12⟩ := fr13 BK298.out; obtain ⟨Ao29, co29, eo29⟩ := Kd.R_slice HO294.out; subst eo29) | ((with_reducible refine gate_callee (f := 64) rfl ?_); refine goesL_ (some 29) rfl rfl Try.func64 B7x38_ rfl #[.agg #[.int .i64 t283, .int .i64 t284, .int .i64 t285, .int .i64 t286, .string t287, .int .i64 t288, .int .i64 t289, .bool t290, .string t291, .slice Ao29 t292.length co29, .bool t295, .int .i64 t296, .int .i64 t297]] rfl B7x9_ ?_; (with_reducible refine (impl_Shut.calls k t283 t284 t285 t286 t287 t288 t289 t290 t291 _ _ t292 t295 t296 t297 t299 t300 t301 t302 t303 t304 t305 t306 t307 t308 t311 t312 t313 t314 _ ?side1 ?side2 A10.out).mono ?_); (case side1 => refine (Kd.R_reads' (e := 112) (base := w.heap.size) (ok := fun k_ => ((True ∧ some k_ ≠ (.slice Ao17 t260.length co17 : Value).ownBlock) ∧ some k_ ≠ (.slice Ao22 t275.length co22 : Value).ownBlock)) (n := t292.length) (c := co29) ?_).2.2; exact B7x8_); (case side2 => exact (Kd.R_reads' HO294.out).2.1); rintro e w30 ⟨v309, rfl, ho0, hb⟩; refine ⟨_, rfl, ?_⟩; have n0_ := Aside0.mk (Kd.R_elder' B7x29_ (Kd.R_base ho0) hb); have n1_ := Aside0.mk (Kd.R_elder' B7x30_ (Kd.R_base ho0) hb); have n2_ := Aside0.mk (Kd.R_elder' B7x8_ (Kd.R_base ho0) hb); have n3_ := Aside0.mk (Kd.R_lower (Kd.R_new' (Kd.R_new' (Kd.R_new' ho0 (Kd.R_lt B7x29_)) (Kd.R_lt B7x30_)) (Kd.R_lt B7x8_)) (below_size B7x34_)); have n4_ := Aside0.mk (blk_below (g := gb249) (o := .cells #[.int .i64 a0_0, .int .i64 a0_1, .int .i64 a0_2, .int .i64 a0_3, .string a0_4, .int .i64 a0_5, .int .i64 a0_6, .bool a0_7, .string a0_8, .slice A0_9 l0_9.length c0_9, .bool a0_10, .int .i64 a0_11, .int .i64 a0_12] 24 (0, 0)) (by (with_reducible repeat (first | refine blk_drewN ?_ _ | refine blk_drew ?_ | refine blk_alloc ?_ _)); refine blk_far ?_ NB249_298.out _; (with_reducible repeat (first | refine blk_drewN ?_ _ | refine blk_drew ?_ | refine blk_alloc ?_ _)); refine blk_far ?_ NB249_298.out _; (with_reducible repeat (first | refine blk_drewN ?_ _ | refine blk_drew ?_ | refine blk_alloc ?_ _)); refine blk_far ?_ NB249_298.out _; (with_reducible repeat (first | refine blk_drewN ?_ _ | refine blk_drew ?_ | refine blk_alloc ?_ _)); refine blk_far ?_ NB249_298.out _; (with_reducible repeat (first | refine blk_drewN ?_ _ | refine blk_drew ?_ | refine blk_alloc ?_ _)); refine blk_far ?_ NB249_298.out _; (with_reducible repeat (first | refine blk_drewN ?_ _ | refine blk_drew ?_ | refine blk_alloc ?_ _)); refine blk_far ?_ NB249_298.out _; (with_reducible repeat (first | refine blk_drewN ?_ _ | refine blk_drew ?_ | refine blk_alloc ?_ _)); refine blk_far ?_ NB249_298.out _; (with_reducible repeat (first | refine blk_drewN ?_ _ | refine blk_drew ?_ | refine blk_alloc ?_ _)); refine blk_far ?_ NB249_298.out _; (with_reducible repeat (first | refine blk_drewN ?_ _ | refine blk_drew ?_ | refine blk_alloc ?_ _)); refine blk_far ?_ NB249_298.out _; (with_reducible repeat (first | refine blk_drewN ?_ _ | refine blk_drew ?_ | refine blk_alloc ?_ _)); refine blk_far ?_ NB249_298.out _; (with_reducible repeat (first | refine blk_drewN ?_ _ | refine blk_drew ?_ | refine blk_alloc ?_ _)); refine blk_far ?_ NB249_298.out _; (with_reducible repeat (first | refine blk_drewN ?_ _ | refine blk_drew ?_ | refine blk_alloc ?_ _)); refine blk_far ?_ NB249_298.out _; (with_reducible repeat (first | refine blk_drewN ?_ _ | refine blk_drew ?_ | refine blk_alloc ?_ _)); refine blk_far ?_ NB249_298.out _; (with_reducible repeat (first | refine blk_drewN ?_ _ | refine blk_drew ?_ | refine blk_alloc ?_ _)); exact BK249.out) hb); have n5_ := Aside0.mk (blk_below (g := gb282) (o := .cells #[.int .i64 t266, .int .i64 t267, .int .i64 t268, .int .i64 t269, .string t270, .int .i64 t271, .int .i64 t272, .bool t273, .string t274, .slice Ao22 t275.length co22, .bool t278, .int .i64 t279, .int .i64 t280] 29 (0, 0)) (by (with_reducible repeat (first | refine blk_drewN ?_ _ | refine blk_drew ?_ | refine blk_alloc ?_ _)); refine blk_far ?_ NB282_298.out _; (with_reducible repeat (first | refine blk_drewN ?_ _ | refine blk_drew ?_ | refine blk_alloc ?_ _)); refine blk_far ?_ NB282_298.out _; (with_reducible repeat (first | refine blk_drewN ?_ _ | refine blk_drew ?_ | refine blk_alloc ?_ _)); refine blk_far ?_ NB282_298.out _; (with_reducible repeat (first | refine blk_drewN ?_ _ | refine blk_drew ?_ | refine blk_alloc ?_ _)); refine blk_far ?_ NB282_298.out _; (with_reducible repeat (first | refine blk_drewN ?_ _ | refine blk_drew ?_ | refine blk_alloc ?_ _)); refine blk_far ?_ NB282_298.out _; (with_reducible repeat (first | refine blk_drewN ?_ _ | refine blk_drew ?_ | refine blk_alloc ?_ _)); refine blk_far ?_ NB282_298.out _; (with_reducible repeat (first | refine blk_drewN ?_ _ | refine blk_drew ?_ | refine blk_alloc ?_ _)); refine blk_far ?_ NB282_298.out _; (with_reducible repeat (first | refine blk_drewN ?_ _ | refine blk_drew ?_ | refine blk_alloc ?_ _)); refine blk_far ?_ NB282_298.out _; (with_reducible repeat (first | refine blk_drewN ?_ _ | refine blk_drew ?_ | refine blk_alloc ?_ _)); refine blk_far ?_ NB282_298.out _; (with_reducible repeat (first | refine blk_drewN ?_ _ | refine blk_drew ?_ | refine blk_alloc ?_ _)); refine blk_far ?_ NB282_298.out _; (with_reducible repeat (first | refine blk_drewN ?_ _ | refine blk_drew ?_ | refine blk_alloc ?_ _)); refine blk_far ?_ NB282_298.out _; (with_reducible repeat (first | refine blk_drewN ?_ _ | refine blk_drew ?_ | refine blk_alloc ?_ _)); refine blk_far ?_ NB282_298.out _; (with_reducible repeat (first | refine blk_drewN ?_ _ | refine blk_drew ?_ | refine blk_alloc ?_ _)); refine blk_far ?_ NB282_298.out _; (with_reducible repeat (first | refine blk_drewN ?_ _ | refine blk_drew ?_ | refine blk_alloc ?_ _)); exact BK282.out) hb); have n6_ := Aside0.mk (blk_below (g := gb298) (o := .cells #[.int .i64 t283, .int .i64 t284, .int .i64 t285, .int .i64 t286, .string t287, .int .i64 t288, .int .i64 t289, .bool t290, .string t291, .slice Ao29 t292.length co29, .bool t295, .int .i64 t296, .int .i64 t297] 29 (0, 0)) (by (with_reducible repeat (first | refine blk_drewN ?_ _ | refine blk_drew ?_ | refine blk_alloc ?_ _)); refine blk_put (cs := #[.int .i64 t283, .int .i64 t284, .int .i64 t285, .int .i64 t286, .string t287, .int .i64 t288, .int .i64 t289, .bool t290, .string t291, .slice Ao29 t292.length co29, .bool t295, .int .i64 t296, .int .i64 0]) ?_ 12 _ rfl; (with_reducible repeat (first | refine blk_drewN ?_ _ | refine blk_drew ?_ | refine blk_alloc ?_ _)); refine blk_put (cs := #[.int .i64 t283, .int .i64 t284, .int .i64 t285, .int .i64 t286, .string t287, .int .i64 t288, .int .i64 t289, .bool t290, .string t291, .slice Ao29 t292.length co29, .bool t295, .int .i64 0, .int .i64 0]) ?_ 11 _ rfl; (with_reducible repeat (first | refine blk_drewN ?_ _ | refine blk_drew ?_ | refine blk_alloc ?_ _)); refine blk_put (cs := #[.int .i64 t283, .int .i64 t284, .int .i64 t285, .int .i64 t286, .string t287, .int .i64 t288, .int .i64 t289, .bool t290, .string t291, .slice Ao29 t292.length co29, .bool false, .int .i64 0, .int .i64 0]) ?_ 10 _ rfl; (with_reducible repeat (first | refine blk_drewN ?_ _ | refine blk_drew ?_ | refine blk_alloc ?_ _)); refine blk_put (cs := #[.int .i64 t283, .int .i64 t284, .int .i64 t285, .int .i64 t286, .string t287, .int .i64 t288, .int .i64 t289, .bool t290, .string t291, .slice none 0 0, .bool false, .int .i64 0, .int .i64 0]) ?_ 9 _ rfl; (with_reducible repeat (first | refine blk_drewN ?_ _ | refine blk_drew ?_ | refine blk_alloc ?_ _)); refine blk_put (cs := #[.int .i64 t283, .int .i64 t284, .int .i64 t285, .int .i64 t286, .string t287, .int .i64 t288, .int .i64 t289, .bool t290, .string (⟨#[]⟩ : ByteArray), .slice none 0 0, .bool false, .int .i64 0, .int .i64 0]) ?_ 8 _ rfl; (with_reducible repeat (first | refine blk_drewN ?_ _ | refine blk_drew ?_ | refine blk_alloc ?_ _)); refine blk_put (cs := #[.int .i64 t283, .int .i64 t284, .int .i64 t285, .int .i64 t286, .string t287, .int .i64 t288, .int .i64 t289, .bool false, .string (⟨#[]⟩ : ByteArray), .slice none 0 0, .bool false, .int .i64 0, .int .i64 0]) ?_ 7 _ rfl; (with_reducible repeat (first | refine blk_drewN ?_ _ | refine blk_drew ?_ | refine blk_alloc ?_ _)); refine blk_put (cs := #[.int .i64 t283, .int .i64 t284, .int .i64 t285, .int .i64 t286, .string t287, .int .i64 t288, .int .i64 0, .bool false, .string (⟨#[]⟩ : ByteArray), .slice none 0 0, .bool false, .int .i64 0, .int .i64 0]) ?_ 6 _ rfl; (with_reducible repeat (first | refine blk_drewN ?_ _ | refine blk_drew ?_ | refine blk_alloc ?_ _)); refine blk_put (cs := #[.int .i64 t283, .int .i64 t284, .int .i64 t285, .int .i64 t286, .string t287, .int .i64 0, .int .i64 0, .bool false, .string (⟨#[]⟩ : ByteArray), .slice none 0 0, .bool false, .int .i64 0, .int .i64 0]) ?_ 5 _ rfl; (with_reducible repeat (first | refine blk_drewN ?_ _ | refine blk_drew ?_ | refine blk_alloc ?_ _)); refine blk_put (cs := #[.int .i64 t283, .int .i64 t284, .int .i64 t285, .int .i64 t286, .string (⟨#[]⟩ : ByteArray), .int .i64 0, .int .i64 0, .bool false, .string (⟨#[]⟩ : ByteArray), .slice none 0 0, .bool false, .int .i64 0, .int .i64 0]) ?_ 4 _ rfl; (with_reducible repeat (first | refine blk_drewN ?_ _ | refine blk_drew ?_ | refine blk_alloc ?_ _)); refine blk_put (cs := #[.int .i64 t283, .int .i64 t284, .int .i64 t285, .int .i64 0, .string (⟨#[]⟩ : ByteArray), .int .i64 0, .int .i64 0, .bool false, .string (⟨#[]⟩ : ByteArray), .slice none 0 0, .bool false, .int .i64 0, .int .i64 0]) ?_ 3 _ rfl; (with_reducible repeat (first | refine blk_drewN ?_ _ | refine blk_drew ?_ | refine blk_alloc ?_ _)); refine blk_put (cs := #[.int .i64 t283, .int .i64 t284, .int .i64 0, .int .i64 0, .string (⟨#[]⟩ : ByteArray), .int .i64 0, .int .i64 0, .bool false, .string (⟨#[]⟩ : ByteArray), .slice none 0 0, .bool false, .int .i64 0, .int .i64 0]) ?_ 2 _ rfl; (with_reducible repeat (first | refine blk_drewN ?_ _ | refine blk_drew ?_ | refine blk_alloc ?_ _)); refine blk_put (cs := #[.int .i64 t283, .int .i64 0, .int .i64 0, .int .i64 0, .string (⟨#[]⟩ : ByteArray), .int .i64 0, .int .i64 0, .bool false, .string (⟨#[]⟩ : ByteArray), .slice none 0 0, .bool false, .int .i64 0, .int .i64 0]) ?_ 1 _ rfl; (with_reducible repeat (first | refine blk_drewN ?_ _ | refine blk_drew ?_ | refine blk_alloc ?_ _)); refine blk_put (cs := #[.int .i64 0, .int .i64 0, .int .i64 0, .int .i64 0, .string (⟨#[]⟩ : ByteArray), .int .i64 0, .int .i64 0, .bool false, .string (⟨#[]⟩ : ByteArray), .slice none 0 0, .bool false, .int .i64 0, .int .i64 0]) ?_ 0 _ rfl; (with_reducible repeat (first | refine blk_drewN ?_ _ | refine blk_drew ?_ | refine blk_alloc ?_ _)); exact BK298.out) hb); have n7_ := Aside0.mk (below_step B7x34_ hb); clear HO262; clear HO277; clear HO294; clear BK249; clear BK282; clear BK298; clear HB; have HO262 := n0_; have HO277 := n1_; have HO294 := n2_; have HO310 := n3_; have BK249 := n4_; have BK282 := n5_; have BK298 := n6_; have HB := n7_; clear n0_ n1_ n2_ n3_ n4_ n5_ n6_ n7_; (try clear hb); (try clear hb2); (try clear hk); (try clear hi); (try clear ho0)) | ((with_reducible refine gate_dst (N := 7) rfl ?_); refine box_event ?hg (N := 7) ?hd (cs := #[.int .i64 0, .int .i64 0, .int .i64 0, .int .i64 0, .string (⟨#[]⟩ : ByteArray), .int .i64 0, .int .i64 0, .bool false, .string (⟨#[]⟩ : ByteArray), .slice none 0 0, .bool false, .int .i64 0, .int .i64 0]) (t := 29) ?hr ?_; (case hd => rfl); (case hg => rfl); (case hr => first | (go_simp; done) | (go_simp; rfl)); intro gb315 hg w31 hbox hb; have n0_ := Aside0.mk (Kd.R_below B7x37_ hb); have n1_ := Aside0.mk (Kd.R_below B7x39_ hb); have n2_ := Aside0.mk (Kd.R_below B7x42_ hb); have n3_ := Aside0.mk (Kd.R_below (by (with_reducible repeat (first | apply Kd.R_alloc | apply Kd.R_drewN | apply Kd.R_drew)); exact HO310.out) hb); have n4_ := Aside0.mk (blk_below (g := gb249) (o := .cells #[.int .i64 a0_0, .int .i64 a0_1, .int .i64 a0_2, .int .i64 a0_3, .string a0_4, .int .i64 a0_5, .int .i64 a0_6, .bool a0_7, .string a0_8, .slice A0_9 l0_9.length c0_9, .bool a0_10, .int .i64 a0_11, .int .i64 a0_12] 24 (0, 0)) B7x7_ hb); have n5_ := Aside0.mk (blk_below (g := gb282) (o := .cells #[.int .i64 t266, .int .i64 t267, .int .i64 t268, .int .i64 t269, .string t270, .int .i64 t271, .int .i64 t272, .bool t273, .string t274, .slice Ao22 t275.length co22, .bool t278, .int .i64 t279, .int .i64 t280] 29 (0, 0)) B7x10_ hb); have n6_ := Aside0.mk (blk_below (g := gb298) (o := .cells #[.int .i64 t283, .int .i64 t284, .int .i64 t285, .int .i64 t286, .string t287, .int .i64 t288, .int .i64 t289, .bool t290, .string t291, .slice Ao29 t292.length co29, .bool t295, .int .i64 t296, .int .i64 t297] 29 (0, 0)) B7x18_ hb); have n7_ := Aside0.mk (below_step B7x34_ hb); have n8_ := Aside0.mk (hbox); have n9_ := Aside0.mk ((by rw [hg]; exact (below_size B7x34_) : w.heap.size ≤ gb315)); have n10_ := Aside0.mk ((by rw [hg]; exact (below_size B7x34_) : w.heap.size ≤ gb315)); have n11_ := Aside0.mk ((by rw [hg]; exact Nat.ne_of_lt (blk_lt (g := gb249) (o := .cells #[.int .i64 a0_0, .int .i64 a0_1, .int .i64 a0_2, .int .i64 a0_3, .string a0_4, .int .i64 a0_5, .int .i64 a0_6, .bool a0_7, .string a0_8, .slice A0_9 l0_9.length c0_9, .bool a0_10, .int .i64 a0_11, .int .i64 a0_12] 24 (0, 0)) B7x7_) : gb249 ≠ gb315)); have n12_ := Aside0.mk ((by rw [hg]; exact Nat.ne_of_gt (blk_lt (g := gb249) (o := .cells #[.int .i64 a0_0, .int .i64 a0_1, .int .i64 a0_2, .int .i64 a0_3, .string a0_4, .int .i64 a0_5, .int .i64 a0_6, .bool a0_7, .string a0_8, .slice A0_9 l0_9.length c0_9, .bool a0_10, .int .i64 a0_11, .int .i64 a0_12] 24 (0, 0)) B7x7_) : gb315 ≠ gb249)); have n13_ := Aside0.mk ((by rw [hg]; exact Nat.ne_of_lt (blk_lt (g := gb282) (o := .cells #[.int .i64 t266, .int .i64 t267, .int .i64 t268, .int .i64 t269, .string t270, .int .i64 t271, .int .i64 t272, .bool t273, .string t274, .slice Ao22 t275.length co22, .bool t278, .int .i64 t279, .int .i64 t280] 29 (0, 0)) B7x10_) : gb282 ≠ gb315)); have n14_ := Aside0.mk ((by rw [hg]; exact Nat.ne_of_gt (blk_lt (g := gb282) (o := .cells #[.int .i64 t266, .int .i64 t267, .int .i64 t268, .int .i64 t269, .string t270, .int .i64 t271, .int .i64 t272, .bool t273, .string t274, .slice Ao22 t275.length co22, .bool t278, .int .i64 t279, .int .i64 t280] 29 (0, 0)) B7x10_) : gb315 ≠ gb282)); have n15_ := Aside0.mk ((by rw [hg]; exact Nat.ne_of_lt (blk_lt (g := gb298) (o := .cells #[.int .i64 t283, .int .i64 t284, .int .i64 t285, .int .i64 t286, .string t287, .int .i64 t288, .int .i64 t289, .bool t290, .string t291, .slice Ao29 t292.length co29, .bool t295, .int .i64 t296, .int .i64 t297] 29 (0, 0)) B7x18_) : gb298 ≠ gb315)); have n16_ := Aside0.mk ((by rw [hg]; exact Nat.ne_of_gt (blk_lt (g := gb298) (o := .cells #[.int .i64 t283, .int .i64 t284, .int .i64 t285, .int .i64 t286, .string t287, .int .i64 t288, .int .i64 t289, .bool t290, .string t291, .slice Ao29 t292.length co29, .bool t295, .int .i64 t296, .int .i64 t297] 29 (0, 0)) B7x18_) : gb315 ≠ gb298)); clear HO262; clear HO277; clear HO294; clear HO310; clear BK249; clear BK282; clear BK298; clear HB; have HO262 := n0_; have HO277 := n1_; have HO294 := n2_; have HO310 := n3_; have BK249 := n4_; have BK282 := n5_; have BK298 := n6_; have HB := n7_; have BK315 := n8_; have GW315 := n9_; have GE315 := n10_; have NB249_315 := n11_; have NB315_249 := n12_; have NB282_315 := n13_; have NB315_282 := n14_; have NB298_315 := n15_; have NB315_298 := n16_; clear n0_ n1_ n2_ n3_ n4_ n5_ n6_ n7_ n8_ n9_ n10_ n11_ n12_ n13_ n14_ n15_ n16_; clear hb hbox hg; have hnb32 := NB315_249.out; have hnc32 := NB249_315.out; have hnb33 := NB315_282.out; have hnc33 := NB282_315.out; have hnb34 := NB315_298.out; have hnc34 := NB298_315.out; obtain ⟨hcz35_0, hcz35_1, hcz35_2, hcz35_3, hcz35_4, hcz35_5, hcz35_6, hcz35_7, hcz35_8, hcz35_9, hcz35_10, hcz35_11, hcz35_12⟩ := cl13 BK315.out; obtain ⟨hfz35_0, hfz35_1, hfz35_2, hfz35_3, hfz35_4, hfz35_5, hfz35_6, hfz35_7, hfz35_8, hfz35_9, hfz35_10, hfz35_11, hfz35_12⟩ := fr13 BK315.out; obtain ⟨Ao36, co36, eo36⟩ := Kd.R_slice HO310.out; subst eo36))
  (try simp only [Act.put, List.setIfInBounds_toArray, List.set_cons_zero, List.set_cons_succ])
  go_cut [40] (fun v40 wc => ∃ (kq : Nat) (x40_10 : Bool), v40 = .bool x40_10 ∧ Aside0 (laws_FnExactShut.j0 kq t281 t314 x40_10 a0_0 a0_1 a0_2 a0_3 a0_4 a0_5 a0_6 a0_7 a0_8 l0_9 a0_10 a0_11 a0_12 t266 t267 t268 t269 t270 t271 t272 t273 t274 t275 t278 t279 t280 t283 t284 t285 t286 t287 t288 t289 t290 t291 t292 t295 t296 t297 t299 t300 t301 t302 t303 t304 t305 t306 t307 t308 t311 t312 t313 = some r) ∧ Aside0 (kq ≤ k) ∧ Aside0 (Kd.R k112 112 wc w.heap.size (fun k_ => some k_ ≠ ((.slice Ao29 t292.length co29) : Value).ownBlock ∧ some k_ ≠ ((.slice Ao36 t308.length co36) : Value).ownBlock) (.slice Ao22 t275.length co22) t275) ∧ Aside0 (Kd.R k112 112 wc w.heap.size (fun k_ => some k_ ≠ ((.slice Ao22 t275.length co22) : Value).ownBlock ∧ some k_ ≠ ((.slice Ao36 t308.length co36) : Value).ownBlock) (.slice Ao29 t292.length co29) t292) ∧ Aside0 (Kd.R k112 112 wc w.heap.size (fun k_ => some k_ ≠ ((.slice Ao22 t275.length co22) : Value).ownBlock ∧ some k_ ≠ ((.slice Ao29 t292.length co29) : Value).ownBlock) (.slice Ao36 t308.length co36) t308) ∧ Aside0 (wc.heap[gb249]? = some (.cells #[.int .i64 a0_0, .int .i64 a0_1, .int .i64 a0_2, .int .i64 a0_3, .string a0_4, .int .i64 a0_5, .int .i64 a0_6, .bool a0_7, .string a0_8, (.slice A0_9 l0_9.length c0_9), .bool a0_10, .int .i64 a0_11, .int .i64 a0_12] 24 (0, 0))) ∧ Aside0 (wc.heap[gb282]? = some (.cells #[.int .i64 t266, .int .i64 t267, .int .i64 t268, .int .i64 t269, .string t270, .int .i64 t271, .int .i64 t272, .bool t273, .string t274, (.slice Ao22 t275.length co22), .bool t278, .int .i64 t279, .int .i64 t280] 29 (0, 0))) ∧ Aside0 (wc.heap[gb298]? = some (.cells #[.int .i64 t283, .int .i64 t284, .int .i64 t285, .int .i64 t286, .string t287, .int .i64 t288, .int .i64 t289, .bool t290, .string t291, (.slice Ao29 t292.length co29), .bool t295, .int .i64 t296, .int .i64 t297] 29 (0, 0))) ∧ Aside0 (wc.heap[gb315]? = some (.cells #[.int .i64 t299, .int .i64 t300, .int .i64 t301, .int .i64 t302, .string t303, .int .i64 t304, .int .i64 t305, .bool t306, .string t307, (.slice Ao36 t308.length co36), .bool t311, .int .i64 t312, .int .i64 t313] 29 (0, 0))) ∧ Aside0 (Below w.heap.size w wc))
  case first =>
   have H := HC11.out
   clear HC11
   replace H := Option.bind_eq_some_iff.mp H
   obtain ⟨t316, A370, H⟩ := H
   (try dsimp only at H)
   have A37 := Aside0.mk A370
   clear A370
   by_cases c38 : t316 = true
   ·subst c38
    rw [if_pos rfl] at H
    have H' := Aside0.mk H
    clear H
    have hnb39 := NB315_249.out
    have hnc39 := NB249_315.out
    have hnb40 := NB315_282.out
    have hnc40 := NB282_315.out
    have hnb41 := NB315_298.out
    have hnc41 := NB298_315.out
    obtain ⟨hcz42_0, hcz42_1, hcz42_2, hcz42_3, hcz42_4, hcz42_5, hcz42_6, hcz42_7, hcz42_8, hcz42_9, hcz42_10, hcz42_11, hcz42_12⟩ := cl13 BK315.out
    obtain ⟨hfz42_0, hfz42_1, hfz42_2, hfz42_3, hfz42_4, hfz42_5, hfz42_6, hfz42_7, hfz42_8, hfz42_9, hfz42_10, hfz42_11, hfz42_12⟩ := fr13 BK315.out
    have hnb43 := NB282_249.out
    have hnc43 := NB249_282.out
    have hnb44 := NB282_298.out
    have hnc44 := NB298_282.out
    obtain ⟨hcz45_0, hcz45_1, hcz45_2, hcz45_3, hcz45_4, hcz45_5, hcz45_6, hcz45_7, hcz45_8, hcz45_9, hcz45_10, hcz45_11, hcz45_12⟩ := cl13 BK282.out
    obtain ⟨hfz45_0, hfz45_1, hfz45_2, hfz45_3, hfz45_4, hfz45_5, hfz45_6, hfz45_7, hfz45_8, hfz45_9, hfz45_10, hfz45_11, hfz45_12⟩ := fr13 BK282.out
    go_wp2_with (first | ((with_reducible refine gate_callee (f := 19) rfl ?_); refine goesL_ (some 34) rfl rfl Try.func19 B7x38_ rfl #[.agg #[.int .i64 t299, .int .i64 t300, .int .i64 t301, .int .i64 t302, .string t303, .int .i64 t304, .int .i64 t305, .bool t306, .string t307, .slice Ao36 t308.length co36, .bool t311, .int .i64 t312, .int .i64 t313], .agg #[.int .i64 t266, .int .i64 t267, .int .i64 t268, .int .i64 t269, .string t270, .int .i64 t271, .int .i64 t272, .bool t273, .string t274, .slice Ao22 t275.length co22, .bool t278, .int .i64 t279, .int .i64 t280]] rfl B7x9_ ?_; (with_reducible refine (laws_eqStream.calls k t299 t300 t301 t302 t303 t304 t305 t306 t307 _ _ t308 t311 t312 t313 t266 t267 t268 t269 t270 t271 t272 t273 t274 _ _ t275 t278 t279 t280 true _ ?side1 ?side2 ?side3 ?side4 A37.out).mono ?_); (case side1 => refine (Kd.R_reads' (e := 112) (base := w.heap.size) (ok := fun k_ => (((True ∧ some k_ ≠ (.slice Ao17 t260.length co17 : Value).ownBlock) ∧ some k_ ≠ (.slice Ao22 t275.length co22 : Value).ownBlock) ∧ some k_ ≠ (.slice Ao29 t292.length co29 : Value).ownBlock)) (n := t308.length) (c := co36) ?_).2.2; exact B7x6_); (case side2 => exact (Kd.R_reads' HO310.out).2.1); (case side3 => refine (Kd.R_reads' (e := 112) (base := w.heap.size) (ok := fun k_ => (((True ∧ some k_ ≠ (.slice Ao17 t260.length co17 : Value).ownBlock) ∧ some k_ ≠ (.slice Ao29 t292.length co29 : Value).ownBlock) ∧ some k_ ≠ (.slice Ao36 t308.length co36 : Value).ownBlock)) (n := t275.length) (c := co22) ?_).2.2; exact B7x5_); (case side4 => exact (Kd.R_reads' HO277.out).2.1); rintro e w46 ⟨rfl, hb⟩; refine ⟨_, rfl, ?_⟩; have n0_ := Aside0.mk (Kd.R_below B7x31_ hb); have n1_ := Aside0.mk (Kd.R_below B7x5_ hb); have n2_ := Aside0.mk (Kd.R_below B7x32_ hb); have n3_ := Aside0.mk (Kd.R_below B7x6_ hb); have n4_ := Aside0.mk (blk_below (g := gb249) (o := .cells #[.int .i64 a0_0, .int .i64 a0_1, .int .i64 a0_2, .int .i64 a0_3, .string a0_4, .int .i64 a0_5, .int .i64 a0_6, .bool a0_7, .string a0_8, .slice A0_9 l0_9.length c0_9, .bool a0_10, .int .i64 a0_11, .int .i64 a0_12] 24 (0, 0)) B7x11_ hb); have n5_ := Aside0.mk (blk_below (g := gb282) (o := .cells #[.int .i64 t266, .int .i64 t267, .int .i64 t268, .int .i64 t269, .string t270, .int .i64 t271, .int .i64 t272, .bool t273, .string t274, .slice Ao22 t275.length co22, .bool t278, .int .i64 t279, .int .i64 t280] 29 (0, 0)) B7x13_ hb); have n6_ := Aside0.mk (blk_below (g := gb298) (o := .cells #[.int .i64 t283, .int .i64 t284, .int .i64 t285, .int .i64 t286, .string t287, .int .i64 t288, .int .i64 t289, .bool t290, .string t291, .slice Ao29 t292.length co29, .bool t295, .int .i64 t296, .int .i64 t297] 29 (0, 0)) B7x15_ hb); have n7_ := Aside0.mk (blk_below (g := gb315) (o := .cells #[.int .i64 t299, .int .i64 t300, .int .i64 t301, .int .i64 t302, .string t303, .int .i64 t304, .int .i64 t305, .bool t306, .string t307, .slice Ao36 t308.length co36, .bool t311, .int .i64 t312, .int .i64 t313] 29 (0, 0)) B7x1_ hb); have n8_ := Aside0.mk (below_step B7x2_ hb); clear HO262; clear HO277; clear HO294; clear HO310; clear BK249; clear BK282; clear BK298; clear BK315; clear HB; have HO262 := n0_; have HO277 := n1_; have HO294 := n2_; have HO310 := n3_; have BK249 := n4_; have BK282 := n5_; have BK298 := n6_; have BK315 := n7_; have HB := n8_; clear n0_ n1_ n2_ n3_ n4_ n5_ n6_ n7_ n8_; (try clear hb); (try clear hb2); (try clear hk); (try clear hi)))
    go_meet
    case rel => exact ⟨_, ((t314 != t281)), (be_), H', ⟨by first | omega | exact Nat.le_refl _⟩, ⟨by (with_reducible repeat (first | apply Kd.R_alloc | apply Kd.R_drewN | apply Kd.R_drew)); exact Kd.R_mono HO277.out (fun _ hk => ⟨hk.1.2, hk.2⟩)⟩, ⟨by (with_reducible repeat (first | apply Kd.R_alloc | apply Kd.R_drewN | apply Kd.R_drew)); exact Kd.R_mono HO294.out (fun _ hk => ⟨hk.1.2, hk.2⟩)⟩, ⟨by (with_reducible repeat (first | apply Kd.R_alloc | apply Kd.R_drewN | apply Kd.R_drew)); exact Kd.R_mono HO310.out (fun _ hk => ⟨hk.1.2, hk.2⟩)⟩, ⟨by (with_reducible repeat (first | refine blk_drewN ?_ _ | refine blk_drew ?_ | refine blk_alloc ?_ _)); exact BK249.out⟩, ⟨by (with_reducible repeat (first | refine blk_drewN ?_ _ | refine blk_drew ?_ | refine blk_alloc ?_ _)); exact BK282.out⟩, ⟨by (with_reducible repeat (first | refine blk_drewN ?_ _ | refine blk_drew ?_ | refine blk_alloc ?_ _)); exact BK298.out⟩, ⟨by (with_reducible repeat (first | refine blk_drewN ?_ _ | refine blk_drew ?_ | refine blk_alloc ?_ _)); exact BK315.out⟩, ⟨by repeat (first | (with_reducible first | exact HB.out | apply below_alloc | apply pw_below_drewN | apply below_drew1 | refine below_set ?_ GE249.out | refine below_set ?_ GE282.out | refine below_set ?_ GE298.out | refine below_set ?_ GE315.out) | exact HB.out)⟩⟩
   ·replace c38 := Bool.eq_false_iff.mpr c38
    subst c38
    rw [if_neg (show ¬ (false = true) by decide)] at H
    have H' := Aside0.mk H
    clear H
    have hnb47 := NB315_249.out
    have hnc47 := NB249_315.out
    have hnb48 := NB315_282.out
    have hnc48 := NB282_315.out
    have hnb49 := NB315_298.out
    have hnc49 := NB298_315.out
    obtain ⟨hcz50_0, hcz50_1, hcz50_2, hcz50_3, hcz50_4, hcz50_5, hcz50_6, hcz50_7, hcz50_8, hcz50_9, hcz50_10, hcz50_11, hcz50_12⟩ := cl13 BK315.out
    obtain ⟨hfz50_0, hfz50_1, hfz50_2, hfz50_3, hfz50_4, hfz50_5, hfz50_6, hfz50_7, hfz50_8, hfz50_9, hfz50_10, hfz50_11, hfz50_12⟩ := fr13 BK315.out
    have hnb51 := NB282_249.out
    have hnc51 := NB249_282.out
    have hnb52 := NB282_298.out
    have hnc52 := NB298_282.out
    obtain ⟨hcz53_0, hcz53_1, hcz53_2, hcz53_3, hcz53_4, hcz53_5, hcz53_6, hcz53_7, hcz53_8, hcz53_9, hcz53_10, hcz53_11, hcz53_12⟩ := cl13 BK282.out
    obtain ⟨hfz53_0, hfz53_1, hfz53_2, hfz53_3, hfz53_4, hfz53_5, hfz53_6, hfz53_7, hfz53_8, hfz53_9, hfz53_10, hfz53_11, hfz53_12⟩ := fr13 BK282.out
    go_wp2_with (first | ((with_reducible refine gate_callee (f := 19) rfl ?_); refine goesL_ (some 34) rfl rfl Try.func19 B7x38_ rfl #[.agg #[.int .i64 t299, .int .i64 t300, .int .i64 t301, .int .i64 t302, .string t303, .int .i64 t304, .int .i64 t305, .bool t306, .string t307, .slice Ao36 t308.length co36, .bool t311, .int .i64 t312, .int .i64 t313], .agg #[.int .i64 t266, .int .i64 t267, .int .i64 t268, .int .i64 t269, .string t270, .int .i64 t271, .int .i64 t272, .bool t273, .string t274, .slice Ao22 t275.length co22, .bool t278, .int .i64 t279, .int .i64 t280]] rfl B7x9_ ?_; (with_reducible refine (laws_eqStream.calls k t299 t300 t301 t302 t303 t304 t305 t306 t307 _ _ t308 t311 t312 t313 t266 t267 t268 t269 t270 t271 t272 t273 t274 _ _ t275 t278 t279 t280 false _ ?side1 ?side2 ?side3 ?side4 A37.out).mono ?_); (case side1 => refine (Kd.R_reads' (e := 112) (base := w.heap.size) (ok := fun k_ => (((True ∧ some k_ ≠ (.slice Ao17 t260.length co17 : Value).ownBlock) ∧ some k_ ≠ (.slice Ao22 t275.length co22 : Value).ownBlock) ∧ some k_ ≠ (.slice Ao29 t292.length co29 : Value).ownBlock)) (n := t308.length) (c := co36) ?_).2.2; exact B7x6_); (case side2 => exact (Kd.R_reads' HO310.out).2.1); (case side3 => refine (Kd.R_reads' (e := 112) (base := w.heap.size) (ok := fun k_ => (((True ∧ some k_ ≠ (.slice Ao17 t260.length co17 : Value).ownBlock) ∧ some k_ ≠ (.slice Ao29 t292.length co29 : Value).ownBlock) ∧ some k_ ≠ (.slice Ao36 t308.length co36 : Value).ownBlock)) (n := t275.length) (c := co22) ?_).2.2; exact B7x5_); (case side4 => exact (Kd.R_reads' HO277.out).2.1); rintro e w54 ⟨rfl, hb⟩; refine ⟨_, rfl, ?_⟩; have n0_ := Aside0.mk (Kd.R_below B7x31_ hb); have n1_ := Aside0.mk (Kd.R_below B7x5_ hb); have n2_ := Aside0.mk (Kd.R_below B7x32_ hb); have n3_ := Aside0.mk (Kd.R_below B7x6_ hb); have n4_ := Aside0.mk (blk_below (g := gb249) (o := .cells #[.int .i64 a0_0, .int .i64 a0_1, .int .i64 a0_2, .int .i64 a0_3, .string a0_4, .int .i64 a0_5, .int .i64 a0_6, .bool a0_7, .string a0_8, .slice A0_9 l0_9.length c0_9, .bool a0_10, .int .i64 a0_11, .int .i64 a0_12] 24 (0, 0)) B7x11_ hb); have n5_ := Aside0.mk (blk_below (g := gb282) (o := .cells #[.int .i64 t266, .int .i64 t267, .int .i64 t268, .int .i64 t269, .string t270, .int .i64 t271, .int .i64 t272, .bool t273, .string t274, .slice Ao22 t275.length co22, .bool t278, .int .i64 t279, .int .i64 t280] 29 (0, 0)) B7x13_ hb); have n6_ := Aside0.mk (blk_below (g := gb298) (o := .cells #[.int .i64 t283, .int .i64 t284, .int .i64 t285, .int .i64 t286, .string t287, .int .i64 t288, .int .i64 t289, .bool t290, .string t291, .slice Ao29 t292.length co29, .bool t295, .int .i64 t296, .int .i64 t297] 29 (0, 0)) B7x15_ hb); have n7_ := Aside0.mk (blk_below (g := gb315) (o := .cells #[.int .i64 t299, .int .i64 t300, .int .i64 t301, .int .i64 t302, .string t303, .int .i64 t304, .int .i64 t305, .bool t306, .string t307, .slice Ao36 t308.length co36, .bool t311, .int .i64 t312, .int .i64 t313] 29 (0, 0)) B7x1_ hb); have n8_ := Aside0.mk (below_step B7x2_ hb); clear HO262; clear HO277; clear HO294; clear HO310; clear BK249; clear BK282; clear BK298; clear BK315; clear HB; have HO262 := n0_; have HO277 := n1_; have HO294 := n2_; have HO310 := n3_; have BK249 := n4_; have BK282 := n5_; have BK298 := n6_; have BK315 := n7_; have HB := n8_; clear n0_ n1_ n2_ n3_ n4_ n5_ n6_ n7_ n8_; (try clear hb); (try clear hb2); (try clear hk); (try clear hi)))
    go_meet
    case rel => exact ⟨_, (true), (be_), H', ⟨by first | omega | exact Nat.le_refl _⟩, ⟨by (with_reducible repeat (first | apply Kd.R_alloc | apply Kd.R_drewN | apply Kd.R_drew)); exact Kd.R_mono HO277.out (fun _ hk => ⟨hk.1.2, hk.2⟩)⟩, ⟨by (with_reducible repeat (first | apply Kd.R_alloc | apply Kd.R_drewN | apply Kd.R_drew)); exact Kd.R_mono HO294.out (fun _ hk => ⟨hk.1.2, hk.2⟩)⟩, ⟨by (with_reducible repeat (first | apply Kd.R_alloc | apply Kd.R_drewN | apply Kd.R_drew)); exact Kd.R_mono HO310.out (fun _ hk => ⟨hk.1.2, hk.2⟩)⟩, ⟨by (with_reducible repeat (first | refine blk_drewN ?_ _ | refine blk_drew ?_ | refine blk_alloc ?_ _)); exact BK249.out⟩, ⟨by (with_reducible repeat (first | refine blk_drewN ?_ _ | refine blk_drew ?_ | refine blk_alloc ?_ _)); exact BK282.out⟩, ⟨by (with_reducible repeat (first | refine blk_drewN ?_ _ | refine blk_drew ?_ | refine blk_alloc ?_ _)); exact BK298.out⟩, ⟨by (with_reducible repeat (first | refine blk_drewN ?_ _ | refine blk_drew ?_ | refine blk_alloc ?_ _)); exact BK315.out⟩, ⟨by repeat (first | (with_reducible first | exact HB.out | apply below_alloc | apply pw_below_drewN | apply below_drew1 | refine below_set ?_ GE249.out | refine below_set ?_ GE282.out | refine below_set ?_ GE298.out | refine below_set ?_ GE315.out) | exact HB.out)⟩⟩
  case rest =>
   clear HC11
   try clear c1
   try clear c2
   try clear p2
   try clear c3
   try clear c3b0
   try clear c4
   try clear c5
   try clear c6
   try clear c11
   try clear c15
   try clear c17
   try clear c19
   try clear c20
   try clear c26
   try clear c27
   try clear c32
   try clear c33
   try clear c34
   try clear c38
   try clear c39
   try clear c40
   try clear c41
   try clear c43
   try clear c44
   try clear c47
   try clear c48
   try clear c49
   try clear c51
   try clear c52
   try clear hcz13_0
   try clear hcz13_1
   try clear hcz13_10
   try clear hcz13_11
   try clear hcz13_12
   try clear hcz13_2
   try clear hcz13_3
   try clear hcz13_4
   try clear hcz13_5
   try clear hcz13_6
   try clear hcz13_7
   try clear hcz13_8
   try clear hcz13_9
   try clear hcz15_0
   try clear hcz15_1
   try clear hcz15_10
   try clear hcz15_11
   try clear hcz15_12
   try clear hcz15_2
   try clear hcz15_3
   try clear hcz15_4
   try clear hcz15_5
   try clear hcz15_6
   try clear hcz15_7
   try clear hcz15_8
   try clear hcz15_9
   try clear hcz21_0
   try clear hcz21_1
   try clear hcz21_10
   try clear hcz21_11
   try clear hcz21_12
   try clear hcz21_2
   try clear hcz21_3
   try clear hcz21_4
   try clear hcz21_5
   try clear hcz21_6
   try clear hcz21_7
   try clear hcz21_8
   try clear hcz21_9
   try clear hcz23_0
   try clear hcz23_1
   try clear hcz23_10
   try clear hcz23_11
   try clear hcz23_12
   try clear hcz23_2
   try clear hcz23_3
   try clear hcz23_4
   try clear hcz23_5
   try clear hcz23_6
   try clear hcz23_7
   try clear hcz23_8
   try clear hcz23_9
   try clear hcz28_0
   try clear hcz28_1
   try clear hcz28_10
   try clear hcz28_11
   try clear hcz28_12
   try clear hcz28_2
   try clear hcz28_3
   try clear hcz28_4
   try clear hcz28_5
   try clear hcz28_6
   try clear hcz28_7
   try clear hcz28_8
   try clear hcz28_9
   try clear hcz35_0
   try clear hcz35_1
   try clear hcz35_10
   try clear hcz35_11
   try clear hcz35_12
   try clear hcz35_2
   try clear hcz35_3
   try clear hcz35_4
   try clear hcz35_5
   try clear hcz35_6
   try clear hcz35_7
   try clear hcz35_8
   try clear hcz35_9
   try clear hcz42_0
   try clear hcz42_1
   try clear hcz42_10
   try clear hcz42_11
   try clear hcz42_12
   try clear hcz42_2
   try clear hcz42_3
   try clear hcz42_4
   try clear hcz42_5
   try clear hcz42_6
   try clear hcz42_7
   try clear hcz42_8
   try clear hcz42_9
   try clear hcz45_0
   try clear hcz45_1
   try clear hcz45_10
   try clear hcz45_11
   try clear hcz45_12
   try clear hcz45_2
   try clear hcz45_3
   try clear hcz45_4
   try clear hcz45_5
   try clear hcz45_6
   try clear hcz45_7
   try clear hcz45_8
   try clear hcz45_9
   try clear hcz50_0
   try clear hcz50_1
   try clear hcz50_10
   try clear hcz50_11
   try clear hcz50_12
   try clear hcz50_2
   try clear hcz50_3
   try clear hcz50_4
   try clear hcz50_5
   try clear hcz50_6
   try clear hcz50_7
   try clear hcz50_8
   try clear hcz50_9
   try clear hcz53_0
   try clear hcz53_1
   try clear hcz53_10
   try clear hcz53_11
   try clear hcz53_12
   try clear hcz53_2
   try clear hcz53_3
   try clear hcz53_4
   try clear hcz53_5
   try clear hcz53_6
   try clear hcz53_7
   try clear hcz53_8
   try clear hcz53_9
   try clear hcz5_0
   try clear hcz5_1
   try clear hcz5_10
   try clear hcz5_11
   try clear hcz5_12
   try clear hcz5_2
   try clear hcz5_3
   try clear hcz5_4
   try clear hcz5_5
   try clear hcz5_6
   try clear hcz5_7
   try clear hcz5_8
   try clear hcz5_9
   try clear hfz13_0
   try clear hfz13_1
   try clear hfz13_10
   try clear hfz13_11
   try clear hfz13_12
   try clear hfz13_2
   try clear hfz13_3
   try clear hfz13_4
   try clear hfz13_5
   try clear hfz13_6
   try clear hfz13_7
   try clear hfz13_8
   try clear hfz13_9
   try clear hfz15_0
   try clear hfz15_1
   try clear hfz15_10
   try clear hfz15_11
   try clear hfz15_12
   try clear hfz15_2
   try clear hfz15_3
   try clear hfz15_4
   try clear hfz15_5
   try clear hfz15_6
   try clear hfz15_7
   try clear hfz15_8
   try clear hfz15_9
   try clear hfz21_0
   try clear hfz21_1
   try clear hfz21_10
   try clear hfz21_11
   try clear hfz21_12
   try clear hfz21_2
   try clear hfz21_3
   try clear hfz21_4
   try clear hfz21_5
   try clear hfz21_6
   try clear hfz21_7
   try clear hfz21_8
   try clear hfz21_9
   try clear hfz23_0
   try clear hfz23_1
   try clear hfz23_10
   try clear hfz23_11
   try clear hfz23_12
   try clear hfz23_2
   try clear hfz23_3
   try clear hfz23_4
   try clear hfz23_5
   try clear hfz23_6
   try clear hfz23_7
   try clear hfz23_8
   try clear hfz23_9
   try clear hfz28_0
   try clear hfz28_1
   try clear hfz28_10
   try clear hfz28_11
   try clear hfz28_12
   try clear hfz28_2
   try clear hfz28_3
   try clear hfz28_4
   try clear hfz28_5
   try clear hfz28_6
   try clear hfz28_7
   try clear hfz28_8
   try clear hfz28_9
   try clear hfz35_0
   try clear hfz35_1
   try clear hfz35_10
   try clear hfz35_11
   try clear hfz35_12
   try clear hfz35_2
   try clear hfz35_3
   try clear hfz35_4
   try clear hfz35_5
   try clear hfz35_6
   try clear hfz35_7
   try clear hfz35_8
   try clear hfz35_9
   try clear hfz42_0
   try clear hfz42_1
   try clear hfz42_10
   try clear hfz42_11
   try clear hfz42_12
   try clear hfz42_2
   try clear hfz42_3
   try clear hfz42_4
   try clear hfz42_5
   try clear hfz42_6
   try clear hfz42_7
   try clear hfz42_8
   try clear hfz42_9
   try clear hfz45_0
   try clear hfz45_1
   try clear hfz45_10
   try clear hfz45_11
   try clear hfz45_12
   try clear hfz45_2
   try clear hfz45_3
   try clear hfz45_4
   try clear hfz45_5
   try clear hfz45_6
   try clear hfz45_7
   try clear hfz45_8
   try clear hfz45_9
   try clear hfz50_0
   try clear hfz50_1
   try clear hfz50_10
   try clear hfz50_11
   try clear hfz50_12
   try clear hfz50_2
   try clear hfz50_3
   try clear hfz50_4
   try clear hfz50_5
   try clear hfz50_6
   try clear hfz50_7
   try clear hfz50_8
   try clear hfz50_9
   try clear hfz53_0
   try clear hfz53_1
   try clear hfz53_10
   try clear hfz53_11
   try clear hfz53_12
   try clear hfz53_2
   try clear hfz53_3
   try clear hfz53_4
   try clear hfz53_5
   try clear hfz53_6
   try clear hfz53_7
   try clear hfz53_8
   try clear hfz53_9
   try clear hfz5_0
   try clear hfz5_1
   try clear hfz5_10
   try clear hfz5_11
   try clear hfz5_12
   try clear hfz5_2
   try clear hfz5_3
   try clear hfz5_4
   try clear hfz5_5
   try clear hfz5_6
   try clear hfz5_7
   try clear hfz5_8
   try clear hfz5_9
   obtain ⟨kq, x40_10, rfl, HA, HJ10, HO_283009, HO_299009, HO_316009, BK249, BK282, BK298, BK315, HB⟩ := hcut
   cases kq with
   | zero => exact absurd HA.out (by simp [laws_FnExactShut.j0])
   | succ kj10 =>
    have H := HA.out
    clear HA
    simp only [laws_FnExactShut.j0] at H
    by_cases c55 : x40_10 = true
    ·subst c55
     rw [if_pos rfl] at H
     exact absurd ((Option.some.inj H).trans hr_.out) (by decide)
    ·replace c55 := Bool.eq_false_iff.mpr c55
     subst c55
     rw [if_neg (show ¬ (false = true) by decide)] at H
     replace H := Option.bind_eq_some_iff.mp H
     obtain ⟨⟨t317, t318, t319, t320, t321, t322, t323, t324, t325, t326, t329, t330, t331⟩, A560, H⟩ := H
     (try dsimp only at H)
     have A56 := Aside0.mk A560
     clear A560
     replace H := Option.bind_eq_some_iff.mp H
     obtain ⟨t332, A570, H⟩ := H
     (try dsimp only at H)
     have A57 := Aside0.mk A570
     clear A570
     by_cases c58 : t332 = true
     ·subst c58
      rw [if_pos rfl] at H
      replace H := Option.bind_eq_some_iff.mp H
      obtain ⟨⟨t333, t334⟩, A590, H⟩ := H
      (try dsimp only at H)
      have A59 := Aside0.mk A590
      clear A590
      have HC60 := Aside0.mk H
      clear H
      try go_wp2
      have n0_ := Aside0.mk (Kd.R_drew HO_283009.out)
      have n1_ := Aside0.mk (Kd.R_drew HO_299009.out)
      have n2_ := Aside0.mk (Kd.R_drew HO_316009.out)
      have n3_ := Aside0.mk (blk_drew BK249.out)
      have n4_ := Aside0.mk (blk_drew BK282.out)
      have n5_ := Aside0.mk (blk_drew BK298.out)
      have n6_ := Aside0.mk (blk_drew BK315.out)
      have n7_ := Aside0.mk (below_drew1 HB.out)
      clear HO_283009
      clear HO_299009
      clear HO_316009
      clear BK249
      clear BK282
      clear BK298
      clear BK315
      clear HB
      have HO_283009 := n0_
      have HO_299009 := n1_
      have HO_316009 := n2_
      have BK249 := n3_
      have BK282 := n4_
      have BK298 := n5_
      have BK315 := n6_
      have HB := n7_
      clear n0_ n1_ n2_ n3_ n4_ n5_ n6_ n7_
      refine start_ (n := 5) (S := fun w' => w'.cell? ⟨gb298, 0, none⟩ = some (.int .i64 t283) ∧ w'.cell? ⟨gb298, 1, none⟩ = some (.int .i64 t284) ∧ w'.cell? ⟨gb298, 2, none⟩ = some (.int .i64 t285) ∧ w'.cell? ⟨gb298, 3, none⟩ = some (.int .i64 t286) ∧ w'.cell? ⟨gb298, 4, none⟩ = some (.string t287) ∧ w'.cell? ⟨gb298, 5, none⟩ = some (.int .i64 t288) ∧ w'.cell? ⟨gb298, 6, none⟩ = some (.int .i64 t289) ∧ w'.cell? ⟨gb298, 7, none⟩ = some (.bool t290) ∧ w'.cell? ⟨gb298, 8, none⟩ = some (.string t291) ∧ w'.cell? ⟨gb298, 9, none⟩ = some (.slice Ao29 t292.length co29) ∧ w'.cell? ⟨gb298, 10, none⟩ = some (.bool t295) ∧ w'.cell? ⟨gb298, 11, none⟩ = some (.int .i64 t296) ∧ w'.cell? ⟨gb298, 12, none⟩ = some (.int .i64 t297) ∧ w'.cell? ⟨gb249, 0, none⟩ = some (.int .i64 a0_0) ∧ w'.cell? ⟨gb249, 1, none⟩ = some (.int .i64 a0_1) ∧ w'.cell? ⟨gb249, 2, none⟩ = some (.int .i64 a0_2) ∧ w'.cell? ⟨gb249, 3, none⟩ = some (.int .i64 a0_3) ∧ w'.cell? ⟨gb249, 4, none⟩ = some (.string a0_4) ∧ w'.cell? ⟨gb249, 5, none⟩ = some (.int .i64 a0_5) ∧ w'.cell? ⟨gb249, 6, none⟩ = some (.int .i64 a0_6) ∧ w'.cell? ⟨gb249, 7, none⟩ = some (.bool a0_7) ∧ w'.cell? ⟨gb249, 8, none⟩ = some (.string a0_8) ∧ w'.cell? ⟨gb249, 9, none⟩ = some (.slice A0_9 l0_9.length c0_9) ∧ w'.cell? ⟨gb249, 10, none⟩ = some (.bool a0_10) ∧ w'.cell? ⟨gb249, 11, none⟩ = some (.int .i64 a0_11) ∧ w'.cell? ⟨gb249, 12, none⟩ = some (.int .i64 a0_12)) (ds := []) #[false, false, false, false, false] B7x38_ rfl rfl ⟨(blk_cell BK298.out 0).trans rfl, (blk_cell BK298.out 1).trans rfl, (blk_cell BK298.out 2).trans rfl, (blk_cell BK298.out 3).trans rfl, (blk_cell BK298.out 4).trans rfl, (blk_cell BK298.out 5).trans rfl, (blk_cell BK298.out 6).trans rfl, (blk_cell BK298.out 7).trans rfl, (blk_cell BK298.out 8).trans rfl, (blk_cell BK298.out 9).trans rfl, (blk_cell BK298.out 10).trans rfl, (blk_cell BK298.out 11).trans rfl, (blk_cell BK298.out 12).trans rfl, (blk_cell BK249.out 0).trans rfl, (blk_cell BK249.out 1).trans rfl, (blk_cell BK249.out 2).trans rfl, (blk_cell BK249.out 3).trans rfl, (blk_cell BK249.out 4).trans rfl, (blk_cell BK249.out 5).trans rfl, (blk_cell BK249.out 6).trans rfl, (blk_cell BK249.out 7).trans rfl, (blk_cell BK249.out 8).trans rfl, (blk_cell BK249.out 9).trans rfl, (blk_cell BK249.out 10).trans rfl, (blk_cell BK249.out 11).trans rfl, (blk_cell BK249.out 12).trans rfl⟩ (fun hHeld => ?_)
      generalize wc.drew = w61 at HO_283009 HO_299009 HO_316009 BK249 BK282 BK298 BK315 HB hHeld ⊢
      refine take_ (i := 0) (N := some 41) (v := ?_) (a' := ?_) #[true, false, false, false, false] rfl rfl B7x38_ (fun _ _ _ h => h) (Or.inl ⟨by rfl, ?_⟩) hHeld ?_ ?_
      rotate_left
      ·rintro w' ⟨s0, s1, s2, s3, s4, s5, s6, s7, s8, s9, s10, s11, s12, s13, s14, s15, s16, s17, s18, s19, s20, s21, s22, s23, s24, s25⟩
       go_simp
       with_reducible rfl
      rotate_left
      ·simp only [Act.put, List.setIfInBounds_toArray, List.set_cons_zero, List.set_cons_succ, i64_w, i32_w]
       rfl
      refine take_ (i := 1) (N := some 42) (v := ?_) (a' := ?_) #[true, true, false, false, false] rfl rfl B7x38_ (fun _ _ _ h => h) (Or.inl ⟨by rfl, ?_⟩) hHeld ?_ ?_
      rotate_left
      ·rintro w' ⟨s0, s1, s2, s3, s4, s5, s6, s7, s8, s9, s10, s11, s12, s13, s14, s15, s16, s17, s18, s19, s20, s21, s22, s23, s24, s25⟩
       go_simp
       with_reducible rfl
      rotate_left
      ·simp only [Act.put, List.setIfInBounds_toArray, List.set_cons_zero, List.set_cons_succ, i64_w, i32_w]
       rfl
      refine one_ (i := 2) (N := some 43) #[true, true, true, false, false] rfl rfl B7x38_ (by decide) (fun K hK => ?_)
      refine goes_ Try.func17 B7x38_ rfl #[.agg #[.int .i64 a0_0, .int .i64 a0_1, .int .i64 a0_2, .int .i64 a0_3, .string a0_4, .int .i64 a0_5, .int .i64 a0_6, .bool a0_7, .string a0_8, .slice A0_9 l0_9.length c0_9, .bool a0_10, .int .i64 a0_11, .int .i64 a0_12]] (by rfl) rfl rfl B7x9_ ?_
      with_reducible refine (laws_toStream.calls kj10 a0_0 a0_1 a0_2 a0_3 a0_4 a0_5 a0_6 a0_7 a0_8 _ _ l0_9 a0_10 a0_11 a0_12 t317 t318 t319 t320 t321 t322 t323 t324 t325 t326 t329 t330 t331 _ ?side1 ?side2 A56.out).mono ?_
      (case side1 => repeat (first | exact (Kd.C_below HR0_9.out HB.out) | (with_reducible refine Kd.C_alloc ?_ _) | (with_reducible refine Kd.C_drewN ?_ _) | (with_reducible refine Kd.C_drew ?_)))
      (case side2 => exact HC0_9.out)
      rintro e w62 ⟨v327, rfl, ho0, hb⟩
      refine ⟨_, rfl, ?_⟩
      have n0_ := Aside0.mk (Kd.R_elder' B7x21_ (Kd.R_base ho0) hb)
      have n1_ := Aside0.mk (Kd.R_elder' B7x22_ (Kd.R_base ho0) hb)
      have n2_ := Aside0.mk (Kd.R_elder' B7x23_ (Kd.R_base ho0) hb)
      have n3_ := Aside0.mk (Kd.R_lower (Kd.R_new' (Kd.R_new' (Kd.R_new' ho0 (Kd.R_lt B7x21_)) (Kd.R_lt B7x22_)) (Kd.R_lt B7x23_)) (below_size B7x2_))
      have n4_ := Aside0.mk (blk_below (g := gb249) (o := .cells #[.int .i64 a0_0, .int .i64 a0_1, .int .i64 a0_2, .int .i64 a0_3, .string a0_4, .int .i64 a0_5, .int .i64 a0_6, .bool a0_7, .string a0_8, .slice A0_9 l0_9.length c0_9, .bool a0_10, .int .i64 a0_11, .int .i64 a0_12] 24 (0, 0)) B7x7_ hb)
      have n5_ := Aside0.mk (blk_below (g := gb282) (o := .cells #[.int .i64 t266, .int .i64 t267, .int .i64 t268, .int .i64 t269, .string t270, .int .i64 t271, .int .i64 t272, .bool t273, .string t274, .slice Ao22 t275.length co22, .bool t278, .int .i64 t279, .int .i64 t280] 29 (0, 0)) B7x10_ hb)
      have n6_ := Aside0.mk (blk_below (g := gb298) (o := .cells #[.int .i64 t283, .int .i64 t284, .int .i64 t285, .int .i64 t286, .string t287, .int .i64 t288, .int .i64 t289, .bool t290, .string t291, .slice Ao29 t292.length co29, .bool t295, .int .i64 t296, .int .i64 t297] 29 (0, 0)) B7x18_ hb)
      have n7_ := Aside0.mk (blk_below (g := gb315) (o := .cells #[.int .i64 t299, .int .i64 t300, .int .i64 t301, .int .i64 t302, .string t303, .int .i64 t304, .int .i64 t305, .bool t306, .string t307, .slice Ao36 t308.length co36, .bool t311, .int .i64 t312, .int .i64 t313] 29 (0, 0)) B7x19_ hb)
      have n8_ := Aside0.mk (below_step B7x2_ hb)
      clear HO_283009
      clear HO_299009
      clear HO_316009
      clear BK249
      clear BK282
      clear BK298
      clear BK315
      clear HB
      have HO_283009 := n0_
      have HO_299009 := n1_
      have HO_316009 := n2_
      have HO328 := n3_
      have BK249 := n4_
      have BK282 := n5_
      have BK298 := n6_
      have BK315 := n7_
      have HB := n8_
      clear n0_ n1_ n2_ n3_ n4_ n5_ n6_ n7_ n8_
      (try clear hb)
      (try clear hb2)
      (try clear hk)
      (try clear hi)
      (try clear ho0)
      obtain ⟨Ao63, co63, eo63⟩ := Kd.R_slice HO328.out
      (first | subst eo63 | (injection eo63 with f1_ f2_ f3_; have f4_ := f1_.symm; have f5_ := f3_.symm; clear f1_ f2_ f3_; subst f4_; subst f5_))
      refine hK.out _ _ ⟨(blk_cell BK298.out 0).trans rfl, (blk_cell BK298.out 1).trans rfl, (blk_cell BK298.out 2).trans rfl, (blk_cell BK298.out 3).trans rfl, (blk_cell BK298.out 4).trans rfl, (blk_cell BK298.out 5).trans rfl, (blk_cell BK298.out 6).trans rfl, (blk_cell BK298.out 7).trans rfl, (blk_cell BK298.out 8).trans rfl, (blk_cell BK298.out 9).trans rfl, (blk_cell BK298.out 10).trans rfl, (blk_cell BK298.out 11).trans rfl, (blk_cell BK298.out 12).trans rfl, (blk_cell BK249.out 0).trans rfl, (blk_cell BK249.out 1).trans rfl, (blk_cell BK249.out 2).trans rfl, (blk_cell BK249.out 3).trans rfl, (blk_cell BK249.out 4).trans rfl, (blk_cell BK249.out 5).trans rfl, (blk_cell BK249.out 6).trans rfl, (blk_cell BK249.out 7).trans rfl, (blk_cell BK249.out 8).trans rfl, (blk_cell BK249.out 9).trans rfl, (blk_cell BK249.out 10).trans rfl, (blk_cell BK249.out 11).trans rfl, (blk_cell BK249.out 12).trans rfl⟩ (fun hHeld => ?_)
      clear hK K
      refine norm_ (a' := ?_) ?_ ?_
      rotate_left
      ·show Act.put _ (some 43) _ = _
       simp only [Act.put, List.setIfInBounds_toArray, List.set_cons_zero, List.set_cons_succ, i64_w, i32_w]
       rfl
      refine one_ (i := 3) (N := some 44) #[true, true, true, true, false] rfl rfl B7x38_ (by decide) (fun K hK => ?_)
      refine goes_ Try.func19 B7x38_ rfl #[.agg #[.int .i64 t283, .int .i64 t284, .int .i64 t285, .int .i64 t286, .string t287, .int .i64 t288, .int .i64 t289, .bool t290, .string t291, .slice Ao29 t292.length co29, .bool t295, .int .i64 t296, .int .i64 t297], .agg #[.int .i64 t317, .int .i64 t318, .int .i64 t319, .int .i64 t320, .string t321, .int .i64 t322, .int .i64 t323, .bool t324, .string t325, .slice Ao63 t326.length co63, .bool t329, .int .i64 t330, .int .i64 t331]] (by rfl) rfl rfl B7x9_ ?_
      with_reducible refine (laws_eqStream.calls kj10 t283 t284 t285 t286 t287 t288 t289 t290 t291 _ _ t292 t295 t296 t297 t317 t318 t319 t320 t321 t322 t323 t324 t325 _ _ t326 t329 t330 t331 true _ ?side1 ?side2 ?side3 ?side4 A57.out).mono ?_
      (case side1 => repeat (first | exact (Kd.R_reads' HO_299009.out).2.2 | (with_reducible refine Kd.C_alloc ?_ _) | (with_reducible refine Kd.C_drewN ?_ _) | (with_reducible refine Kd.C_drew ?_)))
      (case side2 => exact (Kd.R_reads' HO_299009.out).2.1)
      (case side3 => repeat (first | exact (Kd.R_reads' HO328.out).2.2 | (with_reducible refine Kd.C_alloc ?_ _) | (with_reducible refine Kd.C_drewN ?_ _) | (with_reducible refine Kd.C_drew ?_)))
      (case side4 => exact (Kd.R_reads' HO328.out).2.1)
      rintro e w64 ⟨rfl, hb⟩
      refine ⟨_, rfl, ?_⟩
      have n0_ := Aside0.mk (Kd.R_below B7x21_ hb)
      have n1_ := Aside0.mk (Kd.R_below B7x22_ hb)
      have n2_ := Aside0.mk (Kd.R_below B7x23_ hb)
      have n3_ := Aside0.mk (Kd.R_below B7x40_ hb)
      have n4_ := Aside0.mk (blk_below (g := gb249) (o := .cells #[.int .i64 a0_0, .int .i64 a0_1, .int .i64 a0_2, .int .i64 a0_3, .string a0_4, .int .i64 a0_5, .int .i64 a0_6, .bool a0_7, .string a0_8, .slice A0_9 l0_9.length c0_9, .bool a0_10, .int .i64 a0_11, .int .i64 a0_12] 24 (0, 0)) B7x7_ hb)
      have n5_ := Aside0.mk (blk_below (g := gb282) (o := .cells #[.int .i64 t266, .int .i64 t267, .int .i64 t268, .int .i64 t269, .string t270, .int .i64 t271, .int .i64 t272, .bool t273, .string t274, .slice Ao22 t275.length co22, .bool t278, .int .i64 t279, .int .i64 t280] 29 (0, 0)) B7x10_ hb)
      have n6_ := Aside0.mk (blk_below (g := gb298) (o := .cells #[.int .i64 t283, .int .i64 t284, .int .i64 t285, .int .i64 t286, .string t287, .int .i64 t288, .int .i64 t289, .bool t290, .string t291, .slice Ao29 t292.length co29, .bool t295, .int .i64 t296, .int .i64 t297] 29 (0, 0)) B7x18_ hb)
      have n7_ := Aside0.mk (blk_below (g := gb315) (o := .cells #[.int .i64 t299, .int .i64 t300, .int .i64 t301, .int .i64 t302, .string t303, .int .i64 t304, .int .i64 t305, .bool t306, .string t307, .slice Ao36 t308.length co36, .bool t311, .int .i64 t312, .int .i64 t313] 29 (0, 0)) B7x19_ hb)
      have n8_ := Aside0.mk (below_step B7x2_ hb)
      clear HO_283009
      clear HO_299009
      clear HO_316009
      clear HO328
      clear BK249
      clear BK282
      clear BK298
      clear BK315
      clear HB
      have HO_283009 := n0_
      have HO_299009 := n1_
      have HO_316009 := n2_
      have HO328 := n3_
      have BK249 := n4_
      have BK282 := n5_
      have BK298 := n6_
      have BK315 := n7_
      have HB := n8_
      clear n0_ n1_ n2_ n3_ n4_ n5_ n6_ n7_ n8_
      (try clear hb)
      (try clear hb2)
      (try clear hk)
      (try clear hi)
      refine hK.out _ _ ⟨(blk_cell BK298.out 0).trans rfl, (blk_cell BK298.out 1).trans rfl, (blk_cell BK298.out 2).trans rfl, (blk_cell BK298.out 3).trans rfl, (blk_cell BK298.out 4).trans rfl, (blk_cell BK298.out 5).trans rfl, (blk_cell BK298.out 6).trans rfl, (blk_cell BK298.out 7).trans rfl, (blk_cell BK298.out 8).trans rfl, (blk_cell BK298.out 9).trans rfl, (blk_cell BK298.out 10).trans rfl, (blk_cell BK298.out 11).trans rfl, (blk_cell BK298.out 12).trans rfl, (blk_cell BK249.out 0).trans rfl, (blk_cell BK249.out 1).trans rfl, (blk_cell BK249.out 2).trans rfl, (blk_cell BK249.out 3).trans rfl, (blk_cell BK249.out 4).trans rfl, (blk_cell BK249.out 5).trans rfl, (blk_cell BK249.out 6).trans rfl, (blk_cell BK249.out 7).trans rfl, (blk_cell BK249.out 8).trans rfl, (blk_cell BK249.out 9).trans rfl, (blk_cell BK249.out 10).trans rfl, (blk_cell BK249.out 11).trans rfl, (blk_cell BK249.out 12).trans rfl⟩ (fun hHeld => ?_)
      clear hK K
      refine norm_ (a' := ?_) ?_ ?_
      rotate_left
      ·show Act.put _ (some 44) _ = _
       simp only [Act.put, List.setIfInBounds_toArray, List.set_cons_zero, List.set_cons_succ, i64_w, i32_w]
       rfl
      refine pure_ (i := 4) (N := some 45) (v := ?_) (a' := ?_) #[true, true, true, true, true] rfl rfl B7x38_ (fun _ _ _ h => h) (Or.inl ⟨by rfl, ?_⟩) ?_ ?_
      rotate_left
      ·intro w'
       go_simp
       with_reducible rfl
      rotate_left
      ·simp only [Act.put, List.setIfInBounds_toArray, List.set_cons_zero, List.set_cons_succ, i64_w, i32_w]
       rfl
      refine done_ B7x38_ ?_
      have hnb65 := NB298_249.out
      have hnc65 := NB249_298.out
      have hnb66 := NB298_282.out
      have hnc66 := NB282_298.out
      have hnb67 := NB298_315.out
      have hnc67 := NB315_298.out
      obtain ⟨hcz68_0, hcz68_1, hcz68_2, hcz68_3, hcz68_4, hcz68_5, hcz68_6, hcz68_7, hcz68_8, hcz68_9, hcz68_10, hcz68_11, hcz68_12⟩ := cl13 BK298.out
      obtain ⟨hfz68_0, hfz68_1, hfz68_2, hfz68_3, hfz68_4, hfz68_5, hfz68_6, hfz68_7, hfz68_8, hfz68_9, hfz68_10, hfz68_11, hfz68_12⟩ := fr13 BK298.out
      go_upto_region 14 with (first | ((with_reducible refine gate_callee (f := 65) rfl ?_); refine goesL_ (some 48) rfl rfl Try.func65 B7x38_ rfl #[.agg #[.int .i64 t283, .int .i64 t284, .int .i64 t285, .int .i64 t286, .string t287, .int .i64 t288, .int .i64 t289, .bool t290, .string t291, .slice Ao29 t292.length co29, .bool t295, .int .i64 t296, .int .i64 t297], .int .i64 1] rfl B7x9_ ?_; (with_reducible refine (laws_markStream.calls kj10 t283 t284 t285 t286 t287 t288 t289 t290 t291 (fun k_ => some k_ = (.slice Ao29 t292.length co29 : Value).ownBlock) (.slice Ao29 t292.length co29) t292 t295 t296 t297 1 t333 t334 w _ ?side1 ?side2 A59.out).mono ?_); (case side1 => repeat (first | (with_reducible first | exact HB.out | apply below_alloc | apply pw_below_drewN | apply below_drew1 | refine below_set ?_ GE249.out | refine below_set ?_ GE282.out | refine below_set ?_ GE298.out | refine below_set ?_ GE315.out) | exact HB.out)); (case side2 => exact Kd.R_tight rfl HO_299009.out); rintro e w69 ⟨rfl, hy0, hb, hkp⟩; refine ⟨_, rfl, ?_⟩; have n0_ := Aside0.mk (Kd.R_mono (ok' := fun k_ => some k_ ≠ (.slice Ao29 t292.length co29 : Value).ownBlock ∧ some k_ ≠ (.slice Ao36 t308.length co36 : Value).ownBlock ∧ some k_ ≠ (.slice Ao63 t326.length co63 : Value).ownBlock) (Kd.R_keptB (HO_283009.out) hkp (fun k_ hk_ hs_ => (hk_.1.1) hs_)) (fun k_ hk_ => ⟨hk_.1.1.1, hk_.1.1.2, hk_.1.2⟩)); have n1_ := Aside0.mk (Kd.R_reok rfl hy0 (fun k_ e_ => HO_299009.out.1 k_ e_)); have n2_ := Aside0.mk (Kd.R_mono (ok' := fun k_ => some k_ ≠ (.slice Ao22 t275.length co22 : Value).ownBlock ∧ some k_ ≠ (.slice Ao29 t292.length co29 : Value).ownBlock ∧ some k_ ≠ (.slice Ao63 t326.length co63 : Value).ownBlock) (Kd.R_keptB (HO_316009.out) hkp (fun k_ hk_ hs_ => (hk_.1.2) hs_)) (fun k_ hk_ => ⟨hk_.1.1.1, hk_.1.1.2, hk_.1.2⟩)); have n3_ := Aside0.mk (blk_kept B7x7_ hkp (fun hs_ => (fun e_ => (Kd.R_ne HO_299009.out BK249.out (by decide)) e_) hs_)); have n4_ := Aside0.mk (blk_kept B7x10_ hkp (fun hs_ => (fun e_ => (Kd.R_ne HO_299009.out BK282.out (by decide)) e_) hs_)); have n5_ := Aside0.mk (blk_kept B7x18_ hkp (fun hs_ => (fun e_ => (Kd.R_ne HO_299009.out BK298.out (by decide)) e_) hs_)); have n6_ := Aside0.mk (blk_kept B7x19_ hkp (fun hs_ => (fun e_ => (Kd.R_ne HO_299009.out BK315.out (by decide)) e_) hs_)); have n7_ := Aside0.mk (Kd.R_mono (ok' := fun k_ => some k_ ≠ (.slice Ao22 t275.length co22 : Value).ownBlock ∧ some k_ ≠ (.slice Ao29 t292.length co29 : Value).ownBlock ∧ some k_ ≠ (.slice Ao36 t308.length co36 : Value).ownBlock) (Kd.R_keptB (HO328.out) hkp (fun k_ hk_ hs_ => (hk_.1.2) hs_)) (fun k_ hk_ => ⟨hk_.1.1.1.2, hk_.1.1.2, hk_.1.2⟩)); have n8_ := Aside0.mk (hb); clear HO_283009; clear HO_299009; clear HO_316009; clear BK249; clear BK282; clear BK298; clear BK315; clear HO328; clear HB; have HO_283009 := n0_; have HO_299009 := n1_; have HO_316009 := n2_; have BK249 := n3_; have BK282 := n4_; have BK298 := n5_; have BK315 := n6_; have HO328 := n7_; have HB := n8_; clear n0_ n1_ n2_ n3_ n4_ n5_ n6_ n7_ n8_; (try clear hb); (try clear hkp); (try clear hy0)))
      (try simp only [Act.put, List.setIfInBounds_toArray, List.set_cons_zero, List.set_cons_succ])
      go_cut [61] (fun v61 wc => ∃ (kq : Nat) (x61_59 : Bool), v61 = .bool x61_59 ∧ Aside0 (laws_FnExactShut.j1 kq t281 x61_59 a0_0 a0_1 a0_2 a0_3 a0_4 a0_5 a0_6 a0_7 a0_8 l0_9 a0_10 a0_11 a0_12 t266 t267 t268 t269 t270 t271 t272 t273 t274 t275 t278 t279 t280 t299 t300 t301 t302 t303 t304 t305 t306 t307 t308 t311 t312 t313 = some r) ∧ Aside0 (kq ≤ kj10) ∧ Aside0 (Kd.R k112 112 wc w.heap.size (fun k_ => some k_ ≠ ((.slice Ao29 t292.length co29) : Value).ownBlock ∧ some k_ ≠ ((.slice Ao36 t308.length co36) : Value).ownBlock) (.slice Ao22 t275.length co22) t275) ∧ Aside0 (Kd.R k112 112 wc w.heap.size (fun k_ => some k_ ≠ ((.slice Ao22 t275.length co22) : Value).ownBlock ∧ some k_ ≠ ((.slice Ao36 t308.length co36) : Value).ownBlock) (.slice Ao29 t292.length co29) t334) ∧ Aside0 (Kd.R k112 112 wc w.heap.size (fun k_ => some k_ ≠ ((.slice Ao22 t275.length co22) : Value).ownBlock ∧ some k_ ≠ ((.slice Ao29 t292.length co29) : Value).ownBlock) (.slice Ao36 t308.length co36) t308) ∧ Aside0 (wc.heap[gb249]? = some (.cells #[.int .i64 a0_0, .int .i64 a0_1, .int .i64 a0_2, .int .i64 a0_3, .string a0_4, .int .i64 a0_5, .int .i64 a0_6, .bool a0_7, .string a0_8, (.slice A0_9 l0_9.length c0_9), .bool a0_10, .int .i64 a0_11, .int .i64 a0_12] 24 (0, 0))) ∧ Aside0 (wc.heap[gb282]? = some (.cells #[.int .i64 t266, .int .i64 t267, .int .i64 t268, .int .i64 t269, .string t270, .int .i64 t271, .int .i64 t272, .bool t273, .string t274, (.slice Ao22 t275.length co22), .bool t278, .int .i64 t279, .int .i64 t280] 29 (0, 0))) ∧ Aside0 (wc.heap[gb298]? = some (.cells #[.int .i64 t283, .int .i64 t284, .int .i64 t285, .int .i64 t286, .string t287, .int .i64 t288, .int .i64 t289, .bool t290, .string t291, (.slice Ao29 t292.length co29), .bool t295, .int .i64 t296, .int .i64 t297] 29 (0, 0))) ∧ Aside0 (wc.heap[gb315]? = some (.cells #[.int .i64 t299, .int .i64 t300, .int .i64 t301, .int .i64 t302, .string t303, .int .i64 t304, .int .i64 t305, .bool t306, .string t307, (.slice Ao36 t308.length co36), .bool t311, .int .i64 t312, .int .i64 t313] 29 (0, 0))) ∧ Aside0 (Below w.heap.size w wc))
      case first =>
       have H := HC60.out
       clear HC60
       by_cases c70 : t333 < 0
       ·rw [if_pos c70] at H
        have c70b0 : decide (t333 < 0) = true := decide_eq_true c70
        clear c70
        (first | rw [c70b0] | (simp only [i64_w, i32_w]; rw [c70b0]) | skip)
        have H' := Aside0.mk H
        clear H
        go_wp2
        go_meet
        case rel => exact ⟨_, (true), (be_), H', ⟨by have := HJ10.out; first | omega | exact Nat.le_refl _⟩, ⟨by (with_reducible repeat (first | apply Kd.R_alloc | apply Kd.R_drewN | apply Kd.R_drew)); exact Kd.R_mono HO_283009.out (fun _ hk => ⟨hk.1, hk.2.1⟩)⟩, ⟨by (with_reducible repeat (first | apply Kd.R_alloc | apply Kd.R_drewN | apply Kd.R_drew)); exact Kd.R_mono HO_299009.out (fun _ hk => ⟨hk.1.1, hk.1.2⟩)⟩, ⟨by (with_reducible repeat (first | apply Kd.R_alloc | apply Kd.R_drewN | apply Kd.R_drew)); exact Kd.R_mono HO_316009.out (fun _ hk => ⟨hk.1, hk.2.1⟩)⟩, ⟨by (with_reducible repeat (first | refine blk_drewN ?_ _ | refine blk_drew ?_ | refine blk_alloc ?_ _)); exact BK249.out⟩, ⟨by (with_reducible repeat (first | refine blk_drewN ?_ _ | refine blk_drew ?_ | refine blk_alloc ?_ _)); exact BK282.out⟩, ⟨by (with_reducible repeat (first | refine blk_drewN ?_ _ | refine blk_drew ?_ | refine blk_alloc ?_ _)); exact BK298.out⟩, ⟨by (with_reducible repeat (first | refine blk_drewN ?_ _ | refine blk_drew ?_ | refine blk_alloc ?_ _)); exact BK315.out⟩, ⟨by repeat (first | (with_reducible first | exact HB.out | apply below_alloc | apply pw_below_drewN | apply below_drew1 | refine below_set ?_ GE249.out | refine below_set ?_ GE282.out | refine below_set ?_ GE298.out | refine below_set ?_ GE315.out) | exact HB.out)⟩⟩
       ·rw [if_neg c70] at H
        have c70b0 : decide (t333 < 0) = false := decide_eq_false c70
        clear c70
        (first | rw [c70b0] | (simp only [i64_w, i32_w]; rw [c70b0]) | skip)
        replace H := Option.bind_eq_some_iff.mp H
        obtain ⟨t335, A710, H⟩ := H
        (try dsimp only at H)
        have A71 := Aside0.mk A710
        clear A710
        by_cases c72 : t335 = true
        ·subst c72
         rw [if_pos rfl] at H
         have H' := Aside0.mk H
         clear H
         have hnb73 := NB315_249.out
         have hnc73 := NB249_315.out
         have hnb74 := NB315_282.out
         have hnc74 := NB282_315.out
         have hnb75 := NB315_298.out
         have hnc75 := NB298_315.out
         obtain ⟨hcz76_0, hcz76_1, hcz76_2, hcz76_3, hcz76_4, hcz76_5, hcz76_6, hcz76_7, hcz76_8, hcz76_9, hcz76_10, hcz76_11, hcz76_12⟩ := cl13 BK315.out
         obtain ⟨hfz76_0, hfz76_1, hfz76_2, hfz76_3, hfz76_4, hfz76_5, hfz76_6, hfz76_7, hfz76_8, hfz76_9, hfz76_10, hfz76_11, hfz76_12⟩ := fr13 BK315.out
         have hnb77 := NB282_249.out
         have hnc77 := NB249_282.out
         have hnb78 := NB282_298.out
         have hnc78 := NB298_282.out
         obtain ⟨hcz79_0, hcz79_1, hcz79_2, hcz79_3, hcz79_4, hcz79_5, hcz79_6, hcz79_7, hcz79_8, hcz79_9, hcz79_10, hcz79_11, hcz79_12⟩ := cl13 BK282.out
         obtain ⟨hfz79_0, hfz79_1, hfz79_2, hfz79_3, hfz79_4, hfz79_5, hfz79_6, hfz79_7, hfz79_8, hfz79_9, hfz79_10, hfz79_11, hfz79_12⟩ := fr13 BK282.out
         go_wp2_with (first | (go_at_call 19; (with_reducible refine (laws_eqStream.calls kj10 t299 t300 t301 t302 t303 t304 t305 t306 t307 _ _ t308 t311 t312 t313 t266 t267 t268 t269 t270 t271 t272 t273 t274 _ _ t275 t278 t279 t280 true _ ?side1 ?side2 ?side3 ?side4 A71.out).mono ?_); (case side1 => repeat (first | exact (Kd.R_reads' HO_316009.out).2.2 | (with_reducible refine Kd.C_alloc ?_ _) | (with_reducible refine Kd.C_drewN ?_ _) | (with_reducible refine Kd.C_drew ?_))); (case side2 => exact (Kd.R_reads' HO_316009.out).2.1); (case side3 => repeat (first | exact (Kd.R_reads' HO_283009.out).2.2 | (with_reducible refine Kd.C_alloc ?_ _) | (with_reducible refine Kd.C_drewN ?_ _) | (with_reducible refine Kd.C_drew ?_))); (case side4 => exact (Kd.R_reads' HO_283009.out).2.1); rintro e w80 ⟨rfl, hb⟩; have n0_ := Aside0.mk (Kd.R_below B7x21_ hb); have n1_ := Aside0.mk (Kd.R_below B7x22_ hb); have n2_ := Aside0.mk (Kd.R_below B7x23_ hb); have n3_ := Aside0.mk (Kd.R_below B7x40_ hb); have n4_ := Aside0.mk (blk_below (g := gb249) (o := .cells #[.int .i64 a0_0, .int .i64 a0_1, .int .i64 a0_2, .int .i64 a0_3, .string a0_4, .int .i64 a0_5, .int .i64 a0_6, .bool a0_7, .string a0_8, .slice A0_9 l0_9.length c0_9, .bool a0_10, .int .i64 a0_11, .int .i64 a0_12] 24 (0, 0)) B7x7_ hb); have n5_ := Aside0.mk (blk_below (g := gb282) (o := .cells #[.int .i64 t266, .int .i64 t267, .int .i64 t268, .int .i64 t269, .string t270, .int .i64 t271, .int .i64 t272, .bool t273, .string t274, .slice Ao22 t275.length co22, .bool t278, .int .i64 t279, .int .i64 t280] 29 (0, 0)) B7x10_ hb); have n6_ := Aside0.mk (blk_below (g := gb298) (o := .cells #[.int .i64 t283, .int .i64 t284, .int .i64 t285, .int .i64 t286, .string t287, .int .i64 t288, .int .i64 t289, .bool t290, .string t291, .slice Ao29 t292.length co29, .bool t295, .int .i64 t296, .int .i64 t297] 29 (0, 0)) B7x18_ hb); have n7_ := Aside0.mk (blk_below (g := gb315) (o := .cells #[.int .i64 t299, .int .i64 t300, .int .i64 t301, .int .i64 t302, .string t303, .int .i64 t304, .int .i64 t305, .bool t306, .string t307, .slice Ao36 t308.length co36, .bool t311, .int .i64 t312, .int .i64 t313] 29 (0, 0)) B7x19_ hb); have n8_ := Aside0.mk (below_step B7x2_ hb); clear HO_283009; clear HO_299009; clear HO_316009; clear HO328; clear BK249; clear BK282; clear BK298; clear BK315; clear HB; have HO_283009 := n0_; have HO_299009 := n1_; have HO_316009 := n2_; have HO328 := n3_; have BK249 := n4_; have BK282 := n5_; have BK298 := n6_; have BK315 := n7_; have HB := n8_; clear n0_ n1_ n2_ n3_ n4_ n5_ n6_ n7_ n8_; (try clear hb); (try clear hb2); (try clear hk); (try clear hi)))
         go_meet
         case rel => exact ⟨_, ((t314 != t281)), (be_), H', ⟨by have := HJ10.out; first | omega | exact Nat.le_refl _⟩, ⟨by (with_reducible repeat (first | apply Kd.R_alloc | apply Kd.R_drewN | apply Kd.R_drew)); exact Kd.R_mono HO_283009.out (fun _ hk => ⟨hk.1, hk.2.1⟩)⟩, ⟨by (with_reducible repeat (first | apply Kd.R_alloc | apply Kd.R_drewN | apply Kd.R_drew)); exact Kd.R_mono HO_299009.out (fun _ hk => ⟨hk.1.1, hk.1.2⟩)⟩, ⟨by (with_reducible repeat (first | apply Kd.R_alloc | apply Kd.R_drewN | apply Kd.R_drew)); exact Kd.R_mono HO_316009.out (fun _ hk => ⟨hk.1, hk.2.1⟩)⟩, ⟨by (with_reducible repeat (first | refine blk_drewN ?_ _ | refine blk_drew ?_ | refine blk_alloc ?_ _)); exact BK249.out⟩, ⟨by (with_reducible repeat (first | refine blk_drewN ?_ _ | refine blk_drew ?_ | refine blk_alloc ?_ _)); exact BK282.out⟩, ⟨by (with_reducible repeat (first | refine blk_drewN ?_ _ | refine blk_drew ?_ | refine blk_alloc ?_ _)); exact BK298.out⟩, ⟨by (with_reducible repeat (first | refine blk_drewN ?_ _ | refine blk_drew ?_ | refine blk_alloc ?_ _)); exact BK315.out⟩, ⟨by repeat (first | (with_reducible first | exact HB.out | apply below_alloc | apply pw_below_drewN | apply below_drew1 | refine below_set ?_ GE249.out | refine below_set ?_ GE282.out | refine below_set ?_ GE298.out | refine below_set ?_ GE315.out) | exact HB.out)⟩⟩
        ·replace c72 := Bool.eq_false_iff.mpr c72
         subst c72
         rw [if_neg (show ¬ (false = true) by decide)] at H
         have H' := Aside0.mk H
         clear H
         have hnb81 := NB315_249.out
         have hnc81 := NB249_315.out
         have hnb82 := NB315_282.out
         have hnc82 := NB282_315.out
         have hnb83 := NB315_298.out
         have hnc83 := NB298_315.out
         obtain ⟨hcz84_0, hcz84_1, hcz84_2, hcz84_3, hcz84_4, hcz84_5, hcz84_6, hcz84_7, hcz84_8, hcz84_9, hcz84_10, hcz84_11, hcz84_12⟩ := cl13 BK315.out
         obtain ⟨hfz84_0, hfz84_1, hfz84_2, hfz84_3, hfz84_4, hfz84_5, hfz84_6, hfz84_7, hfz84_8, hfz84_9, hfz84_10, hfz84_11, hfz84_12⟩ := fr13 BK315.out
         have hnb85 := NB282_249.out
         have hnc85 := NB249_282.out
         have hnb86 := NB282_298.out
         have hnc86 := NB298_282.out
         obtain ⟨hcz87_0, hcz87_1, hcz87_2, hcz87_3, hcz87_4, hcz87_5, hcz87_6, hcz87_7, hcz87_8, hcz87_9, hcz87_10, hcz87_11, hcz87_12⟩ := cl13 BK282.out
         obtain ⟨hfz87_0, hfz87_1, hfz87_2, hfz87_3, hfz87_4, hfz87_5, hfz87_6, hfz87_7, hfz87_8, hfz87_9, hfz87_10, hfz87_11, hfz87_12⟩ := fr13 BK282.out
         go_wp2_with (first | (go_at_call 19; (with_reducible refine (laws_eqStream.calls kj10 t299 t300 t301 t302 t303 t304 t305 t306 t307 _ _ t308 t311 t312 t313 t266 t267 t268 t269 t270 t271 t272 t273 t274 _ _ t275 t278 t279 t280 false _ ?side1 ?side2 ?side3 ?side4 A71.out).mono ?_); (case side1 => repeat (first | exact (Kd.R_reads' HO_316009.out).2.2 | (with_reducible refine Kd.C_alloc ?_ _) | (with_reducible refine Kd.C_drewN ?_ _) | (with_reducible refine Kd.C_drew ?_))); (case side2 => exact (Kd.R_reads' HO_316009.out).2.1); (case side3 => repeat (first | exact (Kd.R_reads' HO_283009.out).2.2 | (with_reducible refine Kd.C_alloc ?_ _) | (with_reducible refine Kd.C_drewN ?_ _) | (with_reducible refine Kd.C_drew ?_))); (case side4 => exact (Kd.R_reads' HO_283009.out).2.1); rintro e w88 ⟨rfl, hb⟩; have n0_ := Aside0.mk (Kd.R_below B7x21_ hb); have n1_ := Aside0.mk (Kd.R_below B7x22_ hb); have n2_ := Aside0.mk (Kd.R_below B7x23_ hb); have n3_ := Aside0.mk (Kd.R_below B7x40_ hb); have n4_ := Aside0.mk (blk_below (g := gb249) (o := .cells #[.int .i64 a0_0, .int .i64 a0_1, .int .i64 a0_2, .int .i64 a0_3, .string a0_4, .int .i64 a0_5, .int .i64 a0_6, .bool a0_7, .string a0_8, .slice A0_9 l0_9.length c0_9, .bool a0_10, .int .i64 a0_11, .int .i64 a0_12] 24 (0, 0)) B7x7_ hb); have n5_ := Aside0.mk (blk_below (g := gb282) (o := .cells #[.int .i64 t266, .int .i64 t267, .int .i64 t268, .int .i64 t269, .string t270, .int .i64 t271, .int .i64 t272, .bool t273, .string t274, .slice Ao22 t275.length co22, .bool t278, .int .i64 t279, .int .i64 t280] 29 (0, 0)) B7x10_ hb); have n6_ := Aside0.mk (blk_below (g := gb298) (o := .cells #[.int .i64 t283, .int .i64 t284, .int .i64 t285, .int .i64 t286, .string t287, .int .i64 t288, .int .i64 t289, .bool t290, .string t291, .slice Ao29 t292.length co29, .bool t295, .int .i64 t296, .int .i64 t297] 29 (0, 0)) B7x18_ hb); have n7_ := Aside0.mk (blk_below (g := gb315) (o := .cells #[.int .i64 t299, .int .i64 t300, .int .i64 t301, .int .i64 t302, .string t303, .int .i64 t304, .int .i64 t305, .bool t306, .string t307, .slice Ao36 t308.length co36, .bool t311, .int .i64 t312, .int .i64 t313] 29 (0, 0)) B7x19_ hb); have n8_ := Aside0.mk (below_step B7x2_ hb); clear HO_283009; clear HO_299009; clear HO_316009; clear HO328; clear BK249; clear BK282; clear BK298; clear BK315; clear HB; have HO_283009 := n0_; have HO_299009 := n1_; have HO_316009 := n2_; have HO328 := n3_; have BK249 := n4_; have BK282 := n5_; have BK298 := n6_; have BK315 := n7_; have HB := n8_; clear n0_ n1_ n2_ n3_ n4_ n5_ n6_ n7_ n8_; (try clear hb); (try clear hb2); (try clear hk); (try clear hi)))
         go_meet
         case rel => exact ⟨_, (true), (be_), H', ⟨by have := HJ10.out; first | omega | exact Nat.le_refl _⟩, ⟨by (with_reducible repeat (first | apply Kd.R_alloc | apply Kd.R_drewN | apply Kd.R_drew)); exact Kd.R_mono HO_283009.out (fun _ hk => ⟨hk.1, hk.2.1⟩)⟩, ⟨by (with_reducible repeat (first | apply Kd.R_alloc | apply Kd.R_drewN | apply Kd.R_drew)); exact Kd.R_mono HO_299009.out (fun _ hk => ⟨hk.1.1, hk.1.2⟩)⟩, ⟨by (with_reducible repeat (first | apply Kd.R_alloc | apply Kd.R_drewN | apply Kd.R_drew)); exact Kd.R_mono HO_316009.out (fun _ hk => ⟨hk.1, hk.2.1⟩)⟩, ⟨by (with_reducible repeat (first | refine blk_drewN ?_ _ | refine blk_drew ?_ | refine blk_alloc ?_ _)); exact BK249.out⟩, ⟨by (with_reducible repeat (first | refine blk_drewN ?_ _ | refine blk_drew ?_ | refine blk_alloc ?_ _)); exact BK282.out⟩, ⟨by (with_reducible repeat (first | refine blk_drewN ?_ _ | refine blk_drew ?_ | refine blk_alloc ?_ _)); exact BK298.out⟩, ⟨by (with_reducible repeat (first | refine blk_drewN ?_ _ | refine blk_drew ?_ | refine blk_alloc ?_ _)); exact BK315.out⟩, ⟨by repeat (first | (with_reducible first | exact HB.out | apply below_alloc | apply pw_below_drewN | apply below_drew1 | refine below_set ?_ GE249.out | refine below_set ?_ GE282.out | refine below_set ?_ GE298.out | refine below_set ?_ GE315.out) | exact HB.out)⟩⟩
      case rest =>
       clear HC60
       try clear c1
       try clear p2
       try clear c5
       try clear c6
       try clear c7
       try clear c8
       try clear c17
       try clear c19
       try clear c55
       try clear c58
       try clear c65
       try clear c66
       try clear c67
       try clear c70
       try clear c70b0
       try clear c72
       try clear c73
       try clear c74
       try clear c75
       try clear c77
       try clear c78
       try clear c81
       try clear c82
       try clear c83
       try clear c85
       try clear c86
       try clear hcz42_2
       try clear hcz42_3
       try clear hcz42_4
       try clear hcz42_5
       try clear hcz42_6
       try clear hcz42_7
       try clear hcz42_8
       try clear hcz42_9
       try clear hcz45_0
       try clear hcz45_1
       try clear hcz45_10
       try clear hcz45_11
       try clear hcz45_12
       try clear hcz45_2
       try clear hcz45_3
       try clear hcz45_4
       try clear hcz45_5
       try clear hcz45_6
       try clear hcz45_7
       try clear hcz45_8
       try clear hcz45_9
       try clear hcz50_0
       try clear hcz50_1
       try clear hcz50_10
       try clear hcz50_11
       try clear hcz50_12
       try clear hcz50_2
       try clear hcz50_3
       try clear hcz50_4
       try clear hcz50_5
       try clear hcz50_6
       try clear hcz50_7
       try clear hcz50_8
       try clear hcz50_9
       try clear hcz53_0
       try clear hcz53_1
       try clear hcz53_10
       try clear hcz53_11
       try clear hcz53_12
       try clear hcz53_2
       try clear hcz53_3
       try clear hcz53_4
       try clear hcz53_5
       try clear hcz53_6
       try clear hcz53_7
       try clear hcz53_8
       try clear hcz53_9
       try clear hcz5_0
       try clear hcz5_1
       try clear hcz5_10
       try clear hcz5_11
       try clear hcz5_12
       try clear hcz5_2
       try clear hcz5_3
       try clear hcz5_4
       try clear hcz5_5
       try clear hcz5_6
       try clear hcz5_7
       try clear hcz5_8
       try clear hcz5_9
       try clear hcz68_0
       try clear hcz68_1
       try clear hcz68_10
       try clear hcz68_11
       try clear hcz68_12
       try clear hcz68_2
       try clear hcz68_3
       try clear hcz68_4
       try clear hcz68_5
       try clear hcz68_6
       try clear hcz68_7
       try clear hcz68_8
       try clear hcz68_9
       try clear hcz76_0
       try clear hcz76_1
       try clear hcz76_10
       try clear hcz76_11
       try clear hcz76_12
       try clear hcz76_2
       try clear hcz76_3
       try clear hcz76_4
       try clear hcz76_5
       try clear hcz76_6
       try clear hcz76_7
       try clear hcz76_8
       try clear hcz76_9
       try clear hcz79_0
       try clear hcz79_1
       try clear hcz79_10
       try clear hcz79_11
       try clear hcz79_12
       try clear hcz79_2
       try clear hcz79_3
       try clear hcz79_4
       try clear hcz79_5
       try clear hcz79_6
       try clear hcz79_7
       try clear hcz79_8
       try clear hcz79_9
       try clear hcz84_0
       try clear hcz84_1
       try clear hcz84_10
       try clear hcz84_11
       try clear hcz84_12
       try clear hcz84_2
       try clear hcz84_3
       try clear hcz84_4
       try clear hcz84_5
       try clear hcz84_6
       try clear hcz84_7
       try clear hcz84_8
       try clear hcz84_9
       try clear hcz87_0
       try clear hcz87_1
       try clear hcz87_10
       try clear hcz87_11
       try clear hcz87_12
       try clear hcz87_2
       try clear hcz87_3
       try clear hcz87_4
       try clear hcz87_5
       try clear hcz87_6
       try clear hcz87_7
       try clear hcz87_8
       try clear hcz87_9
       try clear hfz13_0
       try clear hfz13_1
       try clear hfz13_10
       try clear hfz13_11
       try clear hfz13_12
       try clear hfz13_2
       try clear hfz13_3
       try clear hfz13_4
       try clear hfz13_5
       try clear hfz13_6
       try clear hfz13_7
       try clear hfz13_8
       try clear hfz13_9
       try clear hfz15_0
       try clear hfz15_1
       try clear hfz15_10
       try clear hfz15_11
       try clear hfz15_12
       try clear hfz15_2
       try clear hfz15_3
       try clear hfz15_4
       try clear hfz15_5
       try clear hfz15_6
       try clear hfz15_7
       try clear hfz15_8
       try clear hfz15_9
       try clear hfz21_0
       try clear hfz21_1
       try clear hfz21_10
       try clear hfz21_11
       try clear hfz21_12
       try clear hfz21_2
       try clear hfz21_3
       try clear hfz21_4
       try clear hfz21_5
       try clear hfz21_6
       try clear hfz21_7
       try clear hfz21_8
       try clear hfz21_9
       try clear hfz23_0
       try clear hfz23_1
       try clear hfz23_10
       try clear hfz23_11
       try clear hfz23_12
       try clear hfz23_2
       try clear hfz23_3
       try clear hfz23_4
       try clear hfz23_5
       try clear hfz23_6
       try clear hfz23_7
       try clear hfz23_8
       try clear hfz23_9
       try clear hfz28_0
       try clear hfz28_1
       try clear hfz28_10
       try clear hfz28_11
       try clear hfz28_12
       try clear hfz28_2
       try clear hfz28_3
       try clear hfz28_4
       try clear hfz28_5
       try clear hfz28_6
       try clear hfz28_7
       try clear hfz28_8
       try clear hfz28_9
       try clear hfz35_0
       try clear hfz35_1
       try clear hfz35_10
       try clear hfz35_11
       try clear hfz35_12
       try clear hfz35_2
       try clear hfz35_3
       try clear hfz35_4
       try clear hfz35_5
       try clear hfz35_6
       try clear hfz35_7
       try clear hfz35_8
       try clear hfz35_9
       try clear hfz42_0
       try clear hfz42_1
       try clear hfz42_10
       try clear hfz42_11
       try clear hfz42_12
       try clear hfz42_2
       try clear hfz42_3
       try clear hfz42_4
       try clear hfz42_5
       try clear hfz42_6
       try clear hfz42_7
       try clear hfz42_8
       try clear hfz42_9
       try clear hfz45_0
       try clear hfz45_1
       try clear hfz45_10
       try clear hfz45_11
       try clear hfz45_12
       try clear hfz45_2
       try clear hfz45_3
       try clear hfz45_4
       try clear hfz45_5
       try clear hfz45_6
       try clear hfz45_7
       try clear hfz45_8
       try clear hfz45_9
       try clear hfz50_0
       try clear hfz50_1
       try clear hfz50_10
       try clear hfz50_11
       try clear hfz50_12
       try clear hfz50_2
       try clear hfz50_3
       try clear hfz50_4
       try clear hfz50_5
       try clear hfz50_6
       try clear hfz50_7
       try clear hfz50_8
       try clear hfz50_9
       try clear hfz53_0
       try clear hfz53_1
       try clear hfz53_10
       try clear hfz53_11
       try clear hfz53_12
       try clear hfz53_2
       try clear hfz53_3
       try clear hfz53_4
       try clear hfz53_5
       try clear hfz53_6
       try clear hfz53_7
       try clear hfz53_8
       try clear hfz53_9
       try clear hfz5_0
       try clear hfz5_1
       try clear hfz5_10
       try clear hfz5_11
       try clear hfz5_12
       try clear hfz5_2
       try clear hfz5_3
       try clear hfz5_4
       try clear hfz5_5
       try clear hfz5_6
       try clear hfz5_7
       try clear hfz5_8
       try clear hfz5_9
       try clear hfz68_0
       try clear hfz68_1
       try clear hfz68_10
       try clear hfz68_11
       try clear hfz68_12
       try clear hfz68_2
       try clear hfz68_3
       try clear hfz68_4
       try clear hfz68_5
       try clear hfz68_6
       try clear hfz68_7
       try clear hfz68_8
       try clear hfz68_9
       try clear hfz76_0
       try clear hfz76_1
       try clear hfz76_10
       try clear hfz76_11
       try clear hfz76_12
       try clear hfz76_2
       try clear hfz76_3
       try clear hfz76_4
       try clear hfz76_5
       try clear hfz76_6
       try clear hfz76_7
       try clear hfz76_8
       try clear hfz76_9
       try clear hfz79_0
       try clear hfz79_1
       try clear hfz79_10
       try clear hfz79_11
       try clear hfz79_12
       try clear hfz79_2
       try clear hfz79_3
       try clear hfz79_4
       try clear hfz79_5
       try clear hfz79_6
       try clear hfz79_7
       try clear hfz79_8
       try clear hfz79_9
       try clear hfz84_0
       try clear hfz84_1
       try clear hfz84_10
       try clear hfz84_11
       try clear hfz84_12
       try clear hfz84_2
       try clear hfz84_3
       try clear hfz84_4
       try clear hfz84_5
       try clear hfz84_6
       try clear hfz84_7
       try clear hfz84_8
       try clear hfz84_9
       try clear hfz87_0
       try clear hfz87_1
       try clear hfz87_10
       try clear hfz87_11
       try clear hfz87_12
       try clear hfz87_2
       try clear hfz87_3
       try clear hfz87_4
       try clear hfz87_5
       try clear hfz87_6
       try clear hfz87_7
       try clear hfz87_8
       try clear hfz87_9
       obtain ⟨kq, x61_59, rfl, HA, HJ59, HO_283009, HO_299009, HO_316009, BK249, BK282, BK298, BK315, HB⟩ := hcut
       have hl299009_59 := (Kd.R_reads' HO_299009.out).1
       rw [hl299009_59] at HO_299009
       (try simp only [hl299009_59])
       (try simp only [hl299009_59] at BK249)
       (try simp only [hl299009_59] at BK282)
       (try simp only [hl299009_59] at BK298)
       (try simp only [hl299009_59] at BK315)
       (try simp only [hl299009_59] at HO_283009)
       (try simp only [hl299009_59] at HO_316009)
       cases kq with
       | zero => exact absurd HA.out (by simp [laws_FnExactShut.j1])
       | succ kj59 =>
        have H := HA.out
        clear HA
        simp only [laws_FnExactShut.j1] at H
        by_cases c89 : x61_59 = true
        ·subst c89
         rw [if_pos rfl] at H
         exact absurd ((Option.some.inj H).trans hr_.out) (by decide)
        ·replace c89 := Bool.eq_false_iff.mpr c89
         subst c89
         rw [if_neg (show ¬ (false = true) by decide)] at H
         replace H := Option.bind_eq_some_iff.mp H
         obtain ⟨⟨t336, t337⟩, A900, H⟩ := H
         (try dsimp only at H)
         have A90 := Aside0.mk A900
         clear A900
         replace H := Option.bind_eq_some_iff.mp H
         obtain ⟨t338, A910, H⟩ := H
         (try dsimp only at H)
         have A91 := Aside0.mk A910
         clear A910
         by_cases c92 : t338 < 0
         ·rw [if_pos c92] at H
          have c92b0 : decide (t338 < 0) = true := decide_eq_true c92
          clear c92
          exact absurd ((Option.some.inj H).trans hr_.out) (by decide)
         ·rw [if_neg c92] at H
          have c92b0 : decide (t338 < 0) = false := decide_eq_false c92
          clear c92
          by_cases c93 : t338 = t336
          ·rw [if_pos c93] at H
           have c93b0 : (t338 == t336) = true := beq_iff_eq.mpr c93
           have c93b1 : (t338 != t336) = false := bne_eq_false_iff_eq.mpr c93
           clear c93
           replace H := Option.bind_eq_some_iff.mp H
           obtain ⟨⟨t339, t340, t341, t342, t343, t344, t345, t346, t347, t348, t351, t352, t353⟩, A940, H⟩ := H
           (try dsimp only at H)
           have A94 := Aside0.mk A940
           clear A940
           replace H := Option.bind_eq_some_iff.mp H
           obtain ⟨⟨t354, t355, t356, t357, t358, t359, t360, t361, t362, t363, t366, t367, t368, t369⟩, A950, H⟩ := H
           (try dsimp only at H)
           have A95 := Aside0.mk A950
           clear A950
           have HC96 := Aside0.mk H
           clear H
           have hnb97 := NB315_249.out
           have hnc97 := NB249_315.out
           have hnb98 := NB315_282.out
           have hnc98 := NB282_315.out
           have hnb99 := NB315_298.out
           have hnc99 := NB298_315.out
           obtain ⟨hcz100_0, hcz100_1, hcz100_2, hcz100_3, hcz100_4, hcz100_5, hcz100_6, hcz100_7, hcz100_8, hcz100_9, hcz100_10, hcz100_11, hcz100_12⟩ := cl13 BK315.out
           obtain ⟨hfz100_0, hfz100_1, hfz100_2, hfz100_3, hfz100_4, hfz100_5, hfz100_6, hfz100_7, hfz100_8, hfz100_9, hfz100_10, hfz100_11, hfz100_12⟩ := fr13 BK315.out
           go_upto_region 25 with (first | ((with_reducible refine gate_callee (f := 65) rfl ?_); refine goesL_ (some 64) rfl rfl Try.func65 B7x38_ rfl #[.agg #[.int .i64 t299, .int .i64 t300, .int .i64 t301, .int .i64 t302, .string t303, .int .i64 t304, .int .i64 t305, .bool t306, .string t307, .slice Ao36 t308.length co36, .bool t311, .int .i64 t312, .int .i64 t313], .int .i64 1] rfl B7x9_ ?_; (with_reducible refine (laws_markStream.calls kj59 t299 t300 t301 t302 t303 t304 t305 t306 t307 (fun k_ => some k_ = (.slice Ao36 t308.length co36 : Value).ownBlock) (.slice Ao36 t308.length co36) t308 t311 t312 t313 1 t336 t337 w _ ?side1 ?side2 A90.out).mono ?_); (case side1 => repeat (first | (with_reducible first | exact HB.out | apply below_alloc | apply pw_below_drewN | apply below_drew1 | refine below_set ?_ GE249.out | refine below_set ?_ GE282.out | refine below_set ?_ GE298.out | refine below_set ?_ GE315.out) | exact HB.out)); (case side2 => exact Kd.R_tight rfl HO_316009.out); rintro e w101 ⟨rfl, hy0, hb, hkp⟩; refine ⟨_, rfl, ?_⟩; have n0_ := Aside0.mk (Kd.R_mono (ok' := fun k_ => some k_ ≠ (.slice Ao29 t334.length co29 : Value).ownBlock ∧ some k_ ≠ (.slice Ao36 t308.length co36 : Value).ownBlock) (Kd.R_keptB (HO_283009.out) hkp (fun k_ hk_ hs_ => (hk_.2) hs_)) (fun k_ hk_ => ⟨hk_.1.1, hk_.1.2⟩)); have n1_ := Aside0.mk (Kd.R_mono (ok' := fun k_ => some k_ ≠ (.slice Ao22 t275.length co22 : Value).ownBlock ∧ some k_ ≠ (.slice Ao36 t308.length co36 : Value).ownBlock) (Kd.R_keptB (HO_299009.out) hkp (fun k_ hk_ hs_ => (hk_.2) hs_)) (fun k_ hk_ => ⟨hk_.1.1, hk_.1.2⟩)); have n2_ := Aside0.mk (Kd.R_reok rfl hy0 (fun k_ e_ => HO_316009.out.1 k_ e_)); have n3_ := Aside0.mk (blk_kept B7x7_ hkp (fun hs_ => (fun e_ => (Kd.R_ne HO_316009.out BK249.out (by decide)) e_) hs_)); have n4_ := Aside0.mk (blk_kept B7x10_ hkp (fun hs_ => (fun e_ => (Kd.R_ne HO_316009.out BK282.out (by decide)) e_) hs_)); have n5_ := Aside0.mk (blk_kept B7x18_ hkp (fun hs_ => (fun e_ => (Kd.R_ne HO_316009.out BK298.out (by decide)) e_) hs_)); have n6_ := Aside0.mk (blk_kept B7x19_ hkp (fun hs_ => (fun e_ => (Kd.R_ne HO_316009.out BK315.out (by decide)) e_) hs_)); have n7_ := Aside0.mk (hb); clear HO_283009; clear HO_299009; clear HO_316009; clear BK249; clear BK282; clear BK298; clear BK315; clear HB; have HO_283009 := n0_; have HO_299009 := n1_; have HO_316009 := n2_; have BK249 := n3_; have BK282 := n4_; have BK298 := n5_; have BK315 := n6_; have HB := n7_; clear n0_ n1_ n2_ n3_ n4_ n5_ n6_ n7_; (try clear hb); (try clear hkp); (try clear hy0); obtain ⟨hcz102_0, hcz102_1, hcz102_2, hcz102_3, hcz102_4, hcz102_5, hcz102_6, hcz102_7, hcz102_8, hcz102_9, hcz102_10, hcz102_11, hcz102_12⟩ := cl13 BK315.out; obtain ⟨hfz102_0, hfz102_1, hfz102_2, hfz102_3, hfz102_4, hfz102_5, hfz102_6, hfz102_7, hfz102_8, hfz102_9, hfz102_10, hfz102_11, hfz102_12⟩ := fr13 BK315.out) | ((with_reducible refine gate_callee (f := 66) rfl ?_); refine goesL_ (some 67) rfl rfl Try.func66 B7x38_ rfl #[.agg #[.int .i64 t299, .int .i64 t300, .int .i64 t301, .int .i64 t302, .string t303, .int .i64 t304, .int .i64 t305, .bool t306, .string t307, .slice Ao36 t337.length co36, .bool t311, .int .i64 t312, .int .i64 t313], .int .i64 1] rfl (by (try simp only [List.map_toArray, List.map_cons, List.map_nil]); first | done | (rw [show t337.length = t308.length from (Kd.R_reads' HO_316009.out).1.symm] <;> rfl) | rfl | (simp only [List.length_drop, List.length_take]; rfl)) ?_; (with_reducible refine (laws_heldStream.calls kj59 t299 t300 t301 t302 t303 t304 t305 t306 t307 _ _ t337 t311 t312 t313 1 t338 _ ?side1 ?side2 A91.out).mono ?_); (case side1 => repeat (first | exact (Kd.R_reads' HO_316009.out).2.2 | (with_reducible refine Kd.C_alloc ?_ _) | (with_reducible refine Kd.C_drewN ?_ _) | (with_reducible refine Kd.C_drew ?_))); (case side2 => rw [show t337.length = t308.length from (Kd.R_reads' HO_316009.out).1.symm]; exact (Kd.R_reads' HO_316009.out).2.1); rintro e w103 ⟨rfl, hb⟩; refine ⟨_, rfl, ?_⟩; have n0_ := Aside0.mk (Kd.R_below B7x21_ hb); have n1_ := Aside0.mk (Kd.R_below B7x22_ hb); have n2_ := Aside0.mk (Kd.R_below B7x23_ hb); have n3_ := Aside0.mk (blk_below (g := gb249) (o := .cells #[.int .i64 a0_0, .int .i64 a0_1, .int .i64 a0_2, .int .i64 a0_3, .string a0_4, .int .i64 a0_5, .int .i64 a0_6, .bool a0_7, .string a0_8, .slice A0_9 l0_9.length c0_9, .bool a0_10, .int .i64 a0_11, .int .i64 a0_12] 24 (0, 0)) B7x7_ hb); have n4_ := Aside0.mk (blk_below (g := gb282) (o := .cells #[.int .i64 t266, .int .i64 t267, .int .i64 t268, .int .i64 t269, .string t270, .int .i64 t271, .int .i64 t272, .bool t273, .string t274, .slice Ao22 t275.length co22, .bool t278, .int .i64 t279, .int .i64 t280] 29 (0, 0)) B7x10_ hb); have n5_ := Aside0.mk (blk_below (g := gb298) (o := .cells #[.int .i64 t283, .int .i64 t284, .int .i64 t285, .int .i64 t286, .string t287, .int .i64 t288, .int .i64 t289, .bool t290, .string t291, .slice Ao29 t334.length co29, .bool t295, .int .i64 t296, .int .i64 t297] 29 (0, 0)) B7x18_ hb); have n6_ := Aside0.mk (blk_below (g := gb315) (o := .cells #[.int .i64 t299, .int .i64 t300, .int .i64 t301, .int .i64 t302, .string t303, .int .i64 t304, .int .i64 t305, .bool t306, .string t307, .slice Ao36 t308.length co36, .bool t311, .int .i64 t312, .int .i64 t313] 29 (0, 0)) B7x19_ hb); have n7_ := Aside0.mk (below_step B7x2_ hb); clear HO_283009; clear HO_299009; clear HO_316009; clear BK249; clear BK282; clear BK298; clear BK315; clear HB; have HO_283009 := n0_; have HO_299009 := n1_; have HO_316009 := n2_; have BK249 := n3_; have BK282 := n4_; have BK298 := n5_; have BK315 := n6_; have HB := n7_; clear n0_ n1_ n2_ n3_ n4_ n5_ n6_ n7_; (try clear hb); (try clear hb2); (try clear hk); (try clear hi); have hnb104 := NB249_282.out; have hnc104 := NB282_249.out; have hnb105 := NB249_298.out; have hnc105 := NB298_249.out; obtain ⟨hcz106_0, hcz106_1, hcz106_2, hcz106_3, hcz106_4, hcz106_5, hcz106_6, hcz106_7, hcz106_8, hcz106_9, hcz106_10, hcz106_11, hcz106_12⟩ := cl13 BK249.out; obtain ⟨hfz106_0, hfz106_1, hfz106_2, hfz106_3, hfz106_4, hfz106_5, hfz106_6, hfz106_7, hfz106_8, hfz106_9, hfz106_10, hfz106_11, hfz106_12⟩ := fr13 BK249.out) | ((with_reducible refine gate_callee (f := 17) rfl ?_); refine goesL_ (some 75) rfl rfl Try.func17 B7x38_ rfl #[.agg #[.int .i64 a0_0, .int .i64 a0_1, .int .i64 a0_2, .int .i64 a0_3, .string a0_4, .int .i64 a0_5, .int .i64 a0_6, .bool a0_7, .string a0_8, .slice A0_9 l0_9.length c0_9, .bool a0_10, .int .i64 a0_11, .int .i64 a0_12]] rfl B7x9_ ?_; (with_reducible refine (laws_toStream.calls kj59 a0_0 a0_1 a0_2 a0_3 a0_4 a0_5 a0_6 a0_7 a0_8 _ _ l0_9 a0_10 a0_11 a0_12 t339 t340 t341 t342 t343 t344 t345 t346 t347 t348 t351 t352 t353 _ ?side1 ?side2 A94.out).mono ?_); (case side1 => repeat (first | exact (Kd.C_below HR0_9.out HB.out) | (with_reducible refine Kd.C_alloc ?_ _) | (with_reducible refine Kd.C_drewN ?_ _) | (with_reducible refine Kd.C_drew ?_))); (case side2 => exact HC0_9.out); rintro e w107 ⟨v349, rfl, ho0, hb⟩; refine ⟨_, rfl, ?_⟩; have n0_ := Aside0.mk (Kd.R_elder' B7x21_ (Kd.R_base ho0) hb); have n1_ := Aside0.mk (Kd.R_elder' B7x22_ (Kd.R_base ho0) hb); have n2_ := Aside0.mk (Kd.R_elder' B7x23_ (Kd.R_base ho0) hb); have n3_ := Aside0.mk (Kd.R_lower (Kd.R_new' (Kd.R_new' (Kd.R_new' ho0 (Kd.R_lt B7x21_)) (Kd.R_lt B7x22_)) (Kd.R_lt B7x23_)) (below_size B7x2_)); have n4_ := Aside0.mk (blk_below (g := gb249) (o := .cells #[.int .i64 a0_0, .int .i64 a0_1, .int .i64 a0_2, .int .i64 a0_3, .string a0_4, .int .i64 a0_5, .int .i64 a0_6, .bool a0_7, .string a0_8, .slice A0_9 l0_9.length c0_9, .bool a0_10, .int .i64 a0_11, .int .i64 a0_12] 24 (0, 0)) B7x7_ hb); have n5_ := Aside0.mk (blk_below (g := gb282) (o := .cells #[.int .i64 t266, .int .i64 t267, .int .i64 t268, .int .i64 t269, .string t270, .int .i64 t271, .int .i64 t272, .bool t273, .string t274, .slice Ao22 t275.length co22, .bool t278, .int .i64 t279, .int .i64 t280] 29 (0, 0)) B7x10_ hb); have n6_ := Aside0.mk (blk_below (g := gb298) (o := .cells #[.int .i64 t283, .int .i64 t284, .int .i64 t285, .int .i64 t286, .string t287, .int .i64 t288, .int .i64 t289, .bool t290, .string t291, .slice Ao29 t334.length co29, .bool t295, .int .i64 t296, .int .i64 t297] 29 (0, 0)) B7x18_ hb); have n7_ := Aside0.mk (blk_below (g := gb315) (o := .cells #[.int .i64 t299, .int .i64 t300, .int .i64 t301, .int .i64 t302, .string t303, .int .i64 t304, .int .i64 t305, .bool t306, .string t307, .slice Ao36 t308.length co36, .bool t311, .int .i64 t312, .int .i64 t313] 29 (0, 0)) B7x19_ hb); have n8_ := Aside0.mk (below_step B7x2_ hb); clear HO_283009; clear HO_299009; clear HO_316009; clear BK249; clear BK282; clear BK298; clear BK315; clear HB; have HO_283009 := n0_; have HO_299009 := n1_; have HO_316009 := n2_; have HO350 := n3_; have BK249 := n4_; have BK282 := n5_; have BK298 := n6_; have BK315 := n7_; have HB := n8_; clear n0_ n1_ n2_ n3_ n4_ n5_ n6_ n7_ n8_; (try clear hb); (try clear hb2); (try clear hk); (try clear hi); (try clear ho0); obtain ⟨Ao108, co108, eo108⟩ := Kd.R_slice HO350.out; subst eo108) | ((with_reducible refine gate_callee (f := 64) rfl ?_); refine goesL_ (some 76) rfl rfl Try.func64 B7x38_ rfl #[.agg #[.int .i64 t339, .int .i64 t340, .int .i64 t341, .int .i64 t342, .string t343, .int .i64 t344, .int .i64 t345, .bool t346, .string t347, .slice Ao108 t348.length co108, .bool t351, .int .i64 t352, .int .i64 t353]] rfl B7x9_ ?_; (with_reducible refine (impl_Shut.calls kj59 t339 t340 t341 t342 t343 t344 t345 t346 t347 _ _ t348 t351 t352 t353 t354 t355 t356 t357 t358 t359 t360 t361 t362 t363 t366 t367 t368 t369 _ ?side1 ?side2 A95.out).mono ?_); (case side1 => repeat (first | exact (Kd.R_reads' HO350.out).2.2 | (with_reducible refine Kd.C_alloc ?_ _) | (with_reducible refine Kd.C_drewN ?_ _) | (with_reducible refine Kd.C_drew ?_))); (case side2 => exact (Kd.R_reads' HO350.out).2.1); rintro e w109 ⟨v364, rfl, ho0, hb⟩; refine ⟨_, rfl, ?_⟩; have n0_ := Aside0.mk (Kd.R_elder' B7x21_ (Kd.R_base ho0) hb); have n1_ := Aside0.mk (Kd.R_elder' B7x22_ (Kd.R_base ho0) hb); have n2_ := Aside0.mk (Kd.R_elder' B7x23_ (Kd.R_base ho0) hb); have n3_ := Aside0.mk (Kd.R_elder' B7x41_ (Kd.R_base ho0) hb); have n4_ := Aside0.mk (Kd.R_lower (Kd.R_new' (Kd.R_new' (Kd.R_new' (Kd.R_new' ho0 (Kd.R_lt B7x21_)) (Kd.R_lt B7x22_)) (Kd.R_lt B7x23_)) (Kd.R_lt B7x41_)) (below_size B7x2_)); have n5_ := Aside0.mk (blk_below (g := gb249) (o := .cells #[.int .i64 a0_0, .int .i64 a0_1, .int .i64 a0_2, .int .i64 a0_3, .string a0_4, .int .i64 a0_5, .int .i64 a0_6, .bool a0_7, .string a0_8, .slice A0_9 l0_9.length c0_9, .bool a0_10, .int .i64 a0_11, .int .i64 a0_12] 24 (0, 0)) B7x7_ hb); have n6_ := Aside0.mk (blk_below (g := gb282) (o := .cells #[.int .i64 t266, .int .i64 t267, .int .i64 t268, .int .i64 t269, .string t270, .int .i64 t271, .int .i64 t272, .bool t273, .string t274, .slice Ao22 t275.length co22, .bool t278, .int .i64 t279, .int .i64 t280] 29 (0, 0)) B7x10_ hb); have n7_ := Aside0.mk (blk_below (g := gb298) (o := .cells #[.int .i64 t283, .int .i64 t284, .int .i64 t285, .int .i64 t286, .string t287, .int .i64 t288, .int .i64 t289, .bool t290, .string t291, .slice Ao29 t334.length co29, .bool t295, .int .i64 t296, .int .i64 t297] 29 (0, 0)) B7x18_ hb); have n8_ := Aside0.mk (blk_below (g := gb315) (o := .cells #[.int .i64 t299, .int .i64 t300, .int .i64 t301, .int .i64 t302, .string t303, .int .i64 t304, .int .i64 t305, .bool t306, .string t307, .slice Ao36 t308.length co36, .bool t311, .int .i64 t312, .int .i64 t313] 29 (0, 0)) B7x19_ hb); have n9_ := Aside0.mk (below_step B7x2_ hb); clear HO_283009; clear HO_299009; clear HO_316009; clear HO350; clear BK249; clear BK282; clear BK298; clear BK315; clear HB; have HO_283009 := n0_; have HO_299009 := n1_; have HO_316009 := n2_; have HO350 := n3_; have HO365 := n4_; have BK249 := n5_; have BK282 := n6_; have BK298 := n7_; have BK315 := n8_; have HB := n9_; clear n0_ n1_ n2_ n3_ n4_ n5_ n6_ n7_ n8_ n9_; (try clear hb); (try clear hb2); (try clear hk); (try clear hi); (try clear ho0)) | ((with_reducible refine gate_dst (N := 12) rfl ?_); refine box_event ?hg (N := 12) ?hd (cs := #[.int .i64 0, .int .i64 0, .int .i64 0, .int .i64 0, .string (⟨#[]⟩ : ByteArray), .int .i64 0, .int .i64 0, .bool false, .string (⟨#[]⟩ : ByteArray), .slice none 0 0, .bool false, .int .i64 0, .int .i64 0]) (t := 29) ?hr ?_; (case hd => rfl); (case hg => rfl); (case hr => first | (go_simp; done) | (go_simp; rfl)); intro gb370 hg w110 hbox hb; have n0_ := Aside0.mk (Kd.R_below B7x21_ hb); have n1_ := Aside0.mk (Kd.R_below B7x22_ hb); have n2_ := Aside0.mk (Kd.R_below B7x23_ hb); have n3_ := Aside0.mk (Kd.R_below B7x41_ hb); have n4_ := Aside0.mk (Kd.R_below (by (with_reducible repeat (first | apply Kd.R_alloc | apply Kd.R_drewN | apply Kd.R_drew)); exact HO365.out) hb); have n5_ := Aside0.mk (blk_below (g := gb249) (o := .cells #[.int .i64 a0_0, .int .i64 a0_1, .int .i64 a0_2, .int .i64 a0_3, .string a0_4, .int .i64 a0_5, .int .i64 a0_6, .bool a0_7, .string a0_8, .slice A0_9 l0_9.length c0_9, .bool a0_10, .int .i64 a0_11, .int .i64 a0_12] 24 (0, 0)) B7x7_ hb); have n6_ := Aside0.mk (blk_below (g := gb282) (o := .cells #[.int .i64 t266, .int .i64 t267, .int .i64 t268, .int .i64 t269, .string t270, .int .i64 t271, .int .i64 t272, .bool t273, .string t274, .slice Ao22 t275.length co22, .bool t278, .int .i64 t279, .int .i64 t280] 29 (0, 0)) B7x10_ hb); have n7_ := Aside0.mk (blk_below (g := gb298) (o := .cells #[.int .i64 t283, .int .i64 t284, .int .i64 t285, .int .i64 t286, .string t287, .int .i64 t288, .int .i64 t289, .bool t290, .string t291, .slice Ao29 t334.length co29, .bool t295, .int .i64 t296, .int .i64 t297] 29 (0, 0)) B7x18_ hb); have n8_ := Aside0.mk (blk_below (g := gb315) (o := .cells #[.int .i64 t299, .int .i64 t300, .int .i64 t301, .int .i64 t302, .string t303, .int .i64 t304, .int .i64 t305, .bool t306, .string t307, .slice Ao36 t308.length co36, .bool t311, .int .i64 t312, .int .i64 t313] 29 (0, 0)) B7x19_ hb); have n9_ := Aside0.mk (below_step B7x2_ hb); have n10_ := Aside0.mk (hbox); have n11_ := Aside0.mk ((by rw [hg]; exact (below_size B7x2_) : w.heap.size ≤ gb370)); have n12_ := Aside0.mk ((by rw [hg]; exact (below_size B7x2_) : w.heap.size ≤ gb370)); have n13_ := Aside0.mk ((by rw [hg]; exact Nat.ne_of_lt (blk_lt (g := gb249) (o := .cells #[.int .i64 a0_0, .int .i64 a0_1, .int .i64 a0_2, .int .i64 a0_3, .string a0_4, .int .i64 a0_5, .int .i64 a0_6, .bool a0_7, .string a0_8, .slice A0_9 l0_9.length c0_9, .bool a0_10, .int .i64 a0_11, .int .i64 a0_12] 24 (0, 0)) B7x7_) : gb249 ≠ gb370)); have n14_ := Aside0.mk ((by rw [hg]; exact Nat.ne_of_gt (blk_lt (g := gb249) (o := .cells #[.int .i64 a0_0, .int .i64 a0_1, .int .i64 a0_2, .int .i64 a0_3, .string a0_4, .int .i64 a0_5, .int .i64 a0_6, .bool a0_7, .string a0_8, .slice A0_9 l0_9.length c0_9, .bool a0_10, .int .i64 a0_11, .int .i64 a0_12] 24 (0, 0)) B7x7_) : gb370 ≠ gb249)); have n15_ := Aside0.mk ((by rw [hg]; exact Nat.ne_of_lt (blk_lt (g := gb282) (o := .cells #[.int .i64 t266, .int .i64 t267, .int .i64 t268, .int .i64 t269, .string t270, .int .i64 t271, .int .i64 t272, .bool t273, .string t274, .slice Ao22 t275.length co22, .bool t278, .int .i64 t279, .int .i64 t280] 29 (0, 0)) B7x10_) : gb282 ≠ gb370)); have n16_ := Aside0.mk ((by rw [hg]; exact Nat.ne_of_gt (blk_lt (g := gb282) (o := .cells #[.int .i64 t266, .int .i64 t267, .int .i64 t268, .int .i64 t269, .string t270, .int .i64 t271, .int .i64 t272, .bool t273, .string t274, .slice Ao22 t275.length co22, .bool t278, .int .i64 t279, .int .i64 t280] 29 (0, 0)) B7x10_) : gb370 ≠ gb282)); have n17_ := Aside0.mk ((by rw [hg]; exact Nat.ne_of_lt (blk_lt (g := gb298) (o := .cells #[.int .i64 t283, .int .i64 t284, .int .i64 t285, .int .i64 t286, .string t287, .int .i64 t288, .int .i64 t289, .bool t290, .string t291, .slice Ao29 t334.length co29, .bool t295, .int .i64 t296, .int .i64 t297] 29 (0, 0)) B7x18_) : gb298 ≠ gb370)); have n18_ := Aside0.mk ((by rw [hg]; exact Nat.ne_of_gt (blk_lt (g := gb298) (o := .cells #[.int .i64 t283, .int .i64 t284, .int .i64 t285, .int .i64 t286, .string t287, .int .i64 t288, .int .i64 t289, .bool t290, .string t291, .slice Ao29 t334.length co29, .bool t295, .int .i64 t296, .int .i64 t297] 29 (0, 0)) B7x18_) : gb370 ≠ gb298)); have n19_ := Aside0.mk ((by rw [hg]; exact Nat.ne_of_lt (blk_lt (g := gb315) (o := .cells #[.int .i64 t299, .int .i64 t300, .int .i64 t301, .int .i64 t302, .string t303, .int .i64 t304, .int .i64 t305, .bool t306, .string t307, .slice Ao36 t308.length co36, .bool t311, .int .i64 t312, .int .i64 t313] 29 (0, 0)) B7x19_) : gb315 ≠ gb370)); have n20_ := Aside0.mk ((by rw [hg]; exact Nat.ne_of_gt (blk_lt (g := gb315) (o := .cells #[.int .i64 t299, .int .i64 t300, .int .i64 t301, .int .i64 t302, .string t303, .int .i64 t304, .int .i64 t305, .bool t306, .string t307, .slice Ao36 t308.length co36, .bool t311, .int .i64 t312, .int .i64 t313] 29 (0, 0)) B7x19_) : gb370 ≠ gb315)); clear HO_283009; clear HO_299009; clear HO_316009; clear HO350; clear HO365; clear BK249; clear BK282; clear BK298; clear BK315; clear HB; have HO_283009 := n0_; have HO_299009 := n1_; have HO_316009 := n2_; have HO350 := n3_; have HO365 := n4_; have BK249 := n5_; have BK282 := n6_; have BK298 := n7_; have BK315 := n8_; have HB := n9_; have BK370 := n10_; have GW370 := n11_; have GE370 := n12_; have NB249_370 := n13_; have NB370_249 := n14_; have NB282_370 := n15_; have NB370_282 := n16_; have NB298_370 := n17_; have NB370_298 := n18_; have NB315_370 := n19_; have NB370_315 := n20_; clear n0_ n1_ n2_ n3_ n4_ n5_ n6_ n7_ n8_ n9_ n10_ n11_ n12_ n13_ n14_ n15_ n16_ n17_ n18_ n19_ n20_; clear hb hbox hg; have hnb111 := NB370_249.out; have hnc111 := NB249_370.out; have hnb112 := NB370_282.out; have hnc112 := NB282_370.out; have hnb113 := NB370_298.out; have hnc113 := NB298_370.out; have hnb114 := NB370_315.out; have hnc114 := NB315_370.out; obtain ⟨hcz115_0, hcz115_1, hcz115_2, hcz115_3, hcz115_4, hcz115_5, hcz115_6, hcz115_7, hcz115_8, hcz115_9, hcz115_10, hcz115_11, hcz115_12⟩ := cl13 BK370.out; obtain ⟨hfz115_0, hfz115_1, hfz115_2, hfz115_3, hfz115_4, hfz115_5, hfz115_6, hfz115_7, hfz115_8, hfz115_9, hfz115_10, hfz115_11, hfz115_12⟩ := fr13 BK370.out; obtain ⟨Ao116, co116, eo116⟩ := Kd.R_slice HO365.out; subst eo116))
           (try simp only [Act.put, List.setIfInBounds_toArray, List.set_cons_zero, List.set_cons_succ])
           go_cut [87] (fun v87 wc => ∃ (kq : Nat) (x87_95 : Bool), v87 = .bool x87_95 ∧ Aside0 (laws_FnExactShut.j2 kq t336 x87_95 t299 t300 t301 t302 t303 t304 t305 t306 t307 t337 t311 t312 t313 = some r) ∧ Aside0 (kq ≤ kj59) ∧ Aside0 (Kd.R k112 112 wc w.heap.size (fun k_ => some k_ ≠ ((.slice Ao29 t334.length co29) : Value).ownBlock ∧ some k_ ≠ ((.slice Ao36 t308.length co36) : Value).ownBlock ∧ some k_ ≠ ((.slice Ao116 t363.length co116) : Value).ownBlock) (.slice Ao22 t275.length co22) t275) ∧ Aside0 (Kd.R k112 112 wc w.heap.size (fun k_ => some k_ ≠ ((.slice Ao22 t275.length co22) : Value).ownBlock ∧ some k_ ≠ ((.slice Ao36 t308.length co36) : Value).ownBlock ∧ some k_ ≠ ((.slice Ao116 t363.length co116) : Value).ownBlock) (.slice Ao29 t334.length co29) t334) ∧ Aside0 (Kd.R k112 112 wc w.heap.size (fun k_ => some k_ ≠ ((.slice Ao22 t275.length co22) : Value).ownBlock ∧ some k_ ≠ ((.slice Ao29 t334.length co29) : Value).ownBlock ∧ some k_ ≠ ((.slice Ao116 t363.length co116) : Value).ownBlock) (.slice Ao36 t308.length co36) t337) ∧ Aside0 (Kd.R k112 112 wc w.heap.size (fun k_ => some k_ ≠ ((.slice Ao22 t275.length co22) : Value).ownBlock ∧ some k_ ≠ ((.slice Ao29 t334.length co29) : Value).ownBlock ∧ some k_ ≠ ((.slice Ao36 t308.length co36) : Value).ownBlock) (.slice Ao116 t363.length co116) t363) ∧ Aside0 (wc.heap[gb249]? = some (.cells #[.int .i64 a0_0, .int .i64 a0_1, .int .i64 a0_2, .int .i64 a0_3, .string a0_4, .int .i64 a0_5, .int .i64 a0_6, .bool a0_7, .string a0_8, (.slice A0_9 l0_9.length c0_9), .bool a0_10, .int .i64 a0_11, .int .i64 a0_12] 24 (0, 0))) ∧ Aside0 (wc.heap[gb282]? = some (.cells #[.int .i64 t266, .int .i64 t267, .int .i64 t268, .int .i64 t269, .string t270, .int .i64 t271, .int .i64 t272, .bool t273, .string t274, (.slice Ao22 t275.length co22), .bool t278, .int .i64 t279, .int .i64 t280] 29 (0, 0))) ∧ Aside0 (wc.heap[gb298]? = some (.cells #[.int .i64 t283, .int .i64 t284, .int .i64 t285, .int .i64 t286, .string t287, .int .i64 t288, .int .i64 t289, .bool t290, .string t291, (.slice Ao29 t334.length co29), .bool t295, .int .i64 t296, .int .i64 t297] 29 (0, 0))) ∧ Aside0 (wc.heap[gb315]? = some (.cells #[.int .i64 t299, .int .i64 t300, .int .i64 t301, .int .i64 t302, .string t303, .int .i64 t304, .int .i64 t305, .bool t306, .string t307, (.slice Ao36 t308.length co36), .bool t311, .int .i64 t312, .int .i64 t313] 29 (0, 0))) ∧ Aside0 (wc.heap[gb370]? = some (.cells #[.int .i64 t354, .int .i64 t355, .int .i64 t356, .int .i64 t357, .string t358, .int .i64 t359, .int .i64 t360, .bool t361, .string t362, (.slice Ao116 t363.length co116), .bool t366, .int .i64 t367, .int .i64 t368] 29 (0, 0))) ∧ Aside0 (Below w.heap.size w wc))
           case first =>
            have H := HC96.out
            clear HC96
            replace H := Option.bind_eq_some_iff.mp H
            obtain ⟨t371, A1170, H⟩ := H
            (try dsimp only at H)
            have A117 := Aside0.mk A1170
            clear A1170
            by_cases c118 : t371 = true
            ·subst c118
             rw [if_pos rfl] at H
             have H' := Aside0.mk H
             clear H
             have hnb119 := NB370_249.out
             have hnc119 := NB249_370.out
             have hnb120 := NB370_282.out
             have hnc120 := NB282_370.out
             have hnb121 := NB370_298.out
             have hnc121 := NB298_370.out
             have hnb122 := NB370_315.out
             have hnc122 := NB315_370.out
             obtain ⟨hcz123_0, hcz123_1, hcz123_2, hcz123_3, hcz123_4, hcz123_5, hcz123_6, hcz123_7, hcz123_8, hcz123_9, hcz123_10, hcz123_11, hcz123_12⟩ := cl13 BK370.out
             obtain ⟨hfz123_0, hfz123_1, hfz123_2, hfz123_3, hfz123_4, hfz123_5, hfz123_6, hfz123_7, hfz123_8, hfz123_9, hfz123_10, hfz123_11, hfz123_12⟩ := fr13 BK370.out
             have hnb124 := NB282_249.out
             have hnc124 := NB249_282.out
             have hnb125 := NB282_298.out
             have hnc125 := NB298_282.out
             have hnb126 := NB282_315.out
             have hnc126 := NB315_282.out
             obtain ⟨hcz127_0, hcz127_1, hcz127_2, hcz127_3, hcz127_4, hcz127_5, hcz127_6, hcz127_7, hcz127_8, hcz127_9, hcz127_10, hcz127_11, hcz127_12⟩ := cl13 BK282.out
             obtain ⟨hfz127_0, hfz127_1, hfz127_2, hfz127_3, hfz127_4, hfz127_5, hfz127_6, hfz127_7, hfz127_8, hfz127_9, hfz127_10, hfz127_11, hfz127_12⟩ := fr13 BK282.out
             go_wp2_with (first | ((with_reducible refine gate_callee (f := 19) rfl ?_); refine goesL_ (some 81) rfl rfl Try.func19 B7x38_ rfl #[.agg #[.int .i64 t354, .int .i64 t355, .int .i64 t356, .int .i64 t357, .string t358, .int .i64 t359, .int .i64 t360, .bool t361, .string t362, .slice Ao116 t363.length co116, .bool t366, .int .i64 t367, .int .i64 t368], .agg #[.int .i64 t266, .int .i64 t267, .int .i64 t268, .int .i64 t269, .string t270, .int .i64 t271, .int .i64 t272, .bool t273, .string t274, .slice Ao22 t275.length co22, .bool t278, .int .i64 t279, .int .i64 t280]] rfl B7x9_ ?_; (with_reducible refine (laws_eqStream.calls kj59 t354 t355 t356 t357 t358 t359 t360 t361 t362 _ _ t363 t366 t367 t368 t266 t267 t268 t269 t270 t271 t272 t273 t274 _ _ t275 t278 t279 t280 true _ ?side1 ?side2 ?side3 ?side4 A117.out).mono ?_); (case side1 => refine (Kd.R_reads' (e := 112) (base := w.heap.size) (ok := fun k_ => ((((True ∧ some k_ ≠ (.slice Ao22 t275.length co22 : Value).ownBlock) ∧ some k_ ≠ (.slice Ao29 t334.length co29 : Value).ownBlock) ∧ some k_ ≠ (.slice Ao36 t308.length co36 : Value).ownBlock) ∧ some k_ ≠ (.slice Ao108 t348.length co108 : Value).ownBlock)) (n := t363.length) (c := co116) ?_).2.2; exact B7x4_); (case side2 => exact (Kd.R_reads' HO365.out).2.1); (case side3 => refine (Kd.R_reads' (e := 112) (base := w.heap.size) (ok := fun k_ => (((some k_ ≠ (.slice Ao29 t334.length co29 : Value).ownBlock ∧ some k_ ≠ (.slice Ao36 t308.length co36 : Value).ownBlock) ∧ some k_ ≠ (.slice Ao108 t348.length co108 : Value).ownBlock) ∧ some k_ ≠ (.slice Ao116 t363.length co116 : Value).ownBlock)) (n := t275.length) (c := co22) ?_).2.2; exact B7x3_); (case side4 => exact (Kd.R_reads' HO_283009.out).2.1); rintro e w128 ⟨rfl, hb⟩; refine ⟨_, rfl, ?_⟩; have n0_ := Aside0.mk (Kd.R_below B7x3_ hb); have n1_ := Aside0.mk (Kd.R_below B7x24_ hb); have n2_ := Aside0.mk (Kd.R_below B7x25_ hb); have n3_ := Aside0.mk (Kd.R_below B7x26_ hb); have n4_ := Aside0.mk (Kd.R_below B7x4_ hb); have n5_ := Aside0.mk (blk_below (g := gb249) (o := .cells #[.int .i64 a0_0, .int .i64 a0_1, .int .i64 a0_2, .int .i64 a0_3, .string a0_4, .int .i64 a0_5, .int .i64 a0_6, .bool a0_7, .string a0_8, .slice A0_9 l0_9.length c0_9, .bool a0_10, .int .i64 a0_11, .int .i64 a0_12] 24 (0, 0)) B7x12_ hb); have n6_ := Aside0.mk (blk_below (g := gb282) (o := .cells #[.int .i64 t266, .int .i64 t267, .int .i64 t268, .int .i64 t269, .string t270, .int .i64 t271, .int .i64 t272, .bool t273, .string t274, .slice Ao22 t275.length co22, .bool t278, .int .i64 t279, .int .i64 t280] 29 (0, 0)) B7x14_ hb); have n7_ := Aside0.mk (blk_below (g := gb298) (o := .cells #[.int .i64 t283, .int .i64 t284, .int .i64 t285, .int .i64 t286, .string t287, .int .i64 t288, .int .i64 t289, .bool t290, .string t291, .slice Ao29 t334.length co29, .bool t295, .int .i64 t296, .int .i64 t297] 29 (0, 0)) B7x16_ hb); have n8_ := Aside0.mk (blk_below (g := gb315) (o := .cells #[.int .i64 t299, .int .i64 t300, .int .i64 t301, .int .i64 t302, .string t303, .int .i64 t304, .int .i64 t305, .bool t306, .string t307, .slice Ao36 t308.length co36, .bool t311, .int .i64 t312, .int .i64 t313] 29 (0, 0)) B7x17_ hb); have n9_ := Aside0.mk (blk_below (g := gb370) (o := .cells #[.int .i64 t354, .int .i64 t355, .int .i64 t356, .int .i64 t357, .string t358, .int .i64 t359, .int .i64 t360, .bool t361, .string t362, .slice Ao116 t363.length co116, .bool t366, .int .i64 t367, .int .i64 t368] 29 (0, 0)) B7x0_ hb); have n10_ := Aside0.mk (below_step B7x36_ hb); clear HO_283009; clear HO_299009; clear HO_316009; clear HO350; clear HO365; clear BK249; clear BK282; clear BK298; clear BK315; clear BK370; clear HB; have HO_283009 := n0_; have HO_299009 := n1_; have HO_316009 := n2_; have HO350 := n3_; have HO365 := n4_; have BK249 := n5_; have BK282 := n6_; have BK298 := n7_; have BK315 := n8_; have BK370 := n9_; have HB := n10_; clear n0_ n1_ n2_ n3_ n4_ n5_ n6_ n7_ n8_ n9_ n10_; (try clear hb); (try clear hb2); (try clear hk); (try clear hi)))
             go_meet
             case rel => exact ⟨_, ((t369 != t281)), (be_), H', ⟨by have := HJ10.out; have := HJ59.out; first | omega | exact Nat.le_refl _⟩, ⟨by (try simp only [hl299009_59]); (with_reducible repeat (first | apply Kd.R_alloc | apply Kd.R_drewN | apply Kd.R_drew)); exact Kd.R_mono HO_283009.out (fun _ hk => ⟨hk.1.1.1, ⟨hk.1.1.2, hk.2⟩⟩)⟩, ⟨by (try simp only [hl299009_59]); (with_reducible repeat (first | apply Kd.R_alloc | apply Kd.R_drewN | apply Kd.R_drew)); exact Kd.R_mono HO_299009.out (fun _ hk => ⟨hk.1.1.1, ⟨hk.1.1.2, hk.2⟩⟩)⟩, ⟨by (try simp only [hl299009_59]); (with_reducible repeat (first | apply Kd.R_alloc | apply Kd.R_drewN | apply Kd.R_drew)); exact Kd.R_mono HO_316009.out (fun _ hk => ⟨hk.1.1.1, ⟨hk.1.1.2, hk.2⟩⟩)⟩, ⟨by (try simp only [hl299009_59]); (with_reducible repeat (first | apply Kd.R_alloc | apply Kd.R_drewN | apply Kd.R_drew)); exact Kd.R_mono HO365.out (fun _ hk => ⟨hk.1.1.1.2, ⟨hk.1.1.2, hk.1.2⟩⟩)⟩, ⟨by (try simp only [hl299009_59]); (with_reducible repeat (first | refine blk_drewN ?_ _ | refine blk_drew ?_ | refine blk_alloc ?_ _)); exact BK249.out⟩, ⟨by (try simp only [hl299009_59]); (with_reducible repeat (first | refine blk_drewN ?_ _ | refine blk_drew ?_ | refine blk_alloc ?_ _)); exact BK282.out⟩, ⟨by (try simp only [hl299009_59]); (with_reducible repeat (first | refine blk_drewN ?_ _ | refine blk_drew ?_ | refine blk_alloc ?_ _)); exact BK298.out⟩, ⟨by (try simp only [hl299009_59]); (with_reducible repeat (first | refine blk_drewN ?_ _ | refine blk_drew ?_ | refine blk_alloc ?_ _)); exact BK315.out⟩, ⟨by (try simp only [hl299009_59]); (with_reducible repeat (first | refine blk_drewN ?_ _ | refine blk_drew ?_ | refine blk_alloc ?_ _)); exact BK370.out⟩, ⟨by repeat (first | (with_reducible first | exact HB.out | apply below_alloc | apply pw_below_drewN | apply below_drew1 | refine below_set ?_ GE249.out | refine below_set ?_ GE282.out | refine below_set ?_ GE298.out | refine below_set ?_ GE315.out | refine below_set ?_ GE370.out) | exact HB.out)⟩⟩
            ·replace c118 := Bool.eq_false_iff.mpr c118
             subst c118
             rw [if_neg (show ¬ (false = true) by decide)] at H
             have H' := Aside0.mk H
             clear H
             have hnb129 := NB370_249.out
             have hnc129 := NB249_370.out
             have hnb130 := NB370_282.out
             have hnc130 := NB282_370.out
             have hnb131 := NB370_298.out
             have hnc131 := NB298_370.out
             have hnb132 := NB370_315.out
             have hnc132 := NB315_370.out
             obtain ⟨hcz133_0, hcz133_1, hcz133_2, hcz133_3, hcz133_4, hcz133_5, hcz133_6, hcz133_7, hcz133_8, hcz133_9, hcz133_10, hcz133_11, hcz133_12⟩ := cl13 BK370.out
             obtain ⟨hfz133_0, hfz133_1, hfz133_2, hfz133_3, hfz133_4, hfz133_5, hfz133_6, hfz133_7, hfz133_8, hfz133_9, hfz133_10, hfz133_11, hfz133_12⟩ := fr13 BK370.out
             have hnb134 := NB282_249.out
             have hnc134 := NB249_282.out
             have hnb135 := NB282_298.out
             have hnc135 := NB298_282.out
             have hnb136 := NB282_315.out
             have hnc136 := NB315_282.out
             obtain ⟨hcz137_0, hcz137_1, hcz137_2, hcz137_3, hcz137_4, hcz137_5, hcz137_6, hcz137_7, hcz137_8, hcz137_9, hcz137_10, hcz137_11, hcz137_12⟩ := cl13 BK282.out
             obtain ⟨hfz137_0, hfz137_1, hfz137_2, hfz137_3, hfz137_4, hfz137_5, hfz137_6, hfz137_7, hfz137_8, hfz137_9, hfz137_10, hfz137_11, hfz137_12⟩ := fr13 BK282.out
             go_wp2_with (first | ((with_reducible refine gate_callee (f := 19) rfl ?_); refine goesL_ (some 81) rfl rfl Try.func19 B7x38_ rfl #[.agg #[.int .i64 t354, .int .i64 t355, .int .i64 t356, .int .i64 t357, .string t358, .int .i64 t359, .int .i64 t360, .bool t361, .string t362, .slice Ao116 t363.length co116, .bool t366, .int .i64 t367, .int .i64 t368], .agg #[.int .i64 t266, .int .i64 t267, .int .i64 t268, .int .i64 t269, .string t270, .int .i64 t271, .int .i64 t272, .bool t273, .string t274, .slice Ao22 t275.length co22, .bool t278, .int .i64 t279, .int .i64 t280]] rfl B7x9_ ?_; (with_reducible refine (laws_eqStream.calls kj59 t354 t355 t356 t357 t358 t359 t360 t361 t362 _ _ t363 t366 t367 t368 t266 t267 t268 t269 t270 t271 t272 t273 t274 _ _ t275 t278 t279 t280 false _ ?side1 ?side2 ?side3 ?side4 A117.out).mono ?_); (case side1 => refine (Kd.R_reads' (e := 112) (base := w.heap.size) (ok := fun k_ => ((((True ∧ some k_ ≠ (.slice Ao22 t275.length co22 : Value).ownBlock) ∧ some k_ ≠ (.slice Ao29 t334.length co29 : Value).ownBlock) ∧ some k_ ≠ (.slice Ao36 t308.length co36 : Value).ownBlock) ∧ some k_ ≠ (.slice Ao108 t348.length co108 : Value).ownBlock)) (n := t363.length) (c := co116) ?_).2.2; exact B7x4_); (case side2 => exact (Kd.R_reads' HO365.out).2.1); (case side3 => refine (Kd.R_reads' (e := 112) (base := w.heap.size) (ok := fun k_ => (((some k_ ≠ (.slice Ao29 t334.length co29 : Value).ownBlock ∧ some k_ ≠ (.slice Ao36 t308.length co36 : Value).ownBlock) ∧ some k_ ≠ (.slice Ao108 t348.length co108 : Value).ownBlock) ∧ some k_ ≠ (.slice Ao116 t363.length co116 : Value).ownBlock)) (n := t275.length) (c := co22) ?_).2.2; exact B7x3_); (case side4 => exact (Kd.R_reads' HO_283009.out).2.1); rintro e w138 ⟨rfl, hb⟩; refine ⟨_, rfl, ?_⟩; have n0_ := Aside0.mk (Kd.R_below B7x3_ hb); have n1_ := Aside0.mk (Kd.R_below B7x24_ hb); have n2_ := Aside0.mk (Kd.R_below B7x25_ hb); have n3_ := Aside0.mk (Kd.R_below B7x26_ hb); have n4_ := Aside0.mk (Kd.R_below B7x4_ hb); have n5_ := Aside0.mk (blk_below (g := gb249) (o := .cells #[.int .i64 a0_0, .int .i64 a0_1, .int .i64 a0_2, .int .i64 a0_3, .string a0_4, .int .i64 a0_5, .int .i64 a0_6, .bool a0_7, .string a0_8, .slice A0_9 l0_9.length c0_9, .bool a0_10, .int .i64 a0_11, .int .i64 a0_12] 24 (0, 0)) B7x12_ hb); have n6_ := Aside0.mk (blk_below (g := gb282) (o := .cells #[.int .i64 t266, .int .i64 t267, .int .i64 t268, .int .i64 t269, .string t270, .int .i64 t271, .int .i64 t272, .bool t273, .string t274, .slice Ao22 t275.length co22, .bool t278, .int .i64 t279, .int .i64 t280] 29 (0, 0)) B7x14_ hb); have n7_ := Aside0.mk (blk_below (g := gb298) (o := .cells #[.int .i64 t283, .int .i64 t284, .int .i64 t285, .int .i64 t286, .string t287, .int .i64 t288, .int .i64 t289, .bool t290, .string t291, .slice Ao29 t334.length co29, .bool t295, .int .i64 t296, .int .i64 t297] 29 (0, 0)) B7x16_ hb); have n8_ := Aside0.mk (blk_below (g := gb315) (o := .cells #[.int .i64 t299, .int .i64 t300, .int .i64 t301, .int .i64 t302, .string t303, .int .i64 t304, .int .i64 t305, .bool t306, .string t307, .slice Ao36 t308.length co36, .bool t311, .int .i64 t312, .int .i64 t313] 29 (0, 0)) B7x17_ hb); have n9_ := Aside0.mk (blk_below (g := gb370) (o := .cells #[.int .i64 t354, .int .i64 t355, .int .i64 t356, .int .i64 t357, .string t358, .int .i64 t359, .int .i64 t360, .bool t361, .string t362, .slice Ao116 t363.length co116, .bool t366, .int .i64 t367, .int .i64 t368] 29 (0, 0)) B7x0_ hb); have n10_ := Aside0.mk (below_step B7x36_ hb); clear HO_283009; clear HO_299009; clear HO_316009; clear HO350; clear HO365; clear BK249; clear BK282; clear BK298; clear BK315; clear BK370; clear HB; have HO_283009 := n0_; have HO_299009 := n1_; have HO_316009 := n2_; have HO350 := n3_; have HO365 := n4_; have BK249 := n5_; have BK282 := n6_; have BK298 := n7_; have BK315 := n8_; have BK370 := n9_; have HB := n10_; clear n0_ n1_ n2_ n3_ n4_ n5_ n6_ n7_ n8_ n9_ n10_; (try clear hb); (try clear hb2); (try clear hk); (try clear hi)))
             go_meet
             case rel => exact ⟨_, (true), (be_), H', ⟨by have := HJ10.out; have := HJ59.out; first | omega | exact Nat.le_refl _⟩, ⟨by (try simp only [hl299009_59]); (with_reducible repeat (first | apply Kd.R_alloc | apply Kd.R_drewN | apply Kd.R_drew)); exact Kd.R_mono HO_283009.out (fun _ hk => ⟨hk.1.1.1, ⟨hk.1.1.2, hk.2⟩⟩)⟩, ⟨by (try simp only [hl299009_59]); (with_reducible repeat (first | apply Kd.R_alloc | apply Kd.R_drewN | apply Kd.R_drew)); exact Kd.R_mono HO_299009.out (fun _ hk => ⟨hk.1.1.1, ⟨hk.1.1.2, hk.2⟩⟩)⟩, ⟨by (try simp only [hl299009_59]); (with_reducible repeat (first | apply Kd.R_alloc | apply Kd.R_drewN | apply Kd.R_drew)); exact Kd.R_mono HO_316009.out (fun _ hk => ⟨hk.1.1.1, ⟨hk.1.1.2, hk.2⟩⟩)⟩, ⟨by (try simp only [hl299009_59]); (with_reducible repeat (first | apply Kd.R_alloc | apply Kd.R_drewN | apply Kd.R_drew)); exact Kd.R_mono HO365.out (fun _ hk => ⟨hk.1.1.1.2, ⟨hk.1.1.2, hk.1.2⟩⟩)⟩, ⟨by (try simp only [hl299009_59]); (with_reducible repeat (first | refine blk_drewN ?_ _ | refine blk_drew ?_ | refine blk_alloc ?_ _)); exact BK249.out⟩, ⟨by (try simp only [hl299009_59]); (with_reducible repeat (first | refine blk_drewN ?_ _ | refine blk_drew ?_ | refine blk_alloc ?_ _)); exact BK282.out⟩, ⟨by (try simp only [hl299009_59]); (with_reducible repeat (first | refine blk_drewN ?_ _ | refine blk_drew ?_ | refine blk_alloc ?_ _)); exact BK298.out⟩, ⟨by (try simp only [hl299009_59]); (with_reducible repeat (first | refine blk_drewN ?_ _ | refine blk_drew ?_ | refine blk_alloc ?_ _)); exact BK315.out⟩, ⟨by (try simp only [hl299009_59]); (with_reducible repeat (first | refine blk_drewN ?_ _ | refine blk_drew ?_ | refine blk_alloc ?_ _)); exact BK370.out⟩, ⟨by repeat (first | (with_reducible first | exact HB.out | apply below_alloc | apply pw_below_drewN | apply below_drew1 | refine below_set ?_ GE249.out | refine below_set ?_ GE282.out | refine below_set ?_ GE298.out | refine below_set ?_ GE315.out | refine below_set ?_ GE370.out) | exact HB.out)⟩⟩
           case rest =>
            clear HC96
            try clear c1
            try clear p2
            try clear c6
            try clear c8
            try clear c9
            try clear c10
            try clear c11
            try clear c12
            try clear c13
            try clear c17
            try clear c19
            try clear c64
            try clear c65
            try clear c66
            try clear c82
            try clear c83
            try clear c85
            try clear c86
            try clear c89
            try clear c92
            try clear c92b0
            try clear c93
            try clear c93b0
            try clear c93b1
            try clear c97
            try clear c98
            try clear c99
            try clear c104
            try clear c105
            try clear c111
            try clear c112
            try clear c113
            try clear c114
            try clear c118
            try clear c119
            try clear c120
            try clear c121
            try clear c122
            try clear c124
            try clear c125
            try clear c126
            try clear c129
            try clear c130
            try clear c131
            try clear c132
            try clear c134
            try clear c135
            try clear c136
            try clear hcz100_0
            try clear hcz100_1
            try clear hcz100_10
            try clear hcz100_11
            try clear hcz100_12
            try clear hcz100_2
            try clear hcz100_3
            try clear hcz100_4
            try clear hcz100_5
            try clear hcz100_6
            try clear hcz100_7
            try clear hcz100_8
            try clear hcz100_9
            try clear hcz102_0
            try clear hcz102_1
            try clear hcz102_10
            try clear hcz102_11
            try clear hcz102_12
            try clear hcz102_2
            try clear hcz102_3
            try clear hcz102_4
            try clear hcz102_5
            try clear hcz102_6
            try clear hcz102_7
            try clear hcz102_8
            try clear hcz102_9
            try clear hcz106_0
            try clear hcz106_1
            try clear hcz106_10
            try clear hcz106_11
            try clear hcz106_12
            try clear hcz106_2
            try clear hcz106_3
            try clear hcz106_4
            try clear hcz106_5
            try clear hcz106_6
            try clear hcz106_7
            try clear hcz106_8
            try clear hcz106_9
            try clear hcz115_0
            try clear hcz115_1
            try clear hcz115_10
            try clear hcz115_11
            try clear hcz115_12
            try clear hcz115_2
            try clear hcz115_3
            try clear hcz115_4
            try clear hcz115_5
            try clear hcz115_6
            try clear hcz115_7
            try clear hcz115_8
            try clear hcz115_9
            try clear hcz123_0
            try clear hcz123_1
            try clear hcz123_10
            try clear hcz123_11
            try clear hcz123_12
            try clear hcz123_2
            try clear hcz123_3
            try clear hcz123_4
            try clear hcz123_5
            try clear hcz123_6
            try clear hcz123_7
            try clear hcz123_8
            try clear hcz123_9
            try clear hcz127_0
            try clear hcz127_1
            try clear hcz127_10
            try clear hcz127_11
            try clear hcz127_12
            try clear hcz127_2
            try clear hcz127_3
            try clear hcz127_4
            try clear hcz127_5
            try clear hcz127_6
            try clear hcz127_7
            try clear hcz127_8
            try clear hcz127_9
            try clear hcz133_0
            try clear hcz133_1
            try clear hcz133_10
            try clear hcz133_11
            try clear hcz133_12
            try clear hcz133_2
            try clear hcz133_3
            try clear hcz133_4
            try clear hcz133_5
            try clear hcz133_6
            try clear hcz133_7
            try clear hcz133_8
            try clear hcz133_9
            try clear hcz137_0
            try clear hcz137_1
            try clear hcz137_10
            try clear hcz137_11
            try clear hcz137_12
            try clear hcz137_2
            try clear hcz137_3
            try clear hcz137_4
            try clear hcz137_5
            try clear hcz137_6
            try clear hcz137_7
            try clear hcz137_8
            try clear hcz137_9
            try clear hcz42_2
            try clear hcz42_3
            try clear hcz42_4
            try clear hcz42_5
            try clear hcz42_6
            try clear hcz42_7
            try clear hcz42_8
            try clear hcz42_9
            try clear hcz45_0
            try clear hcz45_1
            try clear hcz45_10
            try clear hcz45_11
            try clear hcz45_12
            try clear hcz45_2
            try clear hcz45_3
            try clear hcz45_4
            try clear hcz45_5
            try clear hcz45_6
            try clear hcz45_7
            try clear hcz45_8
            try clear hcz45_9
            try clear hcz50_0
            try clear hcz50_1
            try clear hcz50_10
            try clear hcz50_11
            try clear hcz50_12
            try clear hcz50_2
            try clear hcz50_3
            try clear hcz50_4
            try clear hcz50_5
            try clear hcz50_6
            try clear hcz50_7
            try clear hcz50_8
            try clear hcz50_9
            try clear hcz53_0
            try clear hcz53_1
            try clear hcz53_10
            try clear hcz53_11
            try clear hcz53_12
            try clear hcz53_2
            try clear hcz53_3
            try clear hcz53_4
            try clear hcz53_5
            try clear hcz53_6
            try clear hcz53_7
            try clear hcz53_8
            try clear hcz53_9
            try clear hcz5_0
            try clear hcz5_1
            try clear hcz5_10
            try clear hcz5_11
            try clear hcz5_12
            try clear hcz5_2
            try clear hcz5_3
            try clear hcz5_4
            try clear hcz5_5
            try clear hcz5_6
            try clear hcz5_7
            try clear hcz5_8
            try clear hcz5_9
            try clear hcz68_0
            try clear hcz68_1
            try clear hcz68_10
            try clear hcz68_11
            try clear hcz68_12
            try clear hcz68_2
            try clear hcz68_3
            try clear hcz68_4
            try clear hcz68_5
            try clear hcz68_6
            try clear hcz68_7
            try clear hcz68_8
            try clear hcz68_9
            try clear hcz76_0
            try clear hcz76_1
            try clear hcz76_10
            try clear hcz76_11
            try clear hcz76_12
            try clear hcz76_2
            try clear hcz76_3
            try clear hcz76_4
            try clear hcz76_5
            try clear hcz76_6
            try clear hcz76_7
            try clear hcz76_8
            try clear hcz76_9
            try clear hcz79_0
            try clear hcz79_1
            try clear hcz79_10
            try clear hcz79_11
            try clear hcz79_12
            try clear hcz79_2
            try clear hcz79_3
            try clear hcz79_4
            try clear hcz79_5
            try clear hcz79_6
            try clear hcz79_7
            try clear hcz79_8
            try clear hcz79_9
            try clear hcz84_0
            try clear hcz84_1
            try clear hcz84_10
            try clear hcz84_11
            try clear hcz84_12
            try clear hcz84_2
            try clear hcz84_3
            try clear hcz84_4
            try clear hcz84_5
            try clear hcz84_6
            try clear hcz84_7
            try clear hcz84_8
            try clear hcz84_9
            try clear hcz87_0
            try clear hcz87_1
            try clear hcz87_10
            try clear hcz87_11
            try clear hcz87_12
            try clear hcz87_2
            try clear hcz87_3
            try clear hcz87_4
            try clear hcz87_5
            try clear hcz87_6
            try clear hcz87_7
            try clear hcz87_8
            try clear hcz87_9
            try clear hfz100_0
            try clear hfz100_1
            try clear hfz100_10
            try clear hfz100_11
            try clear hfz100_12
            try clear hfz100_2
            try clear hfz100_3
            try clear hfz100_4
            try clear hfz100_5
            try clear hfz100_6
            try clear hfz100_7
            try clear hfz100_8
            try clear hfz100_9
            try clear hfz102_0
            try clear hfz102_1
            try clear hfz102_10
            try clear hfz102_11
            try clear hfz102_12
            try clear hfz102_2
            try clear hfz102_3
            try clear hfz102_4
            try clear hfz102_5
            try clear hfz102_6
            try clear hfz102_7
            try clear hfz102_8
            try clear hfz102_9
            try clear hfz106_0
            try clear hfz106_1
            try clear hfz106_10
            try clear hfz106_11
            try clear hfz106_12
            try clear hfz106_2
            try clear hfz106_3
            try clear hfz106_4
            try clear hfz106_5
            try clear hfz106_6
            try clear hfz106_7
            try clear hfz106_8
            try clear hfz106_9
            try clear hfz115_0
            try clear hfz115_1
            try clear hfz115_10
            try clear hfz115_11
            try clear hfz115_12
            try clear hfz115_2
            try clear hfz115_3
            try clear hfz115_4
            try clear hfz115_5
            try clear hfz115_6
            try clear hfz115_7
            try clear hfz115_8
            try clear hfz115_9
            try clear hfz123_0
            try clear hfz123_1
            try clear hfz123_10
            try clear hfz123_11
            try clear hfz123_12
            try clear hfz123_2
            try clear hfz123_3
            try clear hfz123_4
            try clear hfz123_5
            try clear hfz123_6
            try clear hfz123_7
            try clear hfz123_8
            try clear hfz123_9
            try clear hfz127_0
            try clear hfz127_1
            try clear hfz127_10
            try clear hfz127_11
            try clear hfz127_12
            try clear hfz127_2
            try clear hfz127_3
            try clear hfz127_4
            try clear hfz127_5
            try clear hfz127_6
            try clear hfz127_7
            try clear hfz127_8
            try clear hfz127_9
            try clear hfz133_0
            try clear hfz133_1
            try clear hfz133_10
            try clear hfz133_11
            try clear hfz133_12
            try clear hfz133_2
            try clear hfz133_3
            try clear hfz133_4
            try clear hfz133_5
            try clear hfz133_6
            try clear hfz133_7
            try clear hfz133_8
            try clear hfz133_9
            try clear hfz137_0
            try clear hfz137_1
            try clear hfz137_10
            try clear hfz137_11
            try clear hfz137_12
            try clear hfz137_2
            try clear hfz137_3
            try clear hfz137_4
            try clear hfz137_5
            try clear hfz137_6
            try clear hfz137_7
            try clear hfz137_8
            try clear hfz137_9
            try clear hfz13_0
            try clear hfz13_1
            try clear hfz13_10
            try clear hfz13_11
            try clear hfz13_12
            try clear hfz13_2
            try clear hfz13_3
            try clear hfz13_4
            try clear hfz13_5
            try clear hfz13_6
            try clear hfz13_7
            try clear hfz13_8
            try clear hfz13_9
            try clear hfz15_0
            try clear hfz15_1
            try clear hfz15_10
            try clear hfz15_11
            try clear hfz15_12
            try clear hfz15_2
            try clear hfz15_3
            try clear hfz15_4
            try clear hfz15_5
            try clear hfz15_6
            try clear hfz15_7
            try clear hfz15_8
            try clear hfz15_9
            try clear hfz21_0
            try clear hfz21_1
            try clear hfz21_10
            try clear hfz21_11
            try clear hfz21_12
            try clear hfz21_2
            try clear hfz21_3
            try clear hfz21_4
            try clear hfz21_5
            try clear hfz21_6
            try clear hfz21_7
            try clear hfz21_8
            try clear hfz21_9
            try clear hfz23_0
            try clear hfz23_1
            try clear hfz23_10
            try clear hfz23_11
            try clear hfz23_12
            try clear hfz23_2
            try clear hfz23_3
            try clear hfz23_4
            try clear hfz23_5
            try clear hfz23_6
            try clear hfz23_7
            try clear hfz23_8
            try clear hfz23_9
            try clear hfz28_0
            try clear hfz28_1
            try clear hfz28_10
            try clear hfz28_11
            try clear hfz28_12
            try clear hfz28_2
            try clear hfz28_3
            try clear hfz28_4
            try clear hfz28_5
            try clear hfz28_6
            try clear hfz28_7
            try clear hfz28_8
            try clear hfz28_9
            try clear hfz35_0
            try clear hfz35_1
            try clear hfz35_10
            try clear hfz35_11
            try clear hfz35_12
            try clear hfz35_2
            try clear hfz35_3
            try clear hfz35_4
            try clear hfz35_5
            try clear hfz35_6
            try clear hfz35_7
            try clear hfz35_8
            try clear hfz35_9
            try clear hfz42_0
            try clear hfz42_1
            try clear hfz42_10
            try clear hfz42_11
            try clear hfz42_12
            try clear hfz42_2
            try clear hfz42_3
            try clear hfz42_4
            try clear hfz42_5
            try clear hfz42_6
            try clear hfz42_7
            try clear hfz42_8
            try clear hfz42_9
            try clear hfz45_0
            try clear hfz45_1
            try clear hfz45_10
            try clear hfz45_11
            try clear hfz45_12
            try clear hfz45_2
            try clear hfz45_3
            try clear hfz45_4
            try clear hfz45_5
            try clear hfz45_6
            try clear hfz45_7
            try clear hfz45_8
            try clear hfz45_9
            try clear hfz50_0
            try clear hfz50_1
            try clear hfz50_10
            try clear hfz50_11
            try clear hfz50_12
            try clear hfz50_2
            try clear hfz50_3
            try clear hfz50_4
            try clear hfz50_5
            try clear hfz50_6
            try clear hfz50_7
            try clear hfz50_8
            try clear hfz50_9
            try clear hfz53_0
            try clear hfz53_1
            try clear hfz53_10
            try clear hfz53_11
            try clear hfz53_12
            try clear hfz53_2
            try clear hfz53_3
            try clear hfz53_4
            try clear hfz53_5
            try clear hfz53_6
            try clear hfz53_7
            try clear hfz53_8
            try clear hfz53_9
            try clear hfz5_0
            try clear hfz5_1
            try clear hfz5_10
            try clear hfz5_11
            try clear hfz5_12
            try clear hfz5_2
            try clear hfz5_3
            try clear hfz5_4
            try clear hfz5_5
            try clear hfz5_6
            try clear hfz5_7
            try clear hfz5_8
            try clear hfz5_9
            try clear hfz68_0
            try clear hfz68_1
            try clear hfz68_10
            try clear hfz68_11
            try clear hfz68_12
            try clear hfz68_2
            try clear hfz68_3
            try clear hfz68_4
            try clear hfz68_5
            try clear hfz68_6
            try clear hfz68_7
            try clear hfz68_8
            try clear hfz68_9
            try clear hfz76_0
            try clear hfz76_1
            try clear hfz76_10
            try clear hfz76_11
            try clear hfz76_12
            try clear hfz76_2
            try clear hfz76_3
            try clear hfz76_4
            try clear hfz76_5
            try clear hfz76_6
            try clear hfz76_7
            try clear hfz76_8
            try clear hfz76_9
            try clear hfz79_0
            try clear hfz79_1
            try clear hfz79_10
            try clear hfz79_11
            try clear hfz79_12
            try clear hfz79_2
            try clear hfz79_3
            try clear hfz79_4
            try clear hfz79_5
            try clear hfz79_6
            try clear hfz79_7
            try clear hfz79_8
            try clear hfz79_9
            try clear hfz84_0
            try clear hfz84_1
            try clear hfz84_10
            try clear hfz84_11
            try clear hfz84_12
            try clear hfz84_2
            try clear hfz84_3
            try clear hfz84_4
            try clear hfz84_5
            try clear hfz84_6
            try clear hfz84_7
            try clear hfz84_8
            try clear hfz84_9
            try clear hfz87_0
            try clear hfz87_1
            try clear hfz87_10
            try clear hfz87_11
            try clear hfz87_12
            try clear hfz87_2
            try clear hfz87_3
            try clear hfz87_4
            try clear hfz87_5
            try clear hfz87_6
            try clear hfz87_7
            try clear hfz87_8
            try clear hfz87_9
            obtain ⟨kq, x87_95, rfl, HA, HJ95, HO_283009, HO_299009, HO_316009, HO_371009, BK249, BK282, BK298, BK315, BK370, HB⟩ := hcut
            have hl316009_95 := (Kd.R_reads' HO_316009.out).1
            rw [hl316009_95] at HO_316009
            (try simp only [hl316009_95])
            (try simp only [hl316009_95] at BK249)
            (try simp only [hl316009_95] at BK282)
            (try simp only [hl316009_95] at BK298)
            (try simp only [hl316009_95] at BK315)
            (try simp only [hl316009_95] at BK370)
            (try simp only [hl316009_95] at HO_283009)
            (try simp only [hl316009_95] at HO_299009)
            (try simp only [hl316009_95] at HO_371009)
            cases kq with
            | zero => exact absurd HA.out (by simp [laws_FnExactShut.j2])
            | succ kj95 =>
             have H := HA.out
             clear HA
             simp only [laws_FnExactShut.j2] at H
             by_cases c139 : x87_95 = true
             ·subst c139
              rw [if_pos rfl] at H
              exact absurd ((Option.some.inj H).trans hr_.out) (by decide)
             ·replace c139 := Bool.eq_false_iff.mpr c139
              subst c139
              rw [if_neg (show ¬ (false = true) by decide)] at H
              replace H := Option.bind_eq_some_iff.mp H
              obtain ⟨t372, A1400, H⟩ := H
              (try dsimp only at H)
              have A140 := Aside0.mk A1400
              clear A1400
              by_cases c141 : t372 < 0
              ·rw [if_pos c141] at H
               have c141b0 : decide (t372 < 0) = true := decide_eq_true c141
               clear c141
               exact absurd ((Option.some.inj H).trans hr_.out) (by decide)
              ·rw [if_neg c141] at H
               have c141b0 : decide (t372 < 0) = false := decide_eq_false c141
               clear c141
               by_cases c142 : t372 = t336
               ·rw [if_pos c142] at H
                have c142b0 : (t372 == t336) = true := beq_iff_eq.mpr c142
                have c142b1 : (t372 != t336) = false := bne_eq_false_iff_eq.mpr c142
                clear c142
                obtain rfl := Option.some.inj H
                have hnb143 := NB315_249.out
                have hnc143 := NB249_315.out
                have hnb144 := NB315_282.out
                have hnc144 := NB282_315.out
                have hnb145 := NB315_298.out
                have hnc145 := NB298_315.out
                have hnb146 := NB315_370.out
                have hnc146 := NB370_315.out
                obtain ⟨hcz147_0, hcz147_1, hcz147_2, hcz147_3, hcz147_4, hcz147_5, hcz147_6, hcz147_7, hcz147_8, hcz147_9, hcz147_10, hcz147_11, hcz147_12⟩ := cl13 BK315.out
                obtain ⟨hfz147_0, hfz147_1, hfz147_2, hfz147_3, hfz147_4, hfz147_5, hfz147_6, hfz147_7, hfz147_8, hfz147_9, hfz147_10, hfz147_11, hfz147_12⟩ := fr13 BK315.out
                go_wp2_with (first | ((with_reducible refine gate_callee (f := 66) rfl ?_); refine goesL_ (some 90) rfl rfl Try.func66 B7x38_ rfl #[.agg #[.int .i64 t299, .int .i64 t300, .int .i64 t301, .int .i64 t302, .string t303, .int .i64 t304, .int .i64 t305, .bool t306, .string t307, .slice Ao36 t337.length co36, .bool t311, .int .i64 t312, .int .i64 t313], .int .i64 1] rfl B7x9_ ?_; (with_reducible refine (laws_heldStream.calls kj95 t299 t300 t301 t302 t303 t304 t305 t306 t307 _ _ t337 t311 t312 t313 1 t372 _ ?side1 ?side2 A140.out).mono ?_); (case side1 => repeat (first | exact (Kd.R_reads' HO_316009.out).2.2 | (with_reducible refine Kd.C_alloc ?_ _) | (with_reducible refine Kd.C_drewN ?_ _) | (with_reducible refine Kd.C_drew ?_))); (case side2 => exact (Kd.R_reads' HO_316009.out).2.1); rintro e w148 ⟨rfl, hb⟩; refine ⟨_, rfl, ?_⟩; have n0_ := Aside0.mk (Kd.R_below B7x21_ hb); have n1_ := Aside0.mk (Kd.R_below B7x22_ hb); have n2_ := Aside0.mk (Kd.R_below B7x23_ hb); have n3_ := Aside0.mk (Kd.R_below (by (with_reducible repeat (first | apply Kd.R_alloc | apply Kd.R_drewN | apply Kd.R_drew)); exact HO_371009.out) hb); have n4_ := Aside0.mk (blk_below (g := gb249) (o := .cells #[.int .i64 a0_0, .int .i64 a0_1, .int .i64 a0_2, .int .i64 a0_3, .string a0_4, .int .i64 a0_5, .int .i64 a0_6, .bool a0_7, .string a0_8, .slice A0_9 l0_9.length c0_9, .bool a0_10, .int .i64 a0_11, .int .i64 a0_12] 24 (0, 0)) B7x7_ hb); have n5_ := Aside0.mk (blk_below (g := gb282) (o := .cells #[.int .i64 t266, .int .i64 t267, .int .i64 t268, .int .i64 t269, .string t270, .int .i64 t271, .int .i64 t272, .bool t273, .string t274, .slice Ao22 t275.length co22, .bool t278, .int .i64 t279, .int .i64 t280] 29 (0, 0)) B7x10_ hb); have n6_ := Aside0.mk (blk_below (g := gb298) (o := .cells #[.int .i64 t283, .int .i64 t284, .int .i64 t285, .int .i64 t286, .string t287, .int .i64 t288, .int .i64 t289, .bool t290, .string t291, .slice Ao29 t334.length co29, .bool t295, .int .i64 t296, .int .i64 t297] 29 (0, 0)) B7x18_ hb); have n7_ := Aside0.mk (blk_below (g := gb315) (o := .cells #[.int .i64 t299, .int .i64 t300, .int .i64 t301, .int .i64 t302, .string t303, .int .i64 t304, .int .i64 t305, .bool t306, .string t307, .slice Ao36 t337.length co36, .bool t311, .int .i64 t312, .int .i64 t313] 29 (0, 0)) B7x19_ hb); have n8_ := Aside0.mk (blk_below (g := gb370) (o := .cells #[.int .i64 t354, .int .i64 t355, .int .i64 t356, .int .i64 t357, .string t358, .int .i64 t359, .int .i64 t360, .bool t361, .string t362, .slice Ao116 t363.length co116, .bool t366, .int .i64 t367, .int .i64 t368] 29 (0, 0)) (by (with_reducible repeat (first | refine blk_drewN ?_ _ | refine blk_drew ?_ | refine blk_alloc ?_ _)); exact BK370.out) hb); have n9_ := Aside0.mk (below_step B7x36_ hb); clear HO_283009; clear HO_299009; clear HO_316009; clear HO_371009; clear BK249; clear BK282; clear BK298; clear BK315; clear BK370; clear HB; have HO_283009 := n0_; have HO_299009 := n1_; have HO_316009 := n2_; have HO_371009 := n3_; have BK249 := n4_; have BK282 := n5_; have BK298 := n6_; have BK315 := n7_; have BK370 := n8_; have HB := n9_; clear n0_ n1_ n2_ n3_ n4_ n5_ n6_ n7_ n8_ n9_; (try clear hb); (try clear hb2); (try clear hk); (try clear hi)))
                go_ret
                exact ⟨by first | rfl | (simp [errW_none, errW_some] <;> rfl) | (simp [*, errW_none, errW_some] <;> rfl), by repeat (first | (with_reducible first | exact HB.out | apply below_alloc | apply pw_below_drewN | apply below_drew1 | refine below_set ?_ GE249.out | refine below_set ?_ GE282.out | refine below_set ?_ GE298.out | refine below_set ?_ GE315.out | refine below_set ?_ GE370.out) | exact HB.out)⟩
               ·rw [if_neg c142] at H
                have c142b0 : (t372 == t336) = false := beq_eq_false_iff_ne.mpr c142
                have c142b1 : (t372 != t336) = true := bne_iff_ne.mpr c142
                exact absurd ((Option.some.inj H).trans hr_.out) (by decide)
          ·rw [if_neg c93] at H
           have c93b0 : (t338 == t336) = false := beq_eq_false_iff_ne.mpr c93
           have c93b1 : (t338 != t336) = true := bne_iff_ne.mpr c93
           exact absurd ((Option.some.inj H).trans hr_.out) (by decide)
     ·replace c58 := Bool.eq_false_iff.mpr c58
      subst c58
      rw [if_neg (show ¬ (false = true) by decide)] at H
      exact absurd ((Option.some.inj H).trans hr_.out) (by decide)

end Go.Proofs.Ytjijbffecppeiaa.QFnExactShut
