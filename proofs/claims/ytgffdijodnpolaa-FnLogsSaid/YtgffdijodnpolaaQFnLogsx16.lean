/- Functions that a law reaches, as functions of Lean, and the walks that show that the calls come to their answers: written by a program of this project out of the translation. No condition. -/
import Derived.Test.YtgffdijodnpolaaQFnLogsx0
import Derived.Test.YtgffdijodnpolaaQFnLogsx1
import Derived.Test.YtgffdijodnpolaaQFnLogsx2
import Derived.Test.YtgffdijodnpolaaQFnLogsx12
import Derived.Test.YtgffdijodnpolaaQFnLogsx13
import Derived.Test.YtgffdijodnpolaaQFnLogsx14
import Derived.Test.YtgffdijodnpolaaQFnLogsx15
import Derived.Test.YtgffdijodnpolaaVFnLogsShort4
import Derived.Test.YtgffdijodnpolaaVFnLogshort3
import Derived.Test.YtgffdijodnpolaaVFnLogsShort2
import Derived.Test.YtgffdijodnpolaaVFnLogsShort
namespace Go.Proofs.Ytgffdijodnpolaa.QFnLogs
open Go.RowKit Go.Proofs.YtgffdijodnpolaaW.PrintWords Go.Proofs.YtgffdijodnpolaaW.PrintLast Go.Proofs.YtgffdijodnpolaaW.PrintMore Go.Proofs.Ytgffdijodnpolaa.Short
attribute [local go_sem] max2_int min2_int max_two min_two max_three min_three max_four min_four   -- for this text's walks alone
set_option linter.unusedVariables false
set_option linter.unusedSimpArgs false

attribute [local go_sem high] eqA28
theorem B16x0_ {p : Prop} (h : p := by repeat (first | (with_reducible first | exact HB.out | apply below_alloc | apply pw_below_drewN | apply below_drew1 | refine below_set ?_ GE563.out | refine below_set ?_ GE564.out | refine below_set ?_ GE575.out) | exact HB.out)) : p := h
theorem B16x1_ {p : Prop} (h : p := by (try simp only [List.map_toArray, List.map_cons, List.map_nil]); first | done | rfl | (simp only [List.length_drop, List.length_take]; rfl)) : p := h
theorem B16x2_ {p : Prop} (h : p := by (with_reducible repeat (first | apply Kd.R_alloc | apply Kd.R_drewN | apply Kd.R_drew)); exact HO_564002.out) : p := h
theorem B16x3_ {p : Prop} (h : p := by (with_reducible repeat (first | apply Kd.R_alloc | apply Kd.R_drewN | apply Kd.R_drew)); exact HO_565002.out) : p := h
theorem B16x4_ {p : Prop} (h : p := by (with_reducible repeat (first | apply Kd.R_alloc | apply Kd.R_drewN | apply Kd.R_drew)); exact HO_576002.out) : p := h
theorem B16x5_ {p : Prop} (h : p := by repeat (first | exact (Kd.R_reads' HO_564002.out).2.2 | (with_reducible refine Kd.C_alloc ?_ _) | (with_reducible refine Kd.C_drewN ?_ _) | (with_reducible refine Kd.C_drew ?_))) : p := h
theorem B16x6_ {p : Prop} (h : p := by (with_reducible repeat (first | refine blk_drewN ?_ _ | refine blk_drew ?_ | refine blk_alloc ?_ _)); exact BK563.out) : p := h
theorem B16x7_ {p : Prop} (h : p := by (with_reducible repeat (first | refine blk_drewN ?_ _ | refine blk_drew ?_ | refine blk_alloc ?_ _)); exact BK564.out) : p := h
theorem B16x8_ {p : Prop} (h : p := by (with_reducible repeat (first | refine blk_drewN ?_ _ | refine blk_drew ?_ | refine blk_alloc ?_ _)); exact BK575.out) : p := h
theorem B16x9_ {p : Prop} (h : p := by (with_reducible repeat (first | apply Kd.R_alloc | apply Kd.R_drewN | apply Kd.R_drew)); exact HO557.out) : p := h
theorem B16x10_ {p : Prop} (h : p := by (with_reducible repeat (first | apply Kd.R_alloc | apply Kd.R_drewN | apply Kd.R_drew)); exact HO562.out) : p := h
theorem B16x11_ {p : Prop} (h : p := by repeat (first | (with_reducible first | exact HB.out | apply below_alloc | apply pw_below_drewN | apply below_drew1 | refine below_set ?_ GE563.out | refine below_set ?_ GE564.out) | exact HB.out)) : p := h
theorem B16x12_ {p : Prop} (h : p := by repeat (first | exact (Kd.R_reads' HO_565002.out).2.2 | (with_reducible refine Kd.C_alloc ?_ _) | (with_reducible refine Kd.C_drewN ?_ _) | (with_reducible refine Kd.C_drew ?_))) : p := h
theorem B16x13_ {p : Prop} (h : p := by (with_reducible repeat (first | apply Kd.R_alloc | apply Kd.R_drewN | apply Kd.R_drew)); exact Kd.R_mono HO574.out (fun _ hk => ⟨hk.1.2, hk.2⟩)) : p := h
theorem B16x14_ {p : Prop} (h : p := by repeat (first | (with_reducible first | exact HB.out | apply below_alloc | apply pw_below_drewN | apply below_drew1) | exact HB.out)) : p := h
theorem B16x15_ {p : Prop} (h : p := by (with_reducible repeat (first | apply Kd.R_alloc | apply Kd.R_drewN | apply Kd.R_drew)); exact HO567.out) : p := h
theorem B16x16_ {p : Prop} (h : p := by kernel_rfl) : p := h
theorem B16x17_ {p : Prop} (h : p := by (with_reducible repeat (first | apply Kd.R_alloc | apply Kd.R_drewN | apply Kd.R_drew)); exact (Kd.R_mono (Kd.R_far (p := ⟨gb575, 2, none⟩) (Kd.R_far (p := ⟨gb575, 1, none⟩) (Kd.R_far (p := ⟨gb575, 0, none⟩) (Kd.R_types HO557.out BK575.out (by decide)) (fun _ hk => hk.2) (.int .i64 t570)) (fun _ hk => hk.2) (.int .i64 t571)) (fun _ hk => hk.2) (.slice Ao32 t572.length co32)) (fun _ h_ => h_.1))) : p := h
theorem B16x18_ {p : Prop} (h : p := by repeat (first | exact (Kd.R_reads' HO574.out).2.2 | (with_reducible refine Kd.C_alloc ?_ _) | (with_reducible refine Kd.C_drewN ?_ _) | (with_reducible refine Kd.C_drew ?_))) : p := h
theorem B16x19_ {p : Prop} (h : p := by (with_reducible repeat (first | apply Kd.R_alloc | apply Kd.R_drewN | apply Kd.R_drew)); exact HO574.out) : p := h
theorem B16x20_ {p : Prop} (h : p := by repeat (first | exact HR0.out | (with_reducible refine Kd.C_alloc ?_ _) | (with_reducible refine Kd.C_drewN ?_ _) | (with_reducible refine Kd.C_drew ?_))) : p := h
theorem B16x21_ {p : Prop} (h : p := by first | (with_reducible assumption) | assumption) : p := h
theorem B16x22_ {p : Prop} (h : p := by first | omega | exact Nat.le_refl _) : p := h
theorem B16x23_ {p : Prop} (h : p := by repeat (first | exact (Kd.R_reads' HO557.out).2.2 | (with_reducible refine Kd.C_alloc ?_ _) | (with_reducible refine Kd.C_drewN ?_ _) | (with_reducible refine Kd.C_drew ?_))) : p := h
theorem B16x24_ {p : Prop} (h : p := by have := HJ11.out; have := HK2.out; first | omega | exact Nat.le_refl _) : p := h
theorem B16x25_ {p : Prop} (h : p := by first | rfl | (simp [errW_none, errW_some] <;> rfl) | (simp [*, errW_none, errW_some] <;> rfl)) : p := h
theorem B16x26_ {p : Prop} (h : p := by first | (go_simp; done) | (go_simp; rfl)) : p := h
theorem B16x27_ {p : Prop} (h : p := by have := HJ11.out; have := HK2.out; have := HJ78.out; have := HK4.out; omega) : p := h
/-! ### laws_FnLogs: function 4 -/
mutual
def laws_FnLogs.j0 : Nat → Int → Bool → Int → Int → List (S28) → Int → Int → List (S28) → Int → Int → List (S28) → Option (Bool)
 | 0, _, _, _, _, _, _, _, _, _, _, _ => none
 | k + 1, x6, x81, x564000, x564001, x564002, x565000, x565001, x565002, x576000, x576001, x576002 => if x81 = true then (some false) else (laws_FnLogs.l0 k x6 (wrap64 (x6 + 1)) x564000 x564001 x564002 x565000 x565001 x565002 x576000 x576001 x576002)
def laws_FnLogs.l0 : Nat → Int → Int → Int → Int → List (S28) → Int → Int → List (S28) → Int → Int → List (S28) → Option (Bool)
 | 0, _, _, _, _, _, _, _, _, _, _, _ => none
 | k + 1, x6, x13, x564000, x564001, x564002, x565000, x565001, x565002, x576000, x576001, x576002 => (laws_last.f x564000 x564001 x564002).bind fun t581 => (if x13 ≤ t581 then (if 0 ≤ (wrap64 ((wrap64 (x13 - x6)) - 1)) then (if (wrap64 ((wrap64 (x13 - x6)) - 1)) < (x576002.length : Int) then (if 0 ≤ (wrap64 ((wrap64 (x13 - x564000)) - 1)) then (if (wrap64 ((wrap64 (x13 - x564000)) - 1)) < (x564002.length : Int) then (if (!(((rd_T28 x576002 (wrap64 ((wrap64 (x13 - x6)) - 1))).f0) == ((rd_T28 x564002 (wrap64 ((wrap64 (x13 - x564000)) - 1))).f0)) || (!(((rd_T28 x576002 (wrap64 ((wrap64 (x13 - x6)) - 1))).f1) == ((rd_T28 x564002 (wrap64 ((wrap64 (x13 - x564000)) - 1))).f1)) || (!((((rd_T28 x576002 (wrap64 ((wrap64 (x13 - x6)) - 1))).f2).toList) == (((rd_T28 x564002 (wrap64 ((wrap64 (x13 - x564000)) - 1))).f2).toList))))) = true then (some false) else (laws_FnLogs.l0 k x6 (wrap64 (x13 + 1)) x564000 x564001 x564002 x565000 x565001 x565002 x576000 x576001 x576002)) else (none)) else (none)) else (none)) else (none)) else ((impl_Shared.f k x564000 x564001 x564002 x565000 x565001 x565002).bind fun t584 => ((spec_Shared.f k x564000 x564001 x564002 x565000 x565001 x565002).bind fun t585 => (if t584 = t585 then ((impl_Shared.f k x565000 x565001 x565002 x564000 x564001 x564002).bind fun t586 => (if t584 = t586 then ((impl_Shared.f k x564000 x564001 x564002 x564000 x564001 x564002).bind fun t587 => ((laws_last.f x564000 x564001 x564002).bind fun t588 => (laws_FnLogs.j2 k t584 (t587 != t588) x564000 x564001 x564002 x565000 x565001 x565002))) else (laws_FnLogs.j2 k t584 true x564000 x564001 x564002 x565000 x565001 x565002))) else (laws_FnLogs.j2 k t584 true x564000 x564001 x564002 x565000 x565001 x565002)))))
def laws_FnLogs.j2 : Nat → Int → Bool → Int → Int → List (S28) → Int → Int → List (S28) → Option (Bool)
 | 0, _, _, _, _, _, _, _, _ => none
 | k + 1, x14, x130, x564000, x564001, x564002, x565000, x565001, x565002 => if x130 = true then (some false) else (laws_FnLogs.l1 k x14 (wrap64 (x564000 + 1)) x564000 x564001 x564002 x565000 x565001 x565002)
def laws_FnLogs.l1 : Nat → Int → Int → Int → Int → List (S28) → Int → Int → List (S28) → Option (Bool)
 | 0, _, _, _, _, _, _, _, _ => none
 | k + 1, x14, x15, x564000, x564001, x564002, x565000, x565001, x565002 => if x15 ≤ x14 then (if x15 > x565000 then ((impl_LogTerm.f x564000 x564001 x564002 x15).bind fun t590 => ((impl_LogTerm.f x565000 x565001 x565002 x15).bind fun t591 => (if t590 = t591 then (laws_FnLogs.l1 k x14 (wrap64 (x15 + 1)) x564000 x564001 x564002 x565000 x565001 x565002) else (some false)))) else (laws_FnLogs.l1 k x14 (wrap64 (x15 + 1)) x564000 x564001 x564002 x565000 x565001 x565002)) else ((laws_last.f x564000 x564001 x564002).bind fun t589 => (some (decide (x14 ≤ t589))))
end
def laws_FnLogs.f (k : Nat) (l0 : List Int) : Option (Bool) := (laws_big.f l0).bind fun t552 => (if t552 = true then (some true) else ((spec_DrawRightLogs.f k l0).bind fun bt553 => ((spec_DrawPlaces.f k l0).bind fun t565 => (if 0 < (t565.length : Int) then (if (wrap64 ((bt553.2.2.1.length : Int) + 1)) = 0 then (none) else ((impl_LogTerm.f bt553.1 bt553.2.1 bt553.2.2.1 (wrap64 (bt553.1 + (Int.tmod (rd t565 0) (wrap64 ((bt553.2.2.1.length : Int) + 1)))))).bind fun t569 => ((impl_LogBehind.f k bt553.1 bt553.2.1 bt553.2.2.1 (wrap64 (bt553.1 + (Int.tmod (rd t565 0) (wrap64 ((bt553.2.2.1.length : Int) + 1))))) t569).bind fun bt570 => ((impl_LogLast.f bt553.1 bt553.2.1 bt553.2.2.1).bind fun bt576 => ((impl_LogLast.f bt570.1 bt570.2.1 bt570.2.2).bind fun bt578 => (if bt570.1 = (wrap64 (bt553.1 + (Int.tmod (rd t565 0) (wrap64 ((bt553.2.2.1.length : Int) + 1))))) then (if bt570.2.1 = t569 then (if bt576.1 = bt578.1 then (if bt576.2 = bt578.2 then ((impl_LogOk.f k bt570.1 bt570.2.1 bt570.2.2).bind fun t580 => (if t580 = true then (laws_FnLogs.j0 k (wrap64 (bt553.1 + (Int.tmod (rd t565 0) (wrap64 ((bt553.2.2.1.length : Int) + 1))))) (decide (t569 < 0)) bt553.1 bt553.2.1 bt553.2.2.1 bt553.2.2.2.1 bt553.2.2.2.2.1 bt553.2.2.2.2.2 bt570.1 bt570.2.1 bt570.2.2) else (laws_FnLogs.j0 k (wrap64 (bt553.1 + (Int.tmod (rd t565 0) (wrap64 ((bt553.2.2.1.length : Int) + 1))))) true bt553.1 bt553.2.1 bt553.2.2.1 bt553.2.2.2.1 bt553.2.2.2.2.1 bt553.2.2.2.2.2 bt570.1 bt570.2.1 bt570.2.2))) else (laws_FnLogs.j0 k (wrap64 (bt553.1 + (Int.tmod (rd t565 0) (wrap64 ((bt553.2.2.1.length : Int) + 1))))) true bt553.1 bt553.2.1 bt553.2.2.1 bt553.2.2.2.1 bt553.2.2.2.2.1 bt553.2.2.2.2.2 bt570.1 bt570.2.1 bt570.2.2)) else (laws_FnLogs.j0 k (wrap64 (bt553.1 + (Int.tmod (rd t565 0) (wrap64 ((bt553.2.2.1.length : Int) + 1))))) true bt553.1 bt553.2.1 bt553.2.2.1 bt553.2.2.2.1 bt553.2.2.2.2.1 bt553.2.2.2.2.2 bt570.1 bt570.2.1 bt570.2.2)) else (laws_FnLogs.j0 k (wrap64 (bt553.1 + (Int.tmod (rd t565 0) (wrap64 ((bt553.2.2.1.length : Int) + 1))))) true bt553.1 bt553.2.1 bt553.2.2.1 bt553.2.2.2.1 bt553.2.2.2.2.1 bt553.2.2.2.2.2 bt570.1 bt570.2.1 bt570.2.2)) else (laws_FnLogs.j0 k (wrap64 (bt553.1 + (Int.tmod (rd t565 0) (wrap64 ((bt553.2.2.1.length : Int) + 1))))) true bt553.1 bt553.2.1 bt553.2.2.1 bt553.2.2.2.1 bt553.2.2.2.2.1 bt553.2.2.2.2.2 bt570.1 bt570.2.1 bt570.2.2))))))) else (none)))))
theorem laws_FnLogs.mono_l : ∀ k, (∀ y0 y1 y2 y3 y4 y5 y6 y7 y8 y9 y10, LeO (laws_FnLogs.j0 k y0 y1 y2 y3 y4 y5 y6 y7 y8 y9 y10) (laws_FnLogs.j0 (k + 1) y0 y1 y2 y3 y4 y5 y6 y7 y8 y9 y10)) ∧ (∀ y0 y1 y2 y3 y4 y5 y6 y7 y8 y9 y10, LeO (laws_FnLogs.l0 k y0 y1 y2 y3 y4 y5 y6 y7 y8 y9 y10) (laws_FnLogs.l0 (k + 1) y0 y1 y2 y3 y4 y5 y6 y7 y8 y9 y10)) ∧ (∀ y0 y1 y2 y3 y4 y5 y6 y7, LeO (laws_FnLogs.j2 k y0 y1 y2 y3 y4 y5 y6 y7) (laws_FnLogs.j2 (k + 1) y0 y1 y2 y3 y4 y5 y6 y7)) ∧ (∀ y0 y1 y2 y3 y4 y5 y6 y7, LeO (laws_FnLogs.l1 k y0 y1 y2 y3 y4 y5 y6 y7) (laws_FnLogs.l1 (k + 1) y0 y1 y2 y3 y4 y5 y6 y7))
 | 0 => ⟨fun _ _ _ _ _ _ _ _ _ _ _ r h => by simp [laws_FnLogs.j0] at h, fun _ _ _ _ _ _ _ _ _ _ _ r h => by simp [laws_FnLogs.l0] at h, fun _ _ _ _ _ _ _ _ r h => by simp [laws_FnLogs.j2] at h, fun _ _ _ _ _ _ _ _ r h => by simp [laws_FnLogs.l1] at h⟩
 | k + 1 => by
  obtain ⟨ih0, ih1, ih2, ih3⟩ := laws_FnLogs.mono_l k
  refine ⟨?_, ?_, ?_, ?_⟩
  ·intro y0 y1 y2 y3 y4 y5 y6 y7 y8 y9 y10
   unfold laws_FnLogs.j0
   repeat' first
   | (with_reducible exact ih0 _ _ _ _ _ _ _ _ _ _ _)
   | (with_reducible exact ih1 _ _ _ _ _ _ _ _ _ _ _)
   | (with_reducible exact ih2 _ _ _ _ _ _ _ _)
   | (with_reducible exact ih3 _ _ _ _ _ _ _ _)
   | (with_reducible exact impl_LogBehind.mono _ _ _ _ _ _)
   | (with_reducible exact impl_LogOk.mono _ _ _ _)
   | (with_reducible exact impl_Shared.mono _ _ _ _ _ _ _)
   | (with_reducible exact spec_DrawPlaces.mono _ _)
   | (with_reducible exact spec_DrawRightLogs.mono _ _)
   | (with_reducible exact spec_Shared.mono _ _ _ _ _ _ _)
   | (with_reducible first | exact LeO.refl _ | exact LeO.none _ | refine LeO.ite ?_ ?_ | refine LeO.bind ?_ (fun _ => ?_))
   | exact ih0 _ _ _ _ _ _ _ _ _ _ _
   | exact ih1 _ _ _ _ _ _ _ _ _ _ _
   | exact ih2 _ _ _ _ _ _ _ _
   | exact ih3 _ _ _ _ _ _ _ _
   | exact impl_LogBehind.mono _ _ _ _ _ _
   | exact impl_LogOk.mono _ _ _ _
   | exact impl_Shared.mono _ _ _ _ _ _ _
   | exact spec_DrawPlaces.mono _ _
   | exact spec_DrawRightLogs.mono _ _
   | exact spec_Shared.mono _ _ _ _ _ _ _
  ·intro y0 y1 y2 y3 y4 y5 y6 y7 y8 y9 y10
   unfold laws_FnLogs.l0
   repeat' first
   | (with_reducible exact ih0 _ _ _ _ _ _ _ _ _ _ _)
   | (with_reducible exact ih1 _ _ _ _ _ _ _ _ _ _ _)
   | (with_reducible exact ih2 _ _ _ _ _ _ _ _)
   | (with_reducible exact ih3 _ _ _ _ _ _ _ _)
   | (with_reducible exact impl_LogBehind.mono _ _ _ _ _ _)
   | (with_reducible exact impl_LogOk.mono _ _ _ _)
   | (with_reducible exact impl_Shared.mono _ _ _ _ _ _ _)
   | (with_reducible exact spec_DrawPlaces.mono _ _)
   | (with_reducible exact spec_DrawRightLogs.mono _ _)
   | (with_reducible exact spec_Shared.mono _ _ _ _ _ _ _)
   | (with_reducible first | exact LeO.refl _ | exact LeO.none _ | refine LeO.ite ?_ ?_ | refine LeO.bind ?_ (fun _ => ?_))
   | exact ih0 _ _ _ _ _ _ _ _ _ _ _
   | exact ih1 _ _ _ _ _ _ _ _ _ _ _
   | exact ih2 _ _ _ _ _ _ _ _
   | exact ih3 _ _ _ _ _ _ _ _
   | exact impl_LogBehind.mono _ _ _ _ _ _
   | exact impl_LogOk.mono _ _ _ _
   | exact impl_Shared.mono _ _ _ _ _ _ _
   | exact spec_DrawPlaces.mono _ _
   | exact spec_DrawRightLogs.mono _ _
   | exact spec_Shared.mono _ _ _ _ _ _ _
  ·intro y0 y1 y2 y3 y4 y5 y6 y7
   unfold laws_FnLogs.j2
   repeat' first
   | (with_reducible exact ih0 _ _ _ _ _ _ _ _ _ _ _)
   | (with_reducible exact ih1 _ _ _ _ _ _ _ _ _ _ _)
   | (with_reducible exact ih2 _ _ _ _ _ _ _ _)
   | (with_reducible exact ih3 _ _ _ _ _ _ _ _)
   | (with_reducible exact impl_LogBehind.mono _ _ _ _ _ _)
   | (with_reducible exact impl_LogOk.mono _ _ _ _)
   | (with_reducible exact impl_Shared.mono _ _ _ _ _ _ _)
   | (with_reducible exact spec_DrawPlaces.mono _ _)
   | (with_reducible exact spec_DrawRightLogs.mono _ _)
   | (with_reducible exact spec_Shared.mono _ _ _ _ _ _ _)
   | (with_reducible first | exact LeO.refl _ | exact LeO.none _ | refine LeO.ite ?_ ?_ | refine LeO.bind ?_ (fun _ => ?_))
   | exact ih0 _ _ _ _ _ _ _ _ _ _ _
   | exact ih1 _ _ _ _ _ _ _ _ _ _ _
   | exact ih2 _ _ _ _ _ _ _ _
   | exact ih3 _ _ _ _ _ _ _ _
   | exact impl_LogBehind.mono _ _ _ _ _ _
   | exact impl_LogOk.mono _ _ _ _
   | exact impl_Shared.mono _ _ _ _ _ _ _
   | exact spec_DrawPlaces.mono _ _
   | exact spec_DrawRightLogs.mono _ _
   | exact spec_Shared.mono _ _ _ _ _ _ _
  ·intro y0 y1 y2 y3 y4 y5 y6 y7
   unfold laws_FnLogs.l1
   repeat' first
   | (with_reducible exact ih0 _ _ _ _ _ _ _ _ _ _ _)
   | (with_reducible exact ih1 _ _ _ _ _ _ _ _ _ _ _)
   | (with_reducible exact ih2 _ _ _ _ _ _ _ _)
   | (with_reducible exact ih3 _ _ _ _ _ _ _ _)
   | (with_reducible exact impl_LogBehind.mono _ _ _ _ _ _)
   | (with_reducible exact impl_LogOk.mono _ _ _ _)
   | (with_reducible exact impl_Shared.mono _ _ _ _ _ _ _)
   | (with_reducible exact spec_DrawPlaces.mono _ _)
   | (with_reducible exact spec_DrawRightLogs.mono _ _)
   | (with_reducible exact spec_Shared.mono _ _ _ _ _ _ _)
   | (with_reducible first | exact LeO.refl _ | exact LeO.none _ | refine LeO.ite ?_ ?_ | refine LeO.bind ?_ (fun _ => ?_))
   | exact ih0 _ _ _ _ _ _ _ _ _ _ _
   | exact ih1 _ _ _ _ _ _ _ _ _ _ _
   | exact ih2 _ _ _ _ _ _ _ _
   | exact ih3 _ _ _ _ _ _ _ _
   | exact impl_LogBehind.mono _ _ _ _ _ _
   | exact impl_LogOk.mono _ _ _ _
   | exact impl_Shared.mono _ _ _ _ _ _ _
   | exact spec_DrawPlaces.mono _ _
   | exact spec_DrawRightLogs.mono _ _
   | exact spec_Shared.mono _ _ _ _ _ _ _
theorem laws_FnLogs.mono : ∀ a0 k, LeO (laws_FnLogs.f k a0) (laws_FnLogs.f (k + 1) a0) := by
 intro a0 k
 obtain ⟨ih0, ih1, ih2, ih3⟩ := laws_FnLogs.mono_l k
 unfold laws_FnLogs.f
 repeat' first
   | (with_reducible exact ih0 _ _ _ _ _ _ _ _ _ _ _)
   | (with_reducible exact ih1 _ _ _ _ _ _ _ _ _ _ _)
   | (with_reducible exact ih2 _ _ _ _ _ _ _ _)
   | (with_reducible exact ih3 _ _ _ _ _ _ _ _)
   | (with_reducible exact impl_LogBehind.mono _ _ _ _ _ _)
   | (with_reducible exact impl_LogOk.mono _ _ _ _)
   | (with_reducible exact impl_Shared.mono _ _ _ _ _ _ _)
   | (with_reducible exact spec_DrawPlaces.mono _ _)
   | (with_reducible exact spec_DrawRightLogs.mono _ _)
   | (with_reducible exact spec_Shared.mono _ _ _ _ _ _ _)
   | (with_reducible first | exact LeO.refl _ | exact LeO.none _ | refine LeO.ite ?_ ?_ | refine LeO.bind ?_ (fun _ => ?_))
   | exact ih0 _ _ _ _ _ _ _ _ _ _ _
   | exact ih1 _ _ _ _ _ _ _ _ _ _ _
   | exact ih2 _ _ _ _ _ _ _ _
   | exact ih3 _ _ _ _ _ _ _ _
   | exact impl_LogBehind.mono _ _ _ _ _ _
   | exact impl_LogOk.mono _ _ _ _
   | exact impl_Shared.mono _ _ _ _ _ _ _
   | exact spec_DrawPlaces.mono _ _
   | exact spec_DrawRightLogs.mono _ _
   | exact spec_Shared.mono _ _ _ _ _ _ _
def laws_FnLogs.T5 : Bool × List (List Nat × List Nat) := (true, [([], []), ([0], [0]), ([], []), ([2], [2]), ([3], [3]), ([], []), ([5], [5]), ([6], [6]), ([7], [7]), ([4, 8], [4, 8]), ([1, 9], [1, 9]), ([10, 0, 1, 2, 3, 4, 5, 6, 7, 8, 9, 10], [10])])
def laws_FnLogs.B5 : List Nat := [0, 1, 0, 4, 12, 0, 32, 96, 224, 508, 1023, 2047]
theorem laws_FnLogs.tab5 : rtab .any (opsOf Try.f4 5) = laws_FnLogs.T5 := by kernel_rfl
theorem laws_FnLogs.bits5 : waitsOk laws_FnLogs.T5.2 laws_FnLogs.B5 = true := by kernel_rfl
def laws_FnLogs.T15 : Bool × List (List Nat × List Nat) := (true, [([], []), ([0], [0]), ([], []), ([], []), ([2, 3], [2, 3]), ([4], [4]), ([1, 5], [1, 5]), ([6], [6]), ([], []), ([8], [8]), ([], []), ([], []), ([11], [11]), ([10, 12], [10, 12]), ([13], [13]), ([9, 14], [9, 14]), ([15], [15]), ([7, 16], [7, 16])])
def laws_FnLogs.B15 : List Nat := [0, 1, 0, 0, 12, 28, 63, 127, 0, 256, 0, 0, 2048, 7168, 15360, 32512, 65280, 131071]
theorem laws_FnLogs.tab15 : rtab .any (opsOf Try.f4 15) = laws_FnLogs.T15 := by kernel_rfl
theorem laws_FnLogs.bits15 : waitsOk laws_FnLogs.T15.2 laws_FnLogs.B15 = true := by kernel_rfl
def laws_FnLogs.T18 : Bool × List (List Nat × List Nat) := (true, [([], []), ([], []), ([], []), ([1, 2], [1, 2]), ([0, 3], [0, 3]), ([4, 3], [4]), ([5], [5]), ([5], [5]), ([5], [5]), ([7, 8, 5, 5], [5, 7, 8]), ([6, 9, 5], [5, 6, 9]), ([5, 10], [5, 10]), ([11, 9], [11]), ([12], [12]), ([12], [12]), ([13, 14, 12, 12], [12, 13, 14]), ([12], [12]), ([16, 15, 12], [12, 16]), ([15, 17, 12], [12, 15, 17]), ([12, 18], [12, 18])])
def laws_FnLogs.B18 : List Nat := [0, 0, 0, 6, 15, 31, 63, 63, 63, 447, 1023, 2047, 4095, 8191, 8191, 32767, 8191, 131071, 262143, 524287]
theorem laws_FnLogs.tab18 : rtab .any (opsOf Try.f4 18) = laws_FnLogs.T18 := by kernel_rfl
theorem laws_FnLogs.bits18 : waitsOk laws_FnLogs.T18.2 laws_FnLogs.B18 = true := by kernel_rfl
def laws_FnLogs.T23 : Bool × List (List Nat × List Nat) := (true, [([], []), ([], []), ([1], [1]), ([0, 2], [0, 2]), ([3], [3]), ([4], [4]), ([4], [4]), ([5, 6, 4, 4], [4, 5, 6]), ([4], [4]), ([4], [4]), ([8, 9, 7, 4], [4, 8, 9]), ([7, 10, 4], [4, 7, 10]), ([4, 11], [4, 11])])
def laws_FnLogs.B23 : List Nat := [0, 0, 2, 7, 15, 31, 31, 127, 31, 31, 1023, 2047, 4095]
theorem laws_FnLogs.tab23 : rtab .any (opsOf Try.f4 23) = laws_FnLogs.T23 := by kernel_rfl
theorem laws_FnLogs.bits23 : waitsOk laws_FnLogs.T23.2 laws_FnLogs.B23 = true := by kernel_rfl
set_option maxHeartbeats 8000000 in
set_option maxRecDepth 100000 in
theorem laws_FnLogs.calls (k : Nat) (A0 : Option Addr) (c0 : Nat) (l0 : List Int) (r : Bool) (w : World) (hr0 : Kd.C (Kd.int .u8) w A0 l0.length l0) (hc0 : l0.length ≤ c0) (h : laws_FnLogs.f k l0 = some r) (hr_ : Aside0 (r = true)) :
  Calls Try.prog 4 #[.slice A0 l0.length c0] w fun e w' => e = .returned (.bool r) ∧ Below w.heap.size w w' := by
 have hu26 := Try.underlying26
 have hu28 := Try.underlying28
 have HR0 := Aside0.mk hr0
 have HC0 := Aside0.mk hc0
 clear hr0 hc0
 have HB := Aside0.mk (Below.refl w.heap.size w)
 have H : ((laws_big.f l0).bind fun t552 => (if t552 = true then (some true) else ((spec_DrawRightLogs.f k l0).bind fun bt553 => ((spec_DrawPlaces.f k l0).bind fun t565 => (if 0 < (t565.length : Int) then (if (wrap64 ((bt553.2.2.1.length : Int) + 1)) = 0 then (none) else ((impl_LogTerm.f bt553.1 bt553.2.1 bt553.2.2.1 (wrap64 (bt553.1 + (Int.tmod (rd t565 0) (wrap64 ((bt553.2.2.1.length : Int) + 1)))))).bind fun t569 => ((impl_LogBehind.f k bt553.1 bt553.2.1 bt553.2.2.1 (wrap64 (bt553.1 + (Int.tmod (rd t565 0) (wrap64 ((bt553.2.2.1.length : Int) + 1))))) t569).bind fun bt570 => ((impl_LogLast.f bt553.1 bt553.2.1 bt553.2.2.1).bind fun bt576 => ((impl_LogLast.f bt570.1 bt570.2.1 bt570.2.2).bind fun bt578 => (if bt570.1 = (wrap64 (bt553.1 + (Int.tmod (rd t565 0) (wrap64 ((bt553.2.2.1.length : Int) + 1))))) then (if bt570.2.1 = t569 then (if bt576.1 = bt578.1 then (if bt576.2 = bt578.2 then ((impl_LogOk.f k bt570.1 bt570.2.1 bt570.2.2).bind fun t580 => (if t580 = true then (laws_FnLogs.j0 k (wrap64 (bt553.1 + (Int.tmod (rd t565 0) (wrap64 ((bt553.2.2.1.length : Int) + 1))))) (decide (t569 < 0)) bt553.1 bt553.2.1 bt553.2.2.1 bt553.2.2.2.1 bt553.2.2.2.2.1 bt553.2.2.2.2.2 bt570.1 bt570.2.1 bt570.2.2) else (laws_FnLogs.j0 k (wrap64 (bt553.1 + (Int.tmod (rd t565 0) (wrap64 ((bt553.2.2.1.length : Int) + 1))))) true bt553.1 bt553.2.1 bt553.2.2.1 bt553.2.2.2.1 bt553.2.2.2.2.1 bt553.2.2.2.2.2 bt570.1 bt570.2.1 bt570.2.2))) else (laws_FnLogs.j0 k (wrap64 (bt553.1 + (Int.tmod (rd t565 0) (wrap64 ((bt553.2.2.1.length : Int) + 1))))) true bt553.1 bt553.2.1 bt553.2.2.1 bt553.2.2.2.1 bt553.2.2.2.2.1 bt553.2.2.2.2.2 bt570.1 bt570.2.1 bt570.2.2)) else (laws_FnLogs.j0 k (wrap64 (bt553.1 + (Int.tmod (rd t565 0) (wrap64 ((bt553.2.2.1.length : Int) + 1))))) true bt553.1 bt553.2.1 bt553.2.2.1 bt553.2.2.2.1 bt553.2.2.2.2.1 bt553.2.2.2.2.2 bt570.1 bt570.2.1 bt570.2.2)) else (laws_FnLogs.j0 k (wrap64 (bt553.1 + (Int.tmod (rd t565 0) (wrap64 ((bt553.2.2.1.length : Int) + 1))))) true bt553.1 bt553.2.1 bt553.2.2.1 bt553.2.2.2.1 bt553.2.2.2.2.1 bt553.2.2.2.2.2 bt570.1 bt570.2.1 bt570.2.2)) else (laws_FnLogs.j0 k (wrap64 (bt553.1 + (Int.tmod (rd t565 0) (wrap64 ((bt553.2.2.1.length : Int) + 1))))) true bt553.1 bt553.2.1 bt553.2.2.1 bt553.2.2.2.1 bt553.2.2.2.2.1 bt553.2.2.2.2.2 bt570.1 bt570.2.1 bt570.2.2))))))) else (none)))))) = some r := h
 clear h
 replace H := bsi H
 obtain ⟨t552, A2, H⟩ := H
 (try dsimp only at H)
 by_cases c3 : t552 = true
 ·subst c3
  rw [if_pos rfl] at H
  obtain rfl := Option.some.inj H
  go_enter Try.func4, Try.ntmps4
  go_wp2_with (first | ((with_reducible refine gate_callee (f := 7) rfl ?_); refine goesL_ (some 17) rfl rfl Try.func7 B16x16_ rfl #[.slice A0 l0.length c0] rfl B16x1_ ?_; (with_reducible refine (laws_big.calls _ _ l0 true _ ?side1 ?side2 A2.out).mono ?_); (case side1 => exact B16x20_); (case side2 => exact HC0.out); rintro e w' ⟨rfl, ⟨nd, rfl⟩⟩; refine ⟨_, rfl, ?_⟩))
  go_ret
  exact ⟨B16x25_, B16x14_⟩
 ·replace c3 := Bool.eq_false_iff.mpr c3
  subst c3
  rw [if_neg (show ¬ (false = true) by decide)] at H
  replace H := bsi H
  obtain ⟨⟨t553, t554, t555, t558, t559, t560⟩, A4, H⟩ := H
  (try dsimp only at H)
  replace H := bsi H
  obtain ⟨t565, A5, H⟩ := H
  (try dsimp only at H)
  by_cases c6 : 0 < (t565.length : Int)
  rotate_left
  ·rw [if_neg c6] at H
   exact absurd H (by simp)
  rw [if_pos c6] at H
  have c6b0 : decide (0 < (t565.length : Int)) = true := decide_eq_true c6
  have c6b1 : decide (0 < t565.length) = true := decide_eq_true (by omega)
  clear c6
  by_cases c7 : (wrap64 ((t555.length : Int) + 1)) = 0
  ·rw [if_pos c7] at H
   exact absurd H (by simp)
  rw [if_neg c7] at H
  have c7b0 := beq_eq_false_iff_ne.mpr c7
  have c7b1 := bne_iff_ne.mpr c7
  replace H := bsi H
  obtain ⟨t569, A8, H⟩ := H
  (try dsimp only at H)
  replace H := bsi H
  obtain ⟨⟨t570, t571, t572⟩, A9, H⟩ := H
  (try dsimp only at H)
  replace H := bsi H
  obtain ⟨⟨t576, t577⟩, A10, H⟩ := H
  (try dsimp only at H)
  replace H := bsi H
  obtain ⟨⟨t578, t579⟩, A11, H⟩ := H
  (try dsimp only at H)
  have HC12 := Aside0.mk H
  clear H
  go_enter Try.func4, Try.ntmps4
  try go_wp2_with (first | ((with_reducible refine gate_callee (f := 7) rfl ?_); refine goesL_ (some 17) rfl rfl Try.func7 B16x16_ rfl #[.slice A0 l0.length c0] rfl B16x1_ ?_; (with_reducible refine (laws_big.calls _ _ l0 false _ ?side1 ?side2 A2.out).mono ?_); (case side1 => exact B16x20_); (case side2 => exact HC0.out); rintro e w' ⟨rfl, ⟨nd, rfl⟩⟩; refine ⟨_, rfl, ?_⟩) | ((with_reducible refine gate_callee (f := 13) rfl ?_); refine goesL_ (some 20) rfl rfl Try.func13 B16x16_ rfl #[.slice A0 l0.length c0] rfl B16x1_ ?_; (with_reducible refine (spec_DrawRightLogs.calls k _ _ l0 t553 t554 t555 t558 t559 t560 _ ?side1 ?side2 A4.out).mono ?_); (case side1 => exact B16x20_); (case side2 => exact HC0.out); rintro e w13 ⟨v556, v561, rfl, ho0, ho1, hb⟩; refine ⟨_, rfl, ?_⟩; have HO557 := Aside0.mk (Kd.R_lower ho0 (below_size B16x14_)); have HO562 := Aside0.mk (Kd.R_lower ho1 (below_size B16x14_)); replace HB := Aside0.mk (below_step B16x14_ hb); (try clear hb); (try clear ho0); (try clear ho1)) | ((with_reducible refine gate_dst (N := 3) rfl ?_); refine box_event ?hg (N := 3) ?hd (cs := #[.int .i64 0, .int .i64 0, .slice none 0 0]) (t := 26) ?hr ?_; (case hd => rfl); (case hg => rfl); (case hr => exact B16x26_); intro gb563 hg w14 hbox hb; replace HO557 := Aside0.mk (Kd.R_below B16x9_ hb); replace HO562 := Aside0.mk (Kd.R_below B16x10_ hb); have BK563 := Aside0.mk (hbox); have GW563 := Aside0.mk ((bs hg (below_size HB.out))); have GE563 := Aside0.mk ((bs hg (below_size HB.out))); replace HB := Aside0.mk (below_step B16x14_ hb); clear hb hbox hg) | ((with_reducible refine gate_dst (N := 4) rfl ?_); refine box_event ?hg (N := 4) ?hd (cs := #[.int .i64 0, .int .i64 0, .slice none 0 0]) (t := 26) ?hr ?_; (case hd => rfl); (case hg => rfl); (case hr => exact B16x26_); intro gb564 hg w15 hbox hb; replace HO557 := Aside0.mk (Kd.R_below B16x9_ hb); replace HO562 := Aside0.mk (Kd.R_below B16x10_ hb); have BK564 := Aside0.mk (hbox); have GW564 := Aside0.mk ((bs hg (below_size HB.out))); have GE564 := Aside0.mk ((bs hg (below_size HB.out))); replace HB := Aside0.mk (below_step (by repeat (first | (with_reducible first | exact HB.out | apply below_alloc | apply pw_below_drewN | apply below_drew1 | refine below_set ?_ GE563.out) | exact HB.out)) hb); have NB563_564 := Aside0.mk ((nl hg (blk_lt BK563.out))); have NB564_563 := Aside0.mk ((ng hg (blk_lt BK563.out))); replace BK563 := Aside0.mk (bb BK563.out hb); clear hb hbox hg; have hnb16 := NB563_564.out; have hnc16 := NB564_563.out; obtain ⟨hcz17_0, hcz17_1, hcz17_2⟩ := cl3 BK563.out; obtain ⟨hfz17_0, hfz17_1, hfz17_2⟩ := fr3 BK563.out; obtain ⟨Ao18, co18, eo18⟩ := Kd.R_slice HO557.out; subst eo18; obtain ⟨hcz19_0, hcz19_1, hcz19_2⟩ := cl3 BK564.out; obtain ⟨hfz19_0, hfz19_1, hfz19_2⟩ := fr3 BK564.out; obtain ⟨Ao20, co20, eo20⟩ := Kd.R_slice HO562.out; subst eo20) | ((with_reducible refine gate_callee (f := 14) rfl ?_); refine goesL_ (some 24) rfl rfl Try.func14 B16x16_ rfl #[.slice A0 l0.length c0] rfl B16x1_ ?_; (with_reducible refine (spec_DrawPlaces.calls k _ _ l0 t565 _ ?side1 ?side2 A5.out).mono ?_); (case side1 => exact Kd.C_below HR0.out B16x11_); (case side2 => exact HC0.out); rintro e w21 ⟨v566, rfl, ho0, hb⟩; refine ⟨_, rfl, ?_⟩; replace HO557 := Aside0.mk (Kd.R_below (by (with_reducible repeat (first | apply Kd.R_alloc | apply Kd.R_drewN | apply Kd.R_drew)); exact (Kd.R_mono (Kd.R_mono (Kd.R_far (p := ⟨gb564, 2, none⟩) (Kd.R_far (p := ⟨gb564, 1, none⟩) (Kd.R_far (p := ⟨gb564, 0, none⟩) (Kd.R_far (p := ⟨gb563, 2, none⟩) (Kd.R_far (p := ⟨gb563, 1, none⟩) (Kd.R_far (p := ⟨gb563, 0, none⟩) (Kd.R_types (Kd.R_types HO557.out BK563.out (by decide)) BK564.out (by decide)) (fun _ hk => hk.1.2) (.int .i64 t553)) (fun _ hk => hk.1.2) (.int .i64 t554)) (fun _ hk => hk.1.2) (.slice Ao18 t555.length co18)) (fun _ hk => hk.2) (.int .i64 t558)) (fun _ hk => hk.2) (.int .i64 t559)) (fun _ hk => hk.2) (.slice Ao20 t560.length co20)) (fun _ h_ => h_.1)) (fun _ h_ => h_.1))) hb); replace HO562 := Aside0.mk (Kd.R_below (by (with_reducible repeat (first | apply Kd.R_alloc | apply Kd.R_drewN | apply Kd.R_drew)); exact (Kd.R_mono (Kd.R_mono (Kd.R_far (p := ⟨gb564, 2, none⟩) (Kd.R_far (p := ⟨gb564, 1, none⟩) (Kd.R_far (p := ⟨gb564, 0, none⟩) (Kd.R_far (p := ⟨gb563, 2, none⟩) (Kd.R_far (p := ⟨gb563, 1, none⟩) (Kd.R_far (p := ⟨gb563, 0, none⟩) (Kd.R_types (Kd.R_types HO562.out BK563.out (by decide)) BK564.out (by decide)) (fun _ hk => hk.1.2) (.int .i64 t553)) (fun _ hk => hk.1.2) (.int .i64 t554)) (fun _ hk => hk.1.2) (.slice Ao18 t555.length co18)) (fun _ hk => hk.2) (.int .i64 t558)) (fun _ hk => hk.2) (.int .i64 t559)) (fun _ hk => hk.2) (.slice Ao20 t560.length co20)) (fun _ h_ => h_.1)) (fun _ h_ => h_.1))) hb); have HO567 := Aside0.mk (Kd.R_lower ho0 (below_size B16x11_)); replace BK563 := Aside0.mk (blk_below (g := gb563) (o := .cells #[.int .i64 t553, .int .i64 t554, .slice Ao18 t555.length co18] 26 (0, 0)) (by (repeat (with_reducible (first | exact BK563.out | apply blk_drewN | apply blk_drew | apply blk_alloc | apply blk_put | apply bf NB563_564.out))); repeat (first | exact BK563.out | (simp only [List.setIfInBounds_toArray, List.set_cons_zero, List.set_cons_succ]; with_reducible rfl) | rfl)) hb); replace BK564 := Aside0.mk (blk_below (g := gb564) (o := .cells #[.int .i64 t558, .int .i64 t559, .slice Ao20 t560.length co20] 26 (0, 0)) (by (repeat (with_reducible (first | exact BK564.out | apply blk_drewN | apply blk_drew | apply blk_alloc | apply blk_put | apply bf NB564_563.out))); repeat (first | exact BK564.out | (simp only [List.setIfInBounds_toArray, List.set_cons_zero, List.set_cons_succ]; with_reducible rfl) | rfl)) hb); replace HB := Aside0.mk (below_step B16x11_ hb); (try clear hb); (try clear ho0)))
  replace HO557 := Aside0.mk (Kd.R_drew HO557.out)
  replace HO562 := Aside0.mk (Kd.R_drew HO562.out)
  replace HO567 := Aside0.mk (Kd.R_drew HO567.out)
  replace BK563 := Aside0.mk (blk_drew BK563.out)
  replace BK564 := Aside0.mk (blk_drew BK564.out)
  replace HB := Aside0.mk (below_drew1 HB.out)
  obtain ⟨Ao23, co23, eo23⟩ := Kd.R_slice HO567.out
  (first | subst eo23 | (injection eo23 with f1_ f2_ f3_; have f4_ := f1_.symm; have f5_ := f3_.symm; clear f1_ f2_ f3_; subst f4_; subst f5_))
  have p568 : 0 ≤ (0 : Int) := (by omega)
  have q568 : 0 < (t565.length : Int) := of_decide_eq_true B16x21_
  obtain ⟨ad568, e568, hx568_0⟩ := Kd.at_int (Kd.R_reads' HO567.out).2.2 0 p568 q568
  cases e568
  have qi568 : (0 < t565.length) = True := eq_true (by omega)
  (try rw [show ((0 : Int)).toNat = 0 from rfl] at hx568_0)
  (try rw [Addr.add_zero'] at hx568_0)
  replace p568 := eq_true p568
  replace q568 := eq_true q568
  refine start_ (n := 12) (S := fun w' => w'.cell? ⟨gb563, 0, none⟩ = some (.int .i64 t553) ∧ w'.cell? ⟨gb563, 1, none⟩ = some (.int .i64 t554) ∧ w'.cell? ⟨gb563, 2, none⟩ = some (.slice Ao18 t555.length co18) ∧ w'.cell? ad568 = some (.int .i64 (rd t565 0))) (ds := []) #[false, false, false, false, false, false, false, false, false, false, false, false] B16x16_ rfl rfl ⟨(blk_cell BK563.out 0).trans rfl, (blk_cell BK563.out 1).trans rfl, (blk_cell BK563.out 2).trans rfl, hx568_0⟩ (fun hHeld => ?_); refine with_tabW laws_FnLogs.tab5 laws_FnLogs.bits5 (fun HT_ HW_ => ?_)
  generalize w21.drew = w22 at HO557 HO562 HO567 BK563 BK564 HB hx568_0 hHeld ⊢
  refine pu_ 0 25 HT_ ?_
  refine pu_ 2 27 HT_ ?_
  refine pu_ 3 28 HT_ ?_
  refine pu_ 5 30 HT_ ?_
  refine ta_ 1 26 HT_ HW_ hHeld ?_
  refine ta_ 4 29 HT_ HW_ hHeld ?_
  refine ta_ 6 31 HT_ HW_ hHeld ?_
  refine pu_ 7 32 HT_ ?_
  refine pu_ 8 33 HT_ ?_
  refine pu_ 9 34 HT_ ?_
  refine pu_ 10 35 HT_ ?_
  refine pu_ 11 6 HT_ ?_
  refine done_ (done_of HT_.out B16x16_) ?_
  obtain ⟨hcz24_0, hcz24_1, hcz24_2⟩ := cl3 BK563.out
  obtain ⟨hfz24_0, hfz24_1, hfz24_2⟩ := fr3 BK563.out
  go_upto_region 10 with (first | ((with_reducible refine gate_callee (f := 15) rfl ?_); refine goesL_ (some 38) rfl rfl Try.func15 B16x16_ rfl #[.agg #[.int .i64 t553, .int .i64 t554, .slice Ao18 t555.length co18], .int .i64 (wrap64 (t553 + (Int.tmod (rd t565 0) (wrap64 ((t555.length : Int) + 1)))))] rfl B16x1_ ?_; (with_reducible refine (impl_LogTerm.calls t553 t554 _ _ t555 (wrap64 (t553 + (Int.tmod (rd t565 0) (wrap64 ((t555.length : Int) + 1))))) t569 _ ?side1 ?side2 A8.out).mono ?_); (case side1 => exact B16x23_); (case side2 => exact (Kd.R_reads' HO557.out).2.1); rintro e w25 ⟨rfl, hb⟩; refine ⟨_, rfl, ?_⟩; replace HO557 := Aside0.mk (Kd.R_below B16x9_ hb); replace HO562 := Aside0.mk (Kd.R_below B16x10_ hb); replace HO567 := Aside0.mk (Kd.R_below B16x15_ hb); replace BK563 := Aside0.mk (bb BK563.out hb); replace BK564 := Aside0.mk (bb BK564.out hb); replace HB := Aside0.mk (below_step B16x11_ hb); (try clear hb); obtain ⟨hcz26_0, hcz26_1, hcz26_2⟩ := cl3 BK563.out; obtain ⟨hfz26_0, hfz26_1, hfz26_2⟩ := fr3 BK563.out) | ((with_reducible refine gate_callee (f := 16) rfl ?_); refine goesL_ (some 42) rfl rfl Try.func16 B16x16_ rfl #[.agg #[.int .i64 t553, .int .i64 t554, .slice Ao18 t555.length co18], .int .i64 (wrap64 (t553 + (Int.tmod (rd t565 0) (wrap64 ((t555.length : Int) + 1))))), .int .i64 t569] rfl B16x1_ ?_; (with_reducible refine (impl_LogBehind.calls k t553 t554 _ _ t555 (wrap64 (t553 + (Int.tmod (rd t565 0) (wrap64 ((t555.length : Int) + 1))))) t569 t570 t571 t572 _ ?side1 ?side2 A9.out).mono ?_); (case side1 => exact B16x23_); (case side2 => exact (Kd.R_reads' HO557.out).2.1); rintro e w27 ⟨v573, rfl, ho0, hb⟩; refine ⟨_, rfl, ?_⟩; replace HO567 := Aside0.mk (Kd.R_below B16x15_ hb); have HO574 := Aside0.mk (Kd.R_lower (Kd.R_new' (Kd.R_new' ho0 (Kd.R_lt B16x9_)) (Kd.R_lt B16x10_)) (below_size B16x11_)); replace HO557 := Aside0.mk (Kd.R_elder' B16x9_ (Kd.R_base ho0) hb); replace HO562 := Aside0.mk (Kd.R_elder' B16x10_ (Kd.R_base ho0) hb); replace BK563 := Aside0.mk (bb BK563.out hb); replace BK564 := Aside0.mk (bb BK564.out hb); replace HB := Aside0.mk (below_step B16x11_ hb); (try clear hb); (try clear ho0)) | ((with_reducible refine gate_dst (N := 8) rfl ?_); refine box_event ?hg (N := 8) ?hd (cs := #[.int .i64 0, .int .i64 0, .slice none 0 0]) (t := 26) ?hr ?_; (case hd => rfl); (case hg => rfl); (case hr => exact B16x26_); intro gb575 hg w28 hbox hb; replace HO557 := Aside0.mk (Kd.R_below B16x9_ hb); replace HO562 := Aside0.mk (Kd.R_below B16x10_ hb); replace HO567 := Aside0.mk (Kd.R_below B16x15_ hb); replace HO574 := Aside0.mk (Kd.R_below B16x19_ hb); have BK575 := Aside0.mk (hbox); have GW575 := Aside0.mk ((bs hg (below_size HB.out))); have GE575 := Aside0.mk ((bs hg (below_size HB.out))); replace HB := Aside0.mk (below_step B16x11_ hb); have NB563_575 := Aside0.mk ((nl hg (blk_lt BK563.out))); have NB575_563 := Aside0.mk ((ng hg (blk_lt BK563.out))); replace BK563 := Aside0.mk (bb BK563.out hb); have NB564_575 := Aside0.mk ((nl hg (blk_lt BK564.out))); have NB575_564 := Aside0.mk ((ng hg (blk_lt BK564.out))); replace BK564 := Aside0.mk (bb BK564.out hb); clear hb hbox hg; have hnb29 := NB575_563.out; have hnc29 := NB563_575.out; have hnb30 := NB575_564.out; have hnc30 := NB564_575.out; obtain ⟨hcz31_0, hcz31_1, hcz31_2⟩ := cl3 BK575.out; obtain ⟨hfz31_0, hfz31_1, hfz31_2⟩ := fr3 BK575.out; obtain ⟨Ao32, co32, eo32⟩ := Kd.R_slice HO574.out; subst eo32; obtain ⟨hcz33_0, hcz33_1, hcz33_2⟩ := cl3 BK563.out; obtain ⟨hfz33_0, hfz33_1, hfz33_2⟩ := fr3 BK563.out) | ((with_reducible refine gate_callee (f := 17) rfl ?_); refine goesL_ (some 45) rfl rfl Try.func17 B16x16_ rfl #[.agg #[.int .i64 t553, .int .i64 t554, .slice Ao18 t555.length co18]] rfl B16x1_ ?_; (with_reducible refine (impl_LogLast.calls t553 t554 _ _ t555 t576 t577 _ ?side1 ?side2 A10.out).mono ?_); (case side1 => refine (Kd.R_reads' (e := 28) (base := w.heap.size) (ok := fun k_ => (some k_ ≠ (.slice Ao20 t560.length co20 : Value).ownBlock ∧ some k_ ≠ (.slice Ao32 t572.length co32 : Value).ownBlock)) (n := t555.length) (c := co18) ?_).2.2; exact B16x17_); (case side2 => exact (Kd.R_reads' HO557.out).2.1); rintro e w34 ⟨rfl, hb⟩; refine ⟨_, rfl, ?_⟩; replace HO557 := Aside0.mk (Kd.R_below B16x17_ hb); replace HO562 := Aside0.mk (Kd.R_below (by (with_reducible repeat (first | apply Kd.R_alloc | apply Kd.R_drewN | apply Kd.R_drew)); exact (Kd.R_mono (Kd.R_far (p := ⟨gb575, 2, none⟩) (Kd.R_far (p := ⟨gb575, 1, none⟩) (Kd.R_far (p := ⟨gb575, 0, none⟩) (Kd.R_types HO562.out BK575.out (by decide)) (fun _ hk => hk.2) (.int .i64 t570)) (fun _ hk => hk.2) (.int .i64 t571)) (fun _ hk => hk.2) (.slice Ao32 t572.length co32)) (fun _ h_ => h_.1))) hb); replace HO567 := Aside0.mk (Kd.R_below (by (with_reducible repeat (first | apply Kd.R_alloc | apply Kd.R_drewN | apply Kd.R_drew)); exact (Kd.R_mono (Kd.R_far (p := ⟨gb575, 2, none⟩) (Kd.R_far (p := ⟨gb575, 1, none⟩) (Kd.R_far (p := ⟨gb575, 0, none⟩) (Kd.R_types HO567.out BK575.out (by decide)) (fun _ hk => hk.2) (.int .i64 t570)) (fun _ hk => hk.2) (.int .i64 t571)) (fun _ hk => hk.2) (.slice Ao32 t572.length co32)) (fun _ h_ => h_.1))) hb); replace HO574 := Aside0.mk (Kd.R_below (by (with_reducible repeat (first | apply Kd.R_alloc | apply Kd.R_drewN | apply Kd.R_drew)); exact (Kd.R_mono (Kd.R_far (p := ⟨gb575, 2, none⟩) (Kd.R_far (p := ⟨gb575, 1, none⟩) (Kd.R_far (p := ⟨gb575, 0, none⟩) (Kd.R_types HO574.out BK575.out (by decide)) (fun _ hk => hk.2) (.int .i64 t570)) (fun _ hk => hk.2) (.int .i64 t571)) (fun _ hk => hk.2) (.slice Ao32 t572.length co32)) (fun _ h_ => h_.1))) hb); replace BK563 := Aside0.mk (blk_below (g := gb563) (o := .cells #[.int .i64 t553, .int .i64 t554, .slice Ao18 t555.length co18] 26 (0, 0)) (by (repeat (with_reducible (first | exact BK563.out | apply blk_drewN | apply blk_drew | apply blk_alloc | apply blk_put | apply bf NB563_575.out))); repeat (first | exact BK563.out | (simp only [List.setIfInBounds_toArray, List.set_cons_zero, List.set_cons_succ]; with_reducible rfl) | rfl)) hb); replace BK564 := Aside0.mk (blk_below (g := gb564) (o := .cells #[.int .i64 t558, .int .i64 t559, .slice Ao20 t560.length co20] 26 (0, 0)) (by (repeat (with_reducible (first | exact BK564.out | apply blk_drewN | apply blk_drew | apply blk_alloc | apply blk_put | apply bf NB564_575.out))); repeat (first | exact BK564.out | (simp only [List.setIfInBounds_toArray, List.set_cons_zero, List.set_cons_succ]; with_reducible rfl) | rfl)) hb); replace BK575 := Aside0.mk (blk_below (g := gb575) (o := .cells #[.int .i64 t570, .int .i64 t571, .slice Ao32 t572.length co32] 26 (0, 0)) (by (repeat (with_reducible (first | exact BK575.out | apply blk_drewN | apply blk_drew | apply blk_alloc | apply blk_put))); repeat (first | exact BK575.out | (simp only [List.setIfInBounds_toArray, List.set_cons_zero, List.set_cons_succ]; with_reducible rfl) | rfl)) hb); replace HB := Aside0.mk (below_step B16x0_ hb); (try clear hb); obtain ⟨hcz35_0, hcz35_1, hcz35_2⟩ := cl3 BK575.out; obtain ⟨hfz35_0, hfz35_1, hfz35_2⟩ := fr3 BK575.out) | ((with_reducible refine gate_callee (f := 17) rfl ?_); refine goesL_ (some 50) rfl rfl Try.func17 B16x16_ rfl #[.agg #[.int .i64 t570, .int .i64 t571, .slice Ao32 t572.length co32]] rfl B16x1_ ?_; (with_reducible refine (impl_LogLast.calls t570 t571 _ _ t572 t578 t579 _ ?side1 ?side2 A11.out).mono ?_); (case side1 => exact B16x18_); (case side2 => exact (Kd.R_reads' HO574.out).2.1); rintro e w36 ⟨rfl, hb⟩; refine ⟨_, rfl, ?_⟩; replace HO557 := Aside0.mk (Kd.R_below B16x9_ hb); replace HO562 := Aside0.mk (Kd.R_below B16x10_ hb); replace HO567 := Aside0.mk (Kd.R_below B16x15_ hb); replace HO574 := Aside0.mk (Kd.R_below B16x19_ hb); replace BK563 := Aside0.mk (bb BK563.out hb); replace BK564 := Aside0.mk (bb BK564.out hb); replace BK575 := Aside0.mk (bb BK575.out hb); replace HB := Aside0.mk (below_step B16x0_ hb); (try clear hb)))
  (try simp only [Act.put, List.setIfInBounds_toArray, List.set_cons_zero, List.set_cons_succ])
  go_cut [81] (fun v81 wc => ∃ (kq : Nat) (x81_11 : Bool), v81 = .bool x81_11 ∧ Aside0 (laws_FnLogs.j0 kq (wrap64 (t553 + (Int.tmod (rd t565 0) (wrap64 ((t555.length : Int) + 1))))) x81_11 t553 t554 t555 t558 t559 t560 t570 t571 t572 = some r) ∧ Aside0 (kq ≤ k) ∧ Aside0 (Kd.R k28 28 wc w.heap.size (fun k_ => some k_ ≠ ((.slice Ao20 t560.length co20) : Value).ownBlock ∧ some k_ ≠ ((.slice Ao32 t572.length co32) : Value).ownBlock) (.slice Ao18 t555.length co18) t555) ∧ Aside0 (Kd.R k28 28 wc w.heap.size (fun k_ => some k_ ≠ ((.slice Ao18 t555.length co18) : Value).ownBlock ∧ some k_ ≠ ((.slice Ao32 t572.length co32) : Value).ownBlock) (.slice Ao20 t560.length co20) t560) ∧ Aside0 (Kd.R k28 28 wc w.heap.size (fun k_ => some k_ ≠ ((.slice Ao18 t555.length co18) : Value).ownBlock ∧ some k_ ≠ ((.slice Ao20 t560.length co20) : Value).ownBlock) (.slice Ao32 t572.length co32) t572) ∧ Aside0 (wc.heap[gb563]? = some (.cells #[.int .i64 t553, .int .i64 t554, (.slice Ao18 t555.length co18)] 26 (0, 0))) ∧ Aside0 (wc.heap[gb564]? = some (.cells #[.int .i64 t558, .int .i64 t559, (.slice Ao20 t560.length co20)] 26 (0, 0))) ∧ Aside0 (wc.heap[gb575]? = some (.cells #[.int .i64 t570, .int .i64 t571, (.slice Ao32 t572.length co32)] 26 (0, 0))) ∧ Aside0 (Below w.heap.size w wc))
  case first =>
   have H := HC12.out
   clear HC12
   by_cases c37 : t570 = (wrap64 (t553 + (Int.tmod (rd t565 0) (wrap64 ((t555.length : Int) + 1)))))
   ·rw [if_pos c37] at H
    have c37b0 := beq_iff_eq.mpr c37
    have c37b1 := bne_eq_false_iff_eq.mpr c37
    clear c37
    (first | rw [c37b0] | (simp only [i64_w, i32_w]; rw [c37b0]) | skip)
    by_cases c38 : t571 = t569
    ·rw [if_pos c38] at H
     have c38b0 := beq_iff_eq.mpr c38
     have c38b1 := bne_eq_false_iff_eq.mpr c38
     clear c38
     by_cases c39 : t576 = t578
     ·rw [if_pos c39] at H
      have c39b0 := beq_iff_eq.mpr c39
      have c39b1 := bne_eq_false_iff_eq.mpr c39
      clear c39
      by_cases c40 : t577 = t579
      ·rw [if_pos c40] at H
       have c40b0 := beq_iff_eq.mpr c40
       have c40b1 := bne_eq_false_iff_eq.mpr c40
       clear c40
       replace H := bsi H
       obtain ⟨t580, A41, H⟩ := H
       (try dsimp only at H)
       by_cases c42 : t580 = true
       ·subst c42
        rw [if_pos rfl] at H
        have H' := Aside0.mk H
        clear H
        have hnb43 := NB575_563.out
        have hnc43 := NB563_575.out
        have hnb44 := NB575_564.out
        have hnc44 := NB564_575.out
        obtain ⟨hcz45_0, hcz45_1, hcz45_2⟩ := cl3 BK575.out
        obtain ⟨hfz45_0, hfz45_1, hfz45_2⟩ := fr3 BK575.out
        go_wp2_with (first | (go_at_call 18; (with_reducible refine (impl_LogOk.calls k t570 t571 _ _ t572 true _ ?side1 ?side2 A41.out).mono ?_); (case side1 => exact B16x18_); (case side2 => exact (Kd.R_reads' HO574.out).2.1); rintro e w46 ⟨rfl, hb⟩; replace HO557 := Aside0.mk (Kd.R_below B16x9_ hb); replace HO562 := Aside0.mk (Kd.R_below B16x10_ hb); replace HO567 := Aside0.mk (Kd.R_below B16x15_ hb); replace HO574 := Aside0.mk (Kd.R_below B16x19_ hb); replace BK563 := Aside0.mk (bb BK563.out hb); replace BK564 := Aside0.mk (bb BK564.out hb); replace BK575 := Aside0.mk (bb BK575.out hb); replace HB := Aside0.mk (below_step B16x0_ hb); (try clear hb)))
        go_meet
        case rel => exact ⟨_, (decide (t569 < 0)), (be_), H', ⟨B16x22_⟩, ⟨B16x9_⟩, ⟨B16x10_⟩, ⟨B16x13_⟩, ⟨B16x6_⟩, ⟨B16x7_⟩, ⟨B16x8_⟩, ⟨B16x0_⟩⟩
       ·replace c42 := Bool.eq_false_iff.mpr c42
        subst c42
        rw [if_neg (show ¬ (false = true) by decide)] at H
        have H' := Aside0.mk H
        clear H
        have hnb47 := NB575_563.out
        have hnc47 := NB563_575.out
        have hnb48 := NB575_564.out
        have hnc48 := NB564_575.out
        obtain ⟨hcz49_0, hcz49_1, hcz49_2⟩ := cl3 BK575.out
        obtain ⟨hfz49_0, hfz49_1, hfz49_2⟩ := fr3 BK575.out
        go_wp2_with (first | (go_at_call 18; (with_reducible refine (impl_LogOk.calls k t570 t571 _ _ t572 false _ ?side1 ?side2 A41.out).mono ?_); (case side1 => exact B16x18_); (case side2 => exact (Kd.R_reads' HO574.out).2.1); rintro e w50 ⟨rfl, hb⟩; replace HO557 := Aside0.mk (Kd.R_below B16x9_ hb); replace HO562 := Aside0.mk (Kd.R_below B16x10_ hb); replace HO567 := Aside0.mk (Kd.R_below B16x15_ hb); replace HO574 := Aside0.mk (Kd.R_below B16x19_ hb); replace BK563 := Aside0.mk (bb BK563.out hb); replace BK564 := Aside0.mk (bb BK564.out hb); replace BK575 := Aside0.mk (bb BK575.out hb); replace HB := Aside0.mk (below_step B16x0_ hb); (try clear hb)))
        go_meet
        case rel => exact ⟨_, (true), (be_), H', ⟨B16x22_⟩, ⟨B16x9_⟩, ⟨B16x10_⟩, ⟨B16x13_⟩, ⟨B16x6_⟩, ⟨B16x7_⟩, ⟨B16x8_⟩, ⟨B16x0_⟩⟩
      ·rw [if_neg c40] at H
       have c40b0 := beq_eq_false_iff_ne.mpr c40
       have c40b1 := bne_iff_ne.mpr c40
       have H' := Aside0.mk H
       clear H
       have hnb51 := NB575_563.out
       have hnc51 := NB563_575.out
       have hnb52 := NB575_564.out
       have hnc52 := NB564_575.out
       obtain ⟨hcz53_0, hcz53_1, hcz53_2⟩ := cl3 BK575.out
       obtain ⟨hfz53_0, hfz53_1, hfz53_2⟩ := fr3 BK575.out
       go_wp2
       go_meet
       case rel => exact ⟨_, (true), (be_), H', ⟨B16x22_⟩, ⟨B16x9_⟩, ⟨B16x10_⟩, ⟨B16x13_⟩, ⟨B16x6_⟩, ⟨B16x7_⟩, ⟨B16x8_⟩, ⟨B16x0_⟩⟩
     ·rw [if_neg c39] at H
      have c39b0 := beq_eq_false_iff_ne.mpr c39
      have c39b1 := bne_iff_ne.mpr c39
      have H' := Aside0.mk H
      clear H
      have hnb54 := NB575_563.out
      have hnc54 := NB563_575.out
      have hnb55 := NB575_564.out
      have hnc55 := NB564_575.out
      obtain ⟨hcz56_0, hcz56_1, hcz56_2⟩ := cl3 BK575.out
      obtain ⟨hfz56_0, hfz56_1, hfz56_2⟩ := fr3 BK575.out
      go_wp2
      go_meet
      case rel => exact ⟨_, (true), (be_), H', ⟨B16x22_⟩, ⟨B16x9_⟩, ⟨B16x10_⟩, ⟨B16x13_⟩, ⟨B16x6_⟩, ⟨B16x7_⟩, ⟨B16x8_⟩, ⟨B16x0_⟩⟩
    ·rw [if_neg c38] at H
     have c38b0 := beq_eq_false_iff_ne.mpr c38
     have c38b1 := bne_iff_ne.mpr c38
     have H' := Aside0.mk H
     clear H
     have hnb57 := NB575_563.out
     have hnc57 := NB563_575.out
     have hnb58 := NB575_564.out
     have hnc58 := NB564_575.out
     obtain ⟨hcz59_0, hcz59_1, hcz59_2⟩ := cl3 BK575.out
     obtain ⟨hfz59_0, hfz59_1, hfz59_2⟩ := fr3 BK575.out
     go_wp2
     go_meet
     case rel => exact ⟨_, (true), (be_), H', ⟨B16x22_⟩, ⟨B16x9_⟩, ⟨B16x10_⟩, ⟨B16x13_⟩, ⟨B16x6_⟩, ⟨B16x7_⟩, ⟨B16x8_⟩, ⟨B16x0_⟩⟩
   ·rw [if_neg c37] at H
    have c37b0 := beq_eq_false_iff_ne.mpr c37
    have c37b1 := bne_iff_ne.mpr c37
    (first | rw [c37b0] | (simp only [i64_w, i32_w]; rw [c37b0]) | skip)
    have H' := Aside0.mk H
    clear H
    have hnb60 := NB575_563.out
    have hnc60 := NB563_575.out
    have hnb61 := NB575_564.out
    have hnc61 := NB564_575.out
    obtain ⟨hcz62_0, hcz62_1, hcz62_2⟩ := cl3 BK575.out
    obtain ⟨hfz62_0, hfz62_1, hfz62_2⟩ := fr3 BK575.out
    go_wp2
    go_meet
    case rel => exact ⟨_, (true), (be_), H', ⟨B16x22_⟩, ⟨B16x9_⟩, ⟨B16x10_⟩, ⟨B16x13_⟩, ⟨B16x6_⟩, ⟨B16x7_⟩, ⟨B16x8_⟩, ⟨B16x0_⟩⟩
  case rest =>
   clear HC12
   try clear c3
   try clear c6
   try clear c6b0
   try clear c6b1
   try clear c7
   try clear c7b0
   try clear c7b1
   try clear hcz17_0
   try clear hcz17_1
   try clear hcz17_2
   try clear hcz19_0
   try clear hcz19_1
   try clear hcz19_2
   try clear hcz24_0
   try clear hcz24_1
   try clear hcz24_2
   try clear hcz26_0
   try clear hcz26_1
   try clear hcz26_2
   try clear hcz31_0
   try clear hcz31_1
   try clear hcz31_2
   try clear hcz33_0
   try clear hcz33_1
   try clear hcz33_2
   try clear hcz35_0
   try clear hcz35_1
   try clear hcz35_2
   try clear hfz17_0
   try clear hfz17_1
   try clear hfz17_2
   try clear hfz19_0
   try clear hfz19_1
   try clear hfz19_2
   try clear hfz24_0
   try clear hfz24_1
   try clear hfz24_2
   try clear hfz26_0
   try clear hfz26_1
   try clear hfz26_2
   try clear hfz31_0
   try clear hfz31_1
   try clear hfz31_2
   try clear hfz33_0
   try clear hfz33_1
   try clear hfz33_2
   try clear hfz35_0
   try clear hfz35_1
   try clear hfz35_2
   try clear hx568_0
   try clear p568
   try clear q568
   obtain ⟨kq, x81_11, rfl, HA, HJ11, HO_564002, HO_565002, HO_576002, BK563, BK564, BK575, HB⟩ := hcut
   cases kq with
   | zero => exact absurd HA.out (by simp [laws_FnLogs.j0])
   | succ kj11 =>
    have H := HA.out
    clear HA
    simp only [laws_FnLogs.j0] at H
    by_cases c63 : x81_11 = true
    ·subst c63
     rw [if_pos rfl] at H
     exact absurd ((Option.some.inj H).trans hr_.out) (by decide)
    replace c63 := Bool.eq_false_iff.mpr c63
    subst c63
    rw [if_neg (show ¬ (false = true) by decide)] at H
    have H' := Aside0.mk H
    clear H
    go_wp2
    go_loopg [13] kj11 (fun kq v13 w' => ∃ (x13_2 : Int), v13 = .int .i64 x13_2 ∧ Aside0 (laws_FnLogs.l0 kq (wrap64 (t553 + (Int.tmod (rd t565 0) (wrap64 ((t555.length : Int) + 1))))) x13_2 t553 t554 t555 t558 t559 t560 t570 t571 t572 = some r) ∧ Aside0 (kq ≤ kj11) ∧ Aside0 (Kd.R k28 28 w' w.heap.size (fun k_ => some k_ ≠ ((.slice Ao20 t560.length co20) : Value).ownBlock ∧ some k_ ≠ ((.slice Ao32 t572.length co32) : Value).ownBlock) (.slice Ao18 t555.length co18) t555) ∧ Aside0 (Kd.R k28 28 w' w.heap.size (fun k_ => some k_ ≠ ((.slice Ao18 t555.length co18) : Value).ownBlock ∧ some k_ ≠ ((.slice Ao32 t572.length co32) : Value).ownBlock) (.slice Ao20 t560.length co20) t560) ∧ Aside0 (Kd.R k28 28 w' w.heap.size (fun k_ => some k_ ≠ ((.slice Ao18 t555.length co18) : Value).ownBlock ∧ some k_ ≠ ((.slice Ao20 t560.length co20) : Value).ownBlock) (.slice Ao32 t572.length co32) t572) ∧ Aside0 (w'.heap[gb563]? = some (.cells #[.int .i64 t553, .int .i64 t554, (.slice Ao18 t555.length co18)] 26 (0, 0))) ∧ Aside0 (w'.heap[gb564]? = some (.cells #[.int .i64 t558, .int .i64 t559, (.slice Ao20 t560.length co20)] 26 (0, 0))) ∧ Aside0 (w'.heap[gb575]? = some (.cells #[.int .i64 t570, .int .i64 t571, (.slice Ao32 t572.length co32)] 26 (0, 0))) ∧ Aside0 (Below w.heap.size w w'))
    case atStart => exact ⟨(wrap64 ((wrap64 (t553 + (Int.tmod (rd t565 0) (wrap64 ((t555.length : Int) + 1))))) + 1)), (be_), H', ⟨Nat.le_refl _⟩, ⟨B16x2_⟩, ⟨B16x3_⟩, ⟨B16x4_⟩, ⟨B16x6_⟩, ⟨B16x7_⟩, ⟨B16x8_⟩, ⟨B16x0_⟩⟩
    case round =>
     clear H'
     try clear c3
     try clear c6
     try clear c6b0
     try clear c6b1
     try clear c7
     try clear c7b0
     try clear c7b1
     try clear c63
     try clear hcz17_0
     try clear hcz17_1
     try clear hcz17_2
     try clear hcz19_0
     try clear hcz19_1
     try clear hcz19_2
     try clear hcz24_0
     try clear hcz24_1
     try clear hcz24_2
     try clear hcz26_0
     try clear hcz26_1
     try clear hcz26_2
     try clear hcz31_0
     try clear hcz31_1
     try clear hcz31_2
     try clear hcz33_0
     try clear hcz33_1
     try clear hcz33_2
     try clear hcz35_0
     try clear hcz35_1
     try clear hcz35_2
     try clear hfz17_0
     try clear hfz17_1
     try clear hfz17_2
     try clear hfz19_0
     try clear hfz19_1
     try clear hfz19_2
     try clear hfz24_0
     try clear hfz24_1
     try clear hfz24_2
     try clear hfz26_0
     try clear hfz26_1
     try clear hfz26_2
     try clear hfz31_0
     try clear hfz31_1
     try clear hfz31_2
     try clear hfz33_0
     try clear hfz33_1
     try clear hfz33_2
     try clear hfz35_0
     try clear hfz35_1
     try clear hfz35_2
     try clear hx568_0
     try clear p568
     try clear q568
     obtain ⟨x13_2, rfl, HA, HK2, HO_564002, HO_565002, HO_576002, BK563, BK564, BK575, HB⟩ := hrel
     cases gk with
     | zero => exact absurd HA.out (by simp [laws_FnLogs.l0])
     | succ k2 =>
      have H := HA.out
      clear HA
      simp only [laws_FnLogs.l0] at H
      replace H := bsi H
      obtain ⟨t581, A64, H⟩ := H
      (try dsimp only at H)
      by_cases c65 : x13_2 ≤ t581
      ·rw [if_pos c65] at H
       have c65b0 : decide (x13_2 ≤ t581) = true := decide_eq_true c65
       clear c65
       obtain ⟨ji66, hji66⟩ : ∃ j_ : Int, (wrap64 ((wrap64 (x13_2 - (wrap64 (t553 + (Int.tmod (rd t565 0) (wrap64 ((t555.length : Int) + 1))))))) - 1)) = j_ := ⟨_, rfl⟩
       replace H : (if 0 ≤ (ji66) then (if (ji66) < (t572.length : Int) then (if 0 ≤ (wrap64 ((wrap64 (x13_2 - t553)) - 1)) then (if (wrap64 ((wrap64 (x13_2 - t553)) - 1)) < (t555.length : Int) then (if (!(((rd_T28 t572 (ji66)).f0) == ((rd_T28 t555 (wrap64 ((wrap64 (x13_2 - t553)) - 1))).f0)) || (!(((rd_T28 t572 (ji66)).f1) == ((rd_T28 t555 (wrap64 ((wrap64 (x13_2 - t553)) - 1))).f1)) || (!((((rd_T28 t572 (ji66)).f2).toList) == (((rd_T28 t555 (wrap64 ((wrap64 (x13_2 - t553)) - 1))).f2).toList))))) = true then (some false) else (laws_FnLogs.l0 k2 (wrap64 (t553 + (Int.tmod (rd t565 0) (wrap64 ((t555.length : Int) + 1))))) (wrap64 (x13_2 + 1)) t553 t554 t555 t558 t559 t560 t570 t571 t572)) else (none)) else (none)) else (none)) else (none)) = some r := by first | (rw [hji66] at H; exact H) | (simp only [hji66] at H ⊢; exact H)
       (try rw [hji66] at A64)
       have hji66w : (IntKind.i64.wrap ((wrap64 (x13_2 - (wrap64 (t553 + (Int.tmod (rd t565 0) (wrap64 ((t555.length : Int) + 1))))))) - 1)) = ji66 := (i64_w _).trans hji66
       by_cases c67 : 0 ≤ (ji66)
       rotate_left
       ·rw [if_neg c67] at H
        exact absurd H (by simp)
       rw [if_pos c67] at H
       have c67b0 : decide (0 ≤ (ji66)) = true := decide_eq_true c67
       clear c67
       by_cases c68 : (ji66) < (t572.length : Int)
       rotate_left
       ·rw [if_neg c68] at H
        exact absurd H (by simp)
       rw [if_pos c68] at H
       have c68b0 : decide ((ji66) < (t572.length : Int)) = true := decide_eq_true c68
       clear c68
       obtain ⟨ji69, hji69⟩ : ∃ j_ : Int, (wrap64 ((wrap64 (x13_2 - t553)) - 1)) = j_ := ⟨_, rfl⟩
       replace H : (if 0 ≤ (ji69) then (if (ji69) < (t555.length : Int) then (if (!(((rd_T28 t572 (ji66)).f0) == ((rd_T28 t555 (ji69)).f0)) || (!(((rd_T28 t572 (ji66)).f1) == ((rd_T28 t555 (ji69)).f1)) || (!((((rd_T28 t572 (ji66)).f2).toList) == (((rd_T28 t555 (ji69)).f2).toList))))) = true then (some false) else (laws_FnLogs.l0 k2 (wrap64 (t553 + (Int.tmod (rd t565 0) (wrap64 ((t555.length : Int) + 1))))) (wrap64 (x13_2 + 1)) t553 t554 t555 t558 t559 t560 t570 t571 t572)) else (none)) else (none)) = some r := by first | (rw [hji69] at H; exact H) | (simp only [hji69] at H ⊢; exact H)
       (try rw [hji69] at A64)
       have hji69w : (IntKind.i64.wrap ((wrap64 (x13_2 - t553)) - 1)) = ji69 := (i64_w _).trans hji69
       by_cases c70 : 0 ≤ (ji69)
       rotate_left
       ·rw [if_neg c70] at H
        exact absurd H (by simp)
       rw [if_pos c70] at H
       have c70b0 : decide (0 ≤ (ji69)) = true := decide_eq_true c70
       clear c70
       by_cases c71 : (ji69) < (t555.length : Int)
       rotate_left
       ·rw [if_neg c71] at H
        exact absurd H (by simp)
       rw [if_pos c71] at H
       have c71b0 : decide ((ji69) < (t555.length : Int)) = true := decide_eq_true c71
       clear c71
       by_cases c72 : (!(((rd_T28 t572 (ji66)).f0) == ((rd_T28 t555 (ji69)).f0)) || (!(((rd_T28 t572 (ji66)).f1) == ((rd_T28 t555 (ji69)).f1)) || (!((((rd_T28 t572 (ji66)).f2).toList) == (((rd_T28 t555 (ji69)).f2).toList))))) = true
       ·rw [if_pos c72] at H
        have c72b0 : (!(((rd_T28 t572 (ji66)).f0) == ((rd_T28 t555 (ji69)).f0)) || (!(((rd_T28 t572 (ji66)).f1) == ((rd_T28 t555 (ji69)).f1)) || (!((((rd_T28 t572 (ji66)).f2).toList) == (((rd_T28 t555 (ji69)).f2).toList))))) = true := c72
        clear c72
        exact absurd ((Option.some.inj H).trans hr_.out) (by decide)
       rw [if_neg c72] at H
       have c72b0 : (!(((rd_T28 t572 (ji66)).f0) == ((rd_T28 t555 (ji69)).f0)) || (!(((rd_T28 t572 (ji66)).f1) == ((rd_T28 t555 (ji69)).f1)) || (!((((rd_T28 t572 (ji66)).f2).toList) == (((rd_T28 t555 (ji69)).f2).toList))))) = false := by simpa using c72
       clear c72
       have H' := Aside0.mk H
       clear H
       have hnb73 := NB563_564.out
       have hnc73 := NB564_563.out
       have hnb74 := NB563_575.out
       have hnc74 := NB575_563.out
       obtain ⟨hcz75_0, hcz75_1, hcz75_2⟩ := cl3 BK563.out
       obtain ⟨hfz75_0, hfz75_1, hfz75_2⟩ := fr3 BK563.out
       try go_wp2_with (first | ((with_reducible refine gate_callee (f := 11) rfl ?_); refine goesL_ (some 86) rfl rfl Try.func11 B16x16_ rfl #[.agg #[.int .i64 t553, .int .i64 t554, .slice Ao18 t555.length co18]] rfl B16x1_ ?_; (with_reducible refine (laws_last.calls t553 t554 _ _ t555 t581 _ ?side1 ?side2 A64.out).mono ?_); (case side1 => exact B16x5_); (case side2 => exact (Kd.R_reads' HO_564002.out).2.1); rintro e w76 ⟨rfl, hb⟩; refine ⟨_, rfl, ?_⟩; replace HO_564002 := Aside0.mk (Kd.R_below B16x2_ hb); replace HO_565002 := Aside0.mk (Kd.R_below B16x3_ hb); replace HO_576002 := Aside0.mk (Kd.R_below B16x4_ hb); replace BK563 := Aside0.mk (bb BK563.out hb); replace BK564 := Aside0.mk (bb BK564.out hb); replace BK575 := Aside0.mk (bb BK575.out hb); replace HB := Aside0.mk (below_step B16x0_ hb); (try clear hb)))
       replace HO_564002 := Aside0.mk (Kd.R_drew HO_564002.out)
       replace HO_565002 := Aside0.mk (Kd.R_drew HO_565002.out)
       replace HO_576002 := Aside0.mk (Kd.R_drew HO_576002.out)
       replace BK563 := Aside0.mk (blk_drew BK563.out)
       replace BK564 := Aside0.mk (blk_drew BK564.out)
       replace BK575 := Aside0.mk (blk_drew BK575.out)
       replace HB := Aside0.mk (below_drew1 HB.out)
       have p582 : 0 ≤ ((ji66) : Int) := of_decide_eq_true B16x21_
       have q582 : (ji66) < (t572.length : Int) := of_decide_eq_true B16x21_
       obtain ⟨ad582, e582, hx582_0, hx582_1, hx582_2⟩ := at_T28 (Kd.R_reads' HO_576002.out).2.2 (ji66) p582 q582
       cases e582
       replace p582 := eq_true p582
       replace q582 := eq_true q582
       have p583 : 0 ≤ ((ji69) : Int) := of_decide_eq_true B16x21_
       have q583 : (ji69) < (t555.length : Int) := of_decide_eq_true B16x21_
       obtain ⟨ad583, e583, hx583_0, hx583_1, hx583_2⟩ := at_T28 (Kd.R_reads' HO_564002.out).2.2 (ji69) p583 q583
       cases e583
       replace p583 := eq_true p583
       replace q583 := eq_true q583
       refine start_ (n := 18) (S := fun w' => w'.cell? ⟨gb575, 0, none⟩ = some (.int .i64 t570) ∧ w'.cell? ⟨gb575, 1, none⟩ = some (.int .i64 t571) ∧ w'.cell? ⟨gb575, 2, none⟩ = some (.slice (some ad582) t572.length co32) ∧ w'.cell? ⟨gb563, 0, none⟩ = some (.int .i64 t553) ∧ w'.cell? ⟨gb563, 1, none⟩ = some (.int .i64 t554) ∧ w'.cell? ⟨gb563, 2, none⟩ = some (.slice (some ad583) t555.length co18) ∧ w'.cell? (ad582.add (((ji66)).toNat * 3)) = some (.int .i64 ((rd_T28 t572 (ji66)).f0)) ∧ w'.cell? ⟨(ad582.add (((ji66)).toNat * 3)).block, (ad582.add (((ji66)).toNat * 3)).off + 1, none⟩ = some (.int .i64 ((rd_T28 t572 (ji66)).f1)) ∧ w'.cell? ⟨(ad582.add (((ji66)).toNat * 3)).block, (ad582.add (((ji66)).toNat * 3)).off + 2, none⟩ = some (.string ((rd_T28 t572 (ji66)).f2)) ∧ w'.cell? (ad583.add (((ji69)).toNat * 3)) = some (.int .i64 ((rd_T28 t555 (ji69)).f0)) ∧ w'.cell? ⟨(ad583.add (((ji69)).toNat * 3)).block, (ad583.add (((ji69)).toNat * 3)).off + 1, none⟩ = some (.int .i64 ((rd_T28 t555 (ji69)).f1)) ∧ w'.cell? ⟨(ad583.add (((ji69)).toNat * 3)).block, (ad583.add (((ji69)).toNat * 3)).off + 2, none⟩ = some (.string ((rd_T28 t555 (ji69)).f2))) (ds := []) #[false, false, false, false, false, false, false, false, false, false, false, false, false, false, false, false, false, false] B16x16_ rfl rfl ⟨(blk_cell BK575.out 0).trans rfl, (blk_cell BK575.out 1).trans rfl, (blk_cell BK575.out 2).trans rfl, (blk_cell BK563.out 0).trans rfl, (blk_cell BK563.out 1).trans rfl, (blk_cell BK563.out 2).trans rfl, hx582_0, hx582_1, hx582_2, hx583_0, hx583_1, hx583_2⟩ (fun hHeld => ?_); refine with_tabW laws_FnLogs.tab15 laws_FnLogs.bits15 (fun HT_ HW_ => ?_)
       generalize w76.drew = w77 at HO_564002 HO_565002 HO_576002 BK563 BK564 BK575 HB hx582_0 hx582_1 hx582_2 hx583_0 hx583_1 hx583_2 hHeld ⊢
       refine pu_ 0 90 HT_ ?_
       refine pu_ 2 92 HT_ ?_
       refine pu_ 3 93 HT_ ?_
       refine pu_ 4 94 HT_ ?_
       refine pu_ 5 95 HT_ ?_
       refine pu_ 8 98 HT_ ?_
       refine pu_ 10 100 HT_ ?_
       refine pu_ 11 101 HT_ ?_
       refine ta_ 1 91 HT_ HW_ hHeld ?_
       refine pu_ 6 96 HT_ ?_
       refine ta_ 7 97 HT_ HW_ hHeld ?_
       refine ta_ 9 99 HT_ HW_ hHeld ?_
       refine ta_ 12 102 HT_ HW_ hHeld ?_
       refine pu_ 13 103 HT_ ?_
       refine pu_ 14 104 HT_ ?_
       refine pu_ 15 105 HT_ ?_
       refine ta_ 16 106 HT_ HW_ hHeld ?_
       refine pu_ 17 107 HT_ ?_
       refine done_ (done_of HT_.out B16x16_) ?_
       try go_wp2
       go_roundg k2
       case measure => have := HJ11.out; have := HK2.out; omega
       case rel => exact ⟨(wrap64 (x13_2 + 1)), (be_), H', ⟨(by have := HJ11.out; have := HK2.out; omega)⟩, ⟨B16x2_⟩, ⟨B16x3_⟩, ⟨B16x4_⟩, ⟨B16x6_⟩, ⟨B16x7_⟩, ⟨B16x8_⟩, ⟨B16x0_⟩⟩
      ·rw [if_neg c65] at H
       have c65b0 : decide (x13_2 ≤ t581) = false := decide_eq_false c65
       clear c65
       replace H := bsi H
       obtain ⟨t584, A78, H⟩ := H
       (try dsimp only at H)
       have HC79 := Aside0.mk H
       clear H
       have hnb80 := NB563_564.out
       have hnc80 := NB564_563.out
       have hnb81 := NB563_575.out
       have hnc81 := NB575_563.out
       obtain ⟨hcz82_0, hcz82_1, hcz82_2⟩ := cl3 BK563.out
       obtain ⟨hfz82_0, hfz82_1, hfz82_2⟩ := fr3 BK563.out
       go_upto_region 18 with (first | ((with_reducible refine gate_callee (f := 11) rfl ?_); refine goesL_ (some 86) rfl rfl Try.func11 B16x16_ rfl #[.agg #[.int .i64 t553, .int .i64 t554, .slice Ao18 t555.length co18]] rfl B16x1_ ?_; (with_reducible refine (laws_last.calls t553 t554 _ _ t555 t581 _ ?side1 ?side2 A64.out).mono ?_); (case side1 => exact B16x5_); (case side2 => exact (Kd.R_reads' HO_564002.out).2.1); rintro e w83 ⟨rfl, hb⟩; refine ⟨_, rfl, ?_⟩; replace HO_564002 := Aside0.mk (Kd.R_below B16x2_ hb); replace HO_565002 := Aside0.mk (Kd.R_below B16x3_ hb); replace HO_576002 := Aside0.mk (Kd.R_below B16x4_ hb); replace BK563 := Aside0.mk (bb BK563.out hb); replace BK564 := Aside0.mk (bb BK564.out hb); replace BK575 := Aside0.mk (bb BK575.out hb); replace HB := Aside0.mk (below_step B16x0_ hb); (try clear hb); obtain ⟨hcz84_0, hcz84_1, hcz84_2⟩ := cl3 BK563.out; obtain ⟨hfz84_0, hfz84_1, hfz84_2⟩ := fr3 BK563.out; have hnb85 := NB564_575.out; have hnc85 := NB575_564.out; obtain ⟨hcz86_0, hcz86_1, hcz86_2⟩ := cl3 BK564.out; obtain ⟨hfz86_0, hfz86_1, hfz86_2⟩ := fr3 BK564.out) | ((with_reducible refine gate_callee (f := 19) rfl ?_); refine goesL_ (some 110) rfl rfl Try.func19 B16x16_ rfl #[.agg #[.int .i64 t553, .int .i64 t554, .slice Ao18 t555.length co18], .agg #[.int .i64 t558, .int .i64 t559, .slice Ao20 t560.length co20]] rfl B16x1_ ?_; (with_reducible refine (impl_Shared.calls k2 t553 t554 _ _ t555 t558 t559 _ _ t560 t584 _ ?side1 ?side2 ?side3 ?side4 A78.out).mono ?_); (case side1 => exact B16x5_); (case side2 => exact (Kd.R_reads' HO_564002.out).2.1); (case side3 => exact B16x12_); (case side4 => exact (Kd.R_reads' HO_565002.out).2.1); rintro e w87 ⟨rfl, hb⟩; refine ⟨_, rfl, ?_⟩; replace HO_564002 := Aside0.mk (Kd.R_below B16x2_ hb); replace HO_565002 := Aside0.mk (Kd.R_below B16x3_ hb); replace HO_576002 := Aside0.mk (Kd.R_below B16x4_ hb); replace BK563 := Aside0.mk (bb BK563.out hb); replace BK564 := Aside0.mk (bb BK564.out hb); replace BK575 := Aside0.mk (bb BK575.out hb); replace HB := Aside0.mk (below_step B16x0_ hb); (try clear hb)))
       (try simp only [Act.put, List.setIfInBounds_toArray, List.set_cons_zero, List.set_cons_succ])
       go_cut [130] (fun v130 wc => ∃ (kq : Nat) (x130_78 : Bool), v130 = .bool x130_78 ∧ Aside0 (laws_FnLogs.j2 kq t584 x130_78 t553 t554 t555 t558 t559 t560 = some r) ∧ Aside0 (kq ≤ k2) ∧ Aside0 (Kd.R k28 28 wc w.heap.size (fun k_ => some k_ ≠ ((.slice Ao20 t560.length co20) : Value).ownBlock ∧ some k_ ≠ ((.slice Ao32 t572.length co32) : Value).ownBlock) (.slice Ao18 t555.length co18) t555) ∧ Aside0 (Kd.R k28 28 wc w.heap.size (fun k_ => some k_ ≠ ((.slice Ao18 t555.length co18) : Value).ownBlock ∧ some k_ ≠ ((.slice Ao32 t572.length co32) : Value).ownBlock) (.slice Ao20 t560.length co20) t560) ∧ Aside0 (Kd.R k28 28 wc w.heap.size (fun k_ => some k_ ≠ ((.slice Ao18 t555.length co18) : Value).ownBlock ∧ some k_ ≠ ((.slice Ao20 t560.length co20) : Value).ownBlock) (.slice Ao32 t572.length co32) t572) ∧ Aside0 (wc.heap[gb563]? = some (.cells #[.int .i64 t553, .int .i64 t554, (.slice Ao18 t555.length co18)] 26 (0, 0))) ∧ Aside0 (wc.heap[gb564]? = some (.cells #[.int .i64 t558, .int .i64 t559, (.slice Ao20 t560.length co20)] 26 (0, 0))) ∧ Aside0 (wc.heap[gb575]? = some (.cells #[.int .i64 t570, .int .i64 t571, (.slice Ao32 t572.length co32)] 26 (0, 0))) ∧ Aside0 (Below w.heap.size w wc))
       case first =>
        have H := HC79.out
        clear HC79
        replace H := bsi H
        obtain ⟨t585, A88, H⟩ := H
        (try dsimp only at H)
        by_cases c89 : t584 = t585
        ·rw [if_pos c89] at H
         have c89b0 := beq_iff_eq.mpr c89
         have c89b1 := bne_eq_false_iff_eq.mpr c89
         clear c89
         (first | rw [c89b0] | (simp only [i64_w, i32_w]; rw [c89b0]) | skip)
         replace H := bsi H
         obtain ⟨t586, A90, H⟩ := H
         (try dsimp only at H)
         by_cases c91 : t584 = t586
         ·rw [if_pos c91] at H
          have c91b0 := beq_iff_eq.mpr c91
          have c91b1 := bne_eq_false_iff_eq.mpr c91
          clear c91
          replace H := bsi H
          obtain ⟨t587, A92, H⟩ := H
          (try dsimp only at H)
          replace H := bsi H
          obtain ⟨t588, A93, H⟩ := H
          (try dsimp only at H)
          have H' := Aside0.mk H
          clear H
          try go_wp2
          replace HO_564002 := Aside0.mk (Kd.R_drew HO_564002.out)
          replace HO_565002 := Aside0.mk (Kd.R_drew HO_565002.out)
          replace HO_576002 := Aside0.mk (Kd.R_drew HO_576002.out)
          replace BK563 := Aside0.mk (blk_drew BK563.out)
          replace BK564 := Aside0.mk (blk_drew BK564.out)
          replace BK575 := Aside0.mk (blk_drew BK575.out)
          replace HB := Aside0.mk (below_drew1 HB.out)
          refine start_ (n := 20) (S := fun w' => w'.cell? ⟨gb563, 0, none⟩ = some (.int .i64 t553) ∧ w'.cell? ⟨gb563, 1, none⟩ = some (.int .i64 t554) ∧ w'.cell? ⟨gb563, 2, none⟩ = some (.slice Ao18 t555.length co18) ∧ w'.cell? ⟨gb564, 0, none⟩ = some (.int .i64 t558) ∧ w'.cell? ⟨gb564, 1, none⟩ = some (.int .i64 t559) ∧ w'.cell? ⟨gb564, 2, none⟩ = some (.slice Ao20 t560.length co20)) (ds := []) #[false, false, false, false, false, false, false, false, false, false, false, false, false, false, false, false, false, false, false, false] B16x16_ rfl rfl ⟨(blk_cell BK563.out 0).trans rfl, (blk_cell BK563.out 1).trans rfl, (blk_cell BK563.out 2).trans rfl, (blk_cell BK564.out 0).trans rfl, (blk_cell BK564.out 1).trans rfl, (blk_cell BK564.out 2).trans rfl⟩ (fun hHeld => ?_); refine with_tabW laws_FnLogs.tab18 laws_FnLogs.bits18 (fun HT_ HW_ => ?_)
          generalize w87.drew = w94 at HO_564002 HO_565002 HO_576002 BK563 BK564 BK575 HB hHeld ⊢
          refine pu_ 0 111 HT_ ?_
          refine ta_ 1 112 HT_ HW_ hHeld ?_
          refine ta_ 2 113 HT_ HW_ hHeld ?_
          refine one_ (i := 3) (N := some 114) #[true, true, true, true, false, false, false, false, false, false, false, false, false, false, false, false, false, false, false, false] rfl rfl (one_of HT_.out B16x16_) (by decide) (fun K hK => ?_)
          refine goes_ Try.func20 B16x16_ rfl #[.agg #[.int .i64 t553, .int .i64 t554, .slice Ao18 t555.length co18], .agg #[.int .i64 t558, .int .i64 t559, .slice Ao20 t560.length co20]] (by rfl) rfl rfl B16x1_ ?_
          with_reducible refine (spec_Shared.calls k2 t553 t554 _ _ t555 t558 t559 _ _ t560 t585 _ ?side1 ?side2 ?side3 ?side4 A88.out).mono ?_
          (case side1 => exact B16x5_)
          (case side2 => exact (Kd.R_reads' HO_564002.out).2.1)
          (case side3 => exact B16x12_)
          (case side4 => exact (Kd.R_reads' HO_565002.out).2.1)
          rintro e w95 ⟨rfl, hb⟩
          refine ⟨_, rfl, ?_⟩
          replace HO_564002 := Aside0.mk (Kd.R_below B16x2_ hb)
          replace HO_565002 := Aside0.mk (Kd.R_below B16x3_ hb)
          replace HO_576002 := Aside0.mk (Kd.R_below B16x4_ hb)
          replace BK563 := Aside0.mk (bb BK563.out hb)
          replace BK564 := Aside0.mk (bb BK564.out hb)
          replace BK575 := Aside0.mk (bb BK575.out hb)
          replace HB := Aside0.mk (below_step B16x0_ hb)
          (try clear hb)
          (try clear hb2)
          (try clear hk)
          (try clear hi)
          refine hK.out _ _ ⟨(blk_cell BK563.out 0).trans rfl, (blk_cell BK563.out 1).trans rfl, (blk_cell BK563.out 2).trans rfl, (blk_cell BK564.out 0).trans rfl, (blk_cell BK564.out 1).trans rfl, (blk_cell BK564.out 2).trans rfl⟩ (fun hHeld => ?_)
          clear hK K
          refine norm_ (a' := ?_) ?_ ?_
          rotate_left
          ·show Act.put _ (some 114) _ = _
           simp only [Act.put, List.setIfInBounds_toArray, List.set_cons_zero, List.set_cons_succ, i64_w, i32_w]
           rfl
          refine pu_ 4 115 HT_ ?_
          refine pu_ 5 116 HT_ ?_
          refine pu_ 6 117 HT_ ?_
          refine ta_ 7 118 HT_ HW_ hHeld ?_
          refine ta_ 8 119 HT_ HW_ hHeld ?_
          refine one_ (i := 9) (N := some 120) #[true, true, true, true, true, true, true, true, true, true, false, false, false, false, false, false, false, false, false, false] rfl rfl (one_of HT_.out B16x16_) (by decide) (fun K hK => ?_)
          refine goes_ Try.func19 B16x16_ rfl #[.agg #[.int .i64 t558, .int .i64 t559, .slice Ao20 t560.length co20], .agg #[.int .i64 t553, .int .i64 t554, .slice Ao18 t555.length co18]] (by rfl) rfl rfl B16x1_ ?_
          with_reducible refine (impl_Shared.calls k2 t558 t559 _ _ t560 t553 t554 _ _ t555 t586 _ ?side1 ?side2 ?side3 ?side4 A90.out).mono ?_
          (case side1 => exact B16x12_)
          (case side2 => exact (Kd.R_reads' HO_565002.out).2.1)
          (case side3 => exact B16x5_)
          (case side4 => exact (Kd.R_reads' HO_564002.out).2.1)
          rintro e w96 ⟨rfl, hb⟩
          refine ⟨_, rfl, ?_⟩
          replace HO_564002 := Aside0.mk (Kd.R_below B16x2_ hb)
          replace HO_565002 := Aside0.mk (Kd.R_below B16x3_ hb)
          replace HO_576002 := Aside0.mk (Kd.R_below B16x4_ hb)
          replace BK563 := Aside0.mk (bb BK563.out hb)
          replace BK564 := Aside0.mk (bb BK564.out hb)
          replace BK575 := Aside0.mk (bb BK575.out hb)
          replace HB := Aside0.mk (below_step B16x0_ hb)
          (try clear hb)
          (try clear hb2)
          (try clear hk)
          (try clear hi)
          refine hK.out _ _ ⟨(blk_cell BK563.out 0).trans rfl, (blk_cell BK563.out 1).trans rfl, (blk_cell BK563.out 2).trans rfl, (blk_cell BK564.out 0).trans rfl, (blk_cell BK564.out 1).trans rfl, (blk_cell BK564.out 2).trans rfl⟩ (fun hHeld => ?_)
          clear hK K
          refine norm_ (a' := ?_) ?_ ?_
          rotate_left
          ·show Act.put _ (some 120) _ = _
           simp only [Act.put, List.setIfInBounds_toArray, List.set_cons_zero, List.set_cons_succ, i64_w, i32_w]
           rfl
          refine pu_ 10 121 HT_ ?_
          refine pu_ 11 122 HT_ ?_
          refine pu_ 12 123 HT_ ?_
          refine ta_ 13 124 HT_ HW_ hHeld ?_
          refine ta_ 14 125 HT_ HW_ hHeld ?_
          refine ta_ 16 127 HT_ HW_ hHeld ?_
          refine one_ (i := 15) (N := some 126) #[true, true, true, true, true, true, true, true, true, true, true, true, true, true, true, true, true, false, false, false] rfl rfl (one_of HT_.out B16x16_) (by decide) (fun K hK => ?_)
          refine goes_ Try.func19 B16x16_ rfl #[.agg #[.int .i64 t553, .int .i64 t554, .slice Ao18 t555.length co18], .agg #[.int .i64 t553, .int .i64 t554, .slice Ao18 t555.length co18]] (by rfl) rfl rfl B16x1_ ?_
          with_reducible refine (impl_Shared.calls k2 t553 t554 _ _ t555 t553 t554 _ _ t555 t587 _ ?side1 ?side2 ?side3 ?side4 A92.out).mono ?_
          (case side1 => exact B16x5_)
          (case side2 => exact (Kd.R_reads' HO_564002.out).2.1)
          (case side3 => exact B16x5_)
          (case side4 => exact (Kd.R_reads' HO_564002.out).2.1)
          rintro e w97 ⟨rfl, hb⟩
          refine ⟨_, rfl, ?_⟩
          replace HO_564002 := Aside0.mk (Kd.R_below B16x2_ hb)
          replace HO_565002 := Aside0.mk (Kd.R_below B16x3_ hb)
          replace HO_576002 := Aside0.mk (Kd.R_below B16x4_ hb)
          replace BK563 := Aside0.mk (bb BK563.out hb)
          replace BK564 := Aside0.mk (bb BK564.out hb)
          replace BK575 := Aside0.mk (bb BK575.out hb)
          replace HB := Aside0.mk (below_step B16x0_ hb)
          (try clear hb)
          (try clear hb2)
          (try clear hk)
          (try clear hi)
          refine hK.out _ _ ⟨(blk_cell BK563.out 0).trans rfl, (blk_cell BK563.out 1).trans rfl, (blk_cell BK563.out 2).trans rfl, (blk_cell BK564.out 0).trans rfl, (blk_cell BK564.out 1).trans rfl, (blk_cell BK564.out 2).trans rfl⟩ (fun hHeld => ?_)
          clear hK K
          refine norm_ (a' := ?_) ?_ ?_
          rotate_left
          ·show Act.put _ (some 126) _ = _
           simp only [Act.put, List.setIfInBounds_toArray, List.set_cons_zero, List.set_cons_succ, i64_w, i32_w]
           rfl
          refine one_ (i := 17) (N := some 128) #[true, true, true, true, true, true, true, true, true, true, true, true, true, true, true, true, true, true, false, false] rfl rfl (one_of HT_.out B16x16_) (by decide) (fun K hK => ?_)
          refine goes_ Try.func11 B16x16_ rfl #[.agg #[.int .i64 t553, .int .i64 t554, .slice Ao18 t555.length co18]] (by rfl) rfl rfl B16x1_ ?_
          with_reducible refine (laws_last.calls t553 t554 _ _ t555 t588 _ ?side1 ?side2 A93.out).mono ?_
          (case side1 => exact B16x5_)
          (case side2 => exact (Kd.R_reads' HO_564002.out).2.1)
          rintro e w98 ⟨rfl, hb⟩
          refine ⟨_, rfl, ?_⟩
          replace HO_564002 := Aside0.mk (Kd.R_below B16x2_ hb)
          replace HO_565002 := Aside0.mk (Kd.R_below B16x3_ hb)
          replace HO_576002 := Aside0.mk (Kd.R_below B16x4_ hb)
          replace BK563 := Aside0.mk (bb BK563.out hb)
          replace BK564 := Aside0.mk (bb BK564.out hb)
          replace BK575 := Aside0.mk (bb BK575.out hb)
          replace HB := Aside0.mk (below_step B16x0_ hb)
          (try clear hb)
          (try clear hb2)
          (try clear hk)
          (try clear hi)
          refine hK.out _ _ ⟨(blk_cell BK563.out 0).trans rfl, (blk_cell BK563.out 1).trans rfl, (blk_cell BK563.out 2).trans rfl, (blk_cell BK564.out 0).trans rfl, (blk_cell BK564.out 1).trans rfl, (blk_cell BK564.out 2).trans rfl⟩ (fun hHeld => ?_)
          clear hK K
          refine norm_ (a' := ?_) ?_ ?_
          rotate_left
          ·show Act.put _ (some 128) _ = _
           simp only [Act.put, List.setIfInBounds_toArray, List.set_cons_zero, List.set_cons_succ, i64_w, i32_w]
           rfl
          refine pu_ 18 129 HT_ ?_
          refine pu_ 19 130 HT_ ?_
          refine done_ (done_of HT_.out B16x16_) ?_
          try go_wp2
          go_meet
          case rel => exact ⟨_, ((t587 != t588)), (be_), H', ⟨B16x24_⟩, ⟨B16x2_⟩, ⟨B16x3_⟩, ⟨B16x4_⟩, ⟨B16x6_⟩, ⟨B16x7_⟩, ⟨B16x8_⟩, ⟨B16x0_⟩⟩
         ·rw [if_neg c91] at H
          have c91b0 := beq_eq_false_iff_ne.mpr c91
          have c91b1 := bne_iff_ne.mpr c91
          have H' := Aside0.mk H
          clear H
          try go_wp2
          replace HO_564002 := Aside0.mk (Kd.R_drew HO_564002.out)
          replace HO_565002 := Aside0.mk (Kd.R_drew HO_565002.out)
          replace HO_576002 := Aside0.mk (Kd.R_drew HO_576002.out)
          replace BK563 := Aside0.mk (blk_drew BK563.out)
          replace BK564 := Aside0.mk (blk_drew BK564.out)
          replace BK575 := Aside0.mk (blk_drew BK575.out)
          replace HB := Aside0.mk (below_drew1 HB.out)
          refine start_ (n := 20) (S := fun w' => w'.cell? ⟨gb563, 0, none⟩ = some (.int .i64 t553) ∧ w'.cell? ⟨gb563, 1, none⟩ = some (.int .i64 t554) ∧ w'.cell? ⟨gb563, 2, none⟩ = some (.slice Ao18 t555.length co18) ∧ w'.cell? ⟨gb564, 0, none⟩ = some (.int .i64 t558) ∧ w'.cell? ⟨gb564, 1, none⟩ = some (.int .i64 t559) ∧ w'.cell? ⟨gb564, 2, none⟩ = some (.slice Ao20 t560.length co20)) (ds := []) #[false, false, false, false, false, false, false, false, false, false, false, false, false, false, false, false, false, false, false, false] B16x16_ rfl rfl ⟨(blk_cell BK563.out 0).trans rfl, (blk_cell BK563.out 1).trans rfl, (blk_cell BK563.out 2).trans rfl, (blk_cell BK564.out 0).trans rfl, (blk_cell BK564.out 1).trans rfl, (blk_cell BK564.out 2).trans rfl⟩ (fun hHeld => ?_); refine with_tabW laws_FnLogs.tab18 laws_FnLogs.bits18 (fun HT_ HW_ => ?_)
          generalize w87.drew = w99 at HO_564002 HO_565002 HO_576002 BK563 BK564 BK575 HB hHeld ⊢
          refine pu_ 0 111 HT_ ?_
          refine ta_ 1 112 HT_ HW_ hHeld ?_
          refine ta_ 2 113 HT_ HW_ hHeld ?_
          refine one_ (i := 3) (N := some 114) #[true, true, true, true, false, false, false, false, false, false, false, false, false, false, false, false, false, false, false, false] rfl rfl (one_of HT_.out B16x16_) (by decide) (fun K hK => ?_)
          refine goes_ Try.func20 B16x16_ rfl #[.agg #[.int .i64 t553, .int .i64 t554, .slice Ao18 t555.length co18], .agg #[.int .i64 t558, .int .i64 t559, .slice Ao20 t560.length co20]] (by rfl) rfl rfl B16x1_ ?_
          with_reducible refine (spec_Shared.calls k2 t553 t554 _ _ t555 t558 t559 _ _ t560 t585 _ ?side1 ?side2 ?side3 ?side4 A88.out).mono ?_
          (case side1 => exact B16x5_)
          (case side2 => exact (Kd.R_reads' HO_564002.out).2.1)
          (case side3 => exact B16x12_)
          (case side4 => exact (Kd.R_reads' HO_565002.out).2.1)
          rintro e w100 ⟨rfl, hb⟩
          refine ⟨_, rfl, ?_⟩
          replace HO_564002 := Aside0.mk (Kd.R_below B16x2_ hb)
          replace HO_565002 := Aside0.mk (Kd.R_below B16x3_ hb)
          replace HO_576002 := Aside0.mk (Kd.R_below B16x4_ hb)
          replace BK563 := Aside0.mk (bb BK563.out hb)
          replace BK564 := Aside0.mk (bb BK564.out hb)
          replace BK575 := Aside0.mk (bb BK575.out hb)
          replace HB := Aside0.mk (below_step B16x0_ hb)
          (try clear hb)
          (try clear hb2)
          (try clear hk)
          (try clear hi)
          refine hK.out _ _ ⟨(blk_cell BK563.out 0).trans rfl, (blk_cell BK563.out 1).trans rfl, (blk_cell BK563.out 2).trans rfl, (blk_cell BK564.out 0).trans rfl, (blk_cell BK564.out 1).trans rfl, (blk_cell BK564.out 2).trans rfl⟩ (fun hHeld => ?_)
          clear hK K
          refine norm_ (a' := ?_) ?_ ?_
          rotate_left
          ·show Act.put _ (some 114) _ = _
           simp only [Act.put, List.setIfInBounds_toArray, List.set_cons_zero, List.set_cons_succ, i64_w, i32_w]
           rfl
          refine pu_ 4 115 HT_ ?_
          refine pu_ 5 116 HT_ ?_
          refine pu_ 6 117 HT_ ?_
          refine ta_ 7 118 HT_ HW_ hHeld ?_
          refine ta_ 8 119 HT_ HW_ hHeld ?_
          refine one_ (i := 9) (N := some 120) #[true, true, true, true, true, true, true, true, true, true, false, false, false, false, false, false, false, false, false, false] rfl rfl (one_of HT_.out B16x16_) (by decide) (fun K hK => ?_)
          refine goes_ Try.func19 B16x16_ rfl #[.agg #[.int .i64 t558, .int .i64 t559, .slice Ao20 t560.length co20], .agg #[.int .i64 t553, .int .i64 t554, .slice Ao18 t555.length co18]] (by rfl) rfl rfl B16x1_ ?_
          with_reducible refine (impl_Shared.calls k2 t558 t559 _ _ t560 t553 t554 _ _ t555 t586 _ ?side1 ?side2 ?side3 ?side4 A90.out).mono ?_
          (case side1 => exact B16x12_)
          (case side2 => exact (Kd.R_reads' HO_565002.out).2.1)
          (case side3 => exact B16x5_)
          (case side4 => exact (Kd.R_reads' HO_564002.out).2.1)
          rintro e w101 ⟨rfl, hb⟩
          refine ⟨_, rfl, ?_⟩
          replace HO_564002 := Aside0.mk (Kd.R_below B16x2_ hb)
          replace HO_565002 := Aside0.mk (Kd.R_below B16x3_ hb)
          replace HO_576002 := Aside0.mk (Kd.R_below B16x4_ hb)
          replace BK563 := Aside0.mk (bb BK563.out hb)
          replace BK564 := Aside0.mk (bb BK564.out hb)
          replace BK575 := Aside0.mk (bb BK575.out hb)
          replace HB := Aside0.mk (below_step B16x0_ hb)
          (try clear hb)
          (try clear hb2)
          (try clear hk)
          (try clear hi)
          refine hK.out _ _ ⟨(blk_cell BK563.out 0).trans rfl, (blk_cell BK563.out 1).trans rfl, (blk_cell BK563.out 2).trans rfl, (blk_cell BK564.out 0).trans rfl, (blk_cell BK564.out 1).trans rfl, (blk_cell BK564.out 2).trans rfl⟩ (fun hHeld => ?_)
          clear hK K
          refine norm_ (a' := ?_) ?_ ?_
          rotate_left
          ·show Act.put _ (some 120) _ = _
           simp only [Act.put, List.setIfInBounds_toArray, List.set_cons_zero, List.set_cons_succ, i64_w, i32_w]
           rfl
          refine pu_ 10 121 HT_ ?_
          refine pu_ 11 122 HT_ ?_
          refine pu_ 12 123 HT_ ?_
          refine of_ 13 124 HT_ ?_
          refine of_ 14 125 HT_ ?_
          refine of_ 15 126 HT_ ?_
          refine of_ 16 127 HT_ ?_
          refine of_ 17 128 HT_ ?_
          refine of_ 18 129 HT_ ?_
          refine pu_ 19 130 HT_ ?_
          refine done_ (done_of HT_.out B16x16_) ?_
          try go_wp2
          go_meet
          case rel => exact ⟨_, (true), (be_), H', ⟨B16x24_⟩, ⟨B16x2_⟩, ⟨B16x3_⟩, ⟨B16x4_⟩, ⟨B16x6_⟩, ⟨B16x7_⟩, ⟨B16x8_⟩, ⟨B16x0_⟩⟩
        ·rw [if_neg c89] at H
         have c89b0 := beq_eq_false_iff_ne.mpr c89
         have c89b1 := bne_iff_ne.mpr c89
         (first | rw [c89b0] | (simp only [i64_w, i32_w]; rw [c89b0]) | skip)
         have H' := Aside0.mk H
         clear H
         try go_wp2
         replace HO_564002 := Aside0.mk (Kd.R_drew HO_564002.out)
         replace HO_565002 := Aside0.mk (Kd.R_drew HO_565002.out)
         replace HO_576002 := Aside0.mk (Kd.R_drew HO_576002.out)
         replace BK563 := Aside0.mk (blk_drew BK563.out)
         replace BK564 := Aside0.mk (blk_drew BK564.out)
         replace BK575 := Aside0.mk (blk_drew BK575.out)
         replace HB := Aside0.mk (below_drew1 HB.out)
         refine start_ (n := 20) (S := fun w' => w'.cell? ⟨gb563, 0, none⟩ = some (.int .i64 t553) ∧ w'.cell? ⟨gb563, 1, none⟩ = some (.int .i64 t554) ∧ w'.cell? ⟨gb563, 2, none⟩ = some (.slice Ao18 t555.length co18) ∧ w'.cell? ⟨gb564, 0, none⟩ = some (.int .i64 t558) ∧ w'.cell? ⟨gb564, 1, none⟩ = some (.int .i64 t559) ∧ w'.cell? ⟨gb564, 2, none⟩ = some (.slice Ao20 t560.length co20)) (ds := []) #[false, false, false, false, false, false, false, false, false, false, false, false, false, false, false, false, false, false, false, false] B16x16_ rfl rfl ⟨(blk_cell BK563.out 0).trans rfl, (blk_cell BK563.out 1).trans rfl, (blk_cell BK563.out 2).trans rfl, (blk_cell BK564.out 0).trans rfl, (blk_cell BK564.out 1).trans rfl, (blk_cell BK564.out 2).trans rfl⟩ (fun hHeld => ?_); refine with_tabW laws_FnLogs.tab18 laws_FnLogs.bits18 (fun HT_ HW_ => ?_)
         generalize w87.drew = w102 at HO_564002 HO_565002 HO_576002 BK563 BK564 BK575 HB hHeld ⊢
         refine pu_ 0 111 HT_ ?_
         refine ta_ 1 112 HT_ HW_ hHeld ?_
         refine ta_ 2 113 HT_ HW_ hHeld ?_
         refine one_ (i := 3) (N := some 114) #[true, true, true, true, false, false, false, false, false, false, false, false, false, false, false, false, false, false, false, false] rfl rfl (one_of HT_.out B16x16_) (by decide) (fun K hK => ?_)
         refine goes_ Try.func20 B16x16_ rfl #[.agg #[.int .i64 t553, .int .i64 t554, .slice Ao18 t555.length co18], .agg #[.int .i64 t558, .int .i64 t559, .slice Ao20 t560.length co20]] (by rfl) rfl rfl B16x1_ ?_
         with_reducible refine (spec_Shared.calls k2 t553 t554 _ _ t555 t558 t559 _ _ t560 t585 _ ?side1 ?side2 ?side3 ?side4 A88.out).mono ?_
         (case side1 => exact B16x5_)
         (case side2 => exact (Kd.R_reads' HO_564002.out).2.1)
         (case side3 => exact B16x12_)
         (case side4 => exact (Kd.R_reads' HO_565002.out).2.1)
         rintro e w103 ⟨rfl, hb⟩
         refine ⟨_, rfl, ?_⟩
         replace HO_564002 := Aside0.mk (Kd.R_below B16x2_ hb)
         replace HO_565002 := Aside0.mk (Kd.R_below B16x3_ hb)
         replace HO_576002 := Aside0.mk (Kd.R_below B16x4_ hb)
         replace BK563 := Aside0.mk (bb BK563.out hb)
         replace BK564 := Aside0.mk (bb BK564.out hb)
         replace BK575 := Aside0.mk (bb BK575.out hb)
         replace HB := Aside0.mk (below_step B16x0_ hb)
         (try clear hb)
         (try clear hb2)
         (try clear hk)
         (try clear hi)
         refine hK.out _ _ ⟨(blk_cell BK563.out 0).trans rfl, (blk_cell BK563.out 1).trans rfl, (blk_cell BK563.out 2).trans rfl, (blk_cell BK564.out 0).trans rfl, (blk_cell BK564.out 1).trans rfl, (blk_cell BK564.out 2).trans rfl⟩ (fun hHeld => ?_)
         clear hK K
         refine norm_ (a' := ?_) ?_ ?_
         rotate_left
         ·show Act.put _ (some 114) _ = _
          simp only [Act.put, List.setIfInBounds_toArray, List.set_cons_zero, List.set_cons_succ, i64_w, i32_w]
          rfl
         refine pu_ 4 115 HT_ ?_
         refine pu_ 5 116 HT_ ?_
         refine of_ 6 117 HT_ ?_
         refine of_ 7 118 HT_ ?_
         refine of_ 8 119 HT_ ?_
         refine of_ 9 120 HT_ ?_
         refine of_ 10 121 HT_ ?_
         refine pu_ 11 122 HT_ ?_
         refine pu_ 12 123 HT_ ?_
         refine of_ 13 124 HT_ ?_
         refine of_ 14 125 HT_ ?_
         refine of_ 15 126 HT_ ?_
         refine of_ 16 127 HT_ ?_
         refine of_ 17 128 HT_ ?_
         refine of_ 18 129 HT_ ?_
         refine pu_ 19 130 HT_ ?_
         refine done_ (done_of HT_.out B16x16_) ?_
         try go_wp2
         go_meet
         case rel => exact ⟨_, (true), (be_), H', ⟨B16x24_⟩, ⟨B16x2_⟩, ⟨B16x3_⟩, ⟨B16x4_⟩, ⟨B16x6_⟩, ⟨B16x7_⟩, ⟨B16x8_⟩, ⟨B16x0_⟩⟩
       case rest =>
        clear HC79
        obtain ⟨kq, x130_78, rfl, HA, HJ78, HO_564002, HO_565002, HO_576002, BK563, BK564, BK575, HB⟩ := hcut
        cases kq with
        | zero => exact absurd HA.out (by simp [laws_FnLogs.j2])
        | succ kj78 =>
         have H := HA.out
         clear HA
         simp only [laws_FnLogs.j2] at H
         by_cases c104 : x130_78 = true
         ·subst c104
          rw [if_pos rfl] at H
          exact absurd ((Option.some.inj H).trans hr_.out) (by decide)
         replace c104 := Bool.eq_false_iff.mpr c104
         subst c104
         rw [if_neg (show ¬ (false = true) by decide)] at H
         have H' := Aside0.mk H
         clear H
         have hnb105 := NB563_564.out
         have hnc105 := NB564_563.out
         have hnb106 := NB563_575.out
         have hnc106 := NB575_563.out
         obtain ⟨hcz107_0, hcz107_1, hcz107_2⟩ := cl3 BK563.out
         obtain ⟨hfz107_0, hfz107_1, hfz107_2⟩ := fr3 BK563.out
         go_wp2
         go_loopg [15] kj78 (fun kq v15 w' => ∃ (x15_4 : Int), v15 = .int .i64 x15_4 ∧ Aside0 (laws_FnLogs.l1 kq t584 x15_4 t553 t554 t555 t558 t559 t560 = some r) ∧ Aside0 (kq ≤ kj78) ∧ Aside0 (Kd.R k28 28 w' w.heap.size (fun k_ => some k_ ≠ ((.slice Ao20 t560.length co20) : Value).ownBlock ∧ some k_ ≠ ((.slice Ao32 t572.length co32) : Value).ownBlock) (.slice Ao18 t555.length co18) t555) ∧ Aside0 (Kd.R k28 28 w' w.heap.size (fun k_ => some k_ ≠ ((.slice Ao18 t555.length co18) : Value).ownBlock ∧ some k_ ≠ ((.slice Ao32 t572.length co32) : Value).ownBlock) (.slice Ao20 t560.length co20) t560) ∧ Aside0 (Kd.R k28 28 w' w.heap.size (fun k_ => some k_ ≠ ((.slice Ao18 t555.length co18) : Value).ownBlock ∧ some k_ ≠ ((.slice Ao20 t560.length co20) : Value).ownBlock) (.slice Ao32 t572.length co32) t572) ∧ Aside0 (w'.heap[gb563]? = some (.cells #[.int .i64 t553, .int .i64 t554, (.slice Ao18 t555.length co18)] 26 (0, 0))) ∧ Aside0 (w'.heap[gb564]? = some (.cells #[.int .i64 t558, .int .i64 t559, (.slice Ao20 t560.length co20)] 26 (0, 0))) ∧ Aside0 (w'.heap[gb575]? = some (.cells #[.int .i64 t570, .int .i64 t571, (.slice Ao32 t572.length co32)] 26 (0, 0))) ∧ Aside0 (Below w.heap.size w w'))
         case atStart => exact ⟨(wrap64 (t553 + 1)), (be_), H', ⟨Nat.le_refl _⟩, ⟨B16x2_⟩, ⟨B16x3_⟩, ⟨B16x4_⟩, ⟨B16x6_⟩, ⟨B16x7_⟩, ⟨B16x8_⟩, ⟨B16x0_⟩⟩
         case round =>
          clear H'
          try clear c104
          try clear hcz107_0
          try clear hcz107_1
          try clear hcz107_2
          try clear hfz107_0
          try clear hfz107_1
          try clear hfz107_2
          obtain ⟨x15_4, rfl, HA, HK4, HO_564002, HO_565002, HO_576002, BK563, BK564, BK575, HB⟩ := hrel
          cases gk with
          | zero => exact absurd HA.out (by simp [laws_FnLogs.l1])
          | succ k4 =>
           have H := HA.out
           clear HA
           simp only [laws_FnLogs.l1] at H
           by_cases c108 : x15_4 ≤ t584
           ·rw [if_pos c108] at H
            have c108b0 : decide (x15_4 ≤ t584) = true := decide_eq_true c108
            clear c108
            by_cases c109 : x15_4 > t558
            ·rw [if_pos c109] at H
             have c109b0 : decide (t558 < x15_4) = true := decide_eq_true c109
             clear c109
             replace H := bsi H
             obtain ⟨t590, A110, H⟩ := H
             (try dsimp only at H)
             replace H := bsi H
             obtain ⟨t591, A111, H⟩ := H
             (try dsimp only at H)
             by_cases c112 : t590 = t591
             rotate_left
             ·rw [if_neg c112] at H
              have c112b0 := beq_eq_false_iff_ne.mpr c112
              have c112b1 := bne_iff_ne.mpr c112
              exact absurd ((Option.some.inj H).trans hr_.out) (by decide)
             rw [if_pos c112] at H
             have c112b0 := beq_iff_eq.mpr c112
             have c112b1 := bne_eq_false_iff_eq.mpr c112
             clear c112
             have H' := Aside0.mk H
             clear H
             try go_wp2
             replace HO_564002 := Aside0.mk (Kd.R_drew HO_564002.out)
             replace HO_565002 := Aside0.mk (Kd.R_drew HO_565002.out)
             replace HO_576002 := Aside0.mk (Kd.R_drew HO_576002.out)
             replace BK563 := Aside0.mk (blk_drew BK563.out)
             replace BK564 := Aside0.mk (blk_drew BK564.out)
             replace BK575 := Aside0.mk (blk_drew BK575.out)
             replace HB := Aside0.mk (below_drew1 HB.out)
             refine start_ (n := 13) (S := fun w' => w'.cell? ⟨gb564, 0, none⟩ = some (.int .i64 t558) ∧ w'.cell? ⟨gb564, 1, none⟩ = some (.int .i64 t559) ∧ w'.cell? ⟨gb564, 2, none⟩ = some (.slice Ao20 t560.length co20) ∧ w'.cell? ⟨gb563, 0, none⟩ = some (.int .i64 t553) ∧ w'.cell? ⟨gb563, 1, none⟩ = some (.int .i64 t554) ∧ w'.cell? ⟨gb563, 2, none⟩ = some (.slice Ao18 t555.length co18)) (ds := []) #[false, false, false, false, false, false, false, false, false, false, false, false, false] B16x16_ rfl rfl ⟨(blk_cell BK564.out 0).trans rfl, (blk_cell BK564.out 1).trans rfl, (blk_cell BK564.out 2).trans rfl, (blk_cell BK563.out 0).trans rfl, (blk_cell BK563.out 1).trans rfl, (blk_cell BK563.out 2).trans rfl⟩ (fun hHeld => ?_); refine with_tabW laws_FnLogs.tab23 laws_FnLogs.bits23 (fun HT_ HW_ => ?_)
             generalize wr.drew = w113 at HO_564002 HO_565002 HO_576002 BK563 BK564 BK575 HB hHeld ⊢
             refine pu_ 0 139 HT_ ?_
             refine pu_ 1 140 HT_ ?_
             refine ta_ 2 141 HT_ HW_ hHeld ?_
             refine pu_ 3 142 HT_ ?_
             refine pu_ 4 143 HT_ ?_
             refine pu_ 6 145 HT_ ?_
             refine pu_ 9 148 HT_ ?_
             refine ta_ 5 144 HT_ HW_ hHeld ?_
             refine ta_ 8 147 HT_ HW_ hHeld ?_
             refine one_ (i := 7) (N := some 146) #[true, true, true, true, true, true, true, true, true, true, false, false, false] rfl rfl (one_of HT_.out B16x16_) (by decide) (fun K hK => ?_)
             refine goes_ Try.func15 B16x16_ rfl #[.agg #[.int .i64 t553, .int .i64 t554, .slice Ao18 t555.length co18], .int .i64 x15_4] (by rfl) rfl rfl B16x1_ ?_
             with_reducible refine (impl_LogTerm.calls t553 t554 _ _ t555 x15_4 t590 _ ?side1 ?side2 A110.out).mono ?_
             (case side1 => exact B16x5_)
             (case side2 => exact (Kd.R_reads' HO_564002.out).2.1)
             rintro e w114 ⟨rfl, hb⟩
             refine ⟨_, rfl, ?_⟩
             replace HO_564002 := Aside0.mk (Kd.R_below B16x2_ hb)
             replace HO_565002 := Aside0.mk (Kd.R_below B16x3_ hb)
             replace HO_576002 := Aside0.mk (Kd.R_below B16x4_ hb)
             replace BK563 := Aside0.mk (bb BK563.out hb)
             replace BK564 := Aside0.mk (bb BK564.out hb)
             replace BK575 := Aside0.mk (bb BK575.out hb)
             replace HB := Aside0.mk (below_step B16x0_ hb)
             (try clear hb)
             (try clear hb2)
             (try clear hk)
             (try clear hi)
             refine hK.out _ _ ⟨(blk_cell BK564.out 0).trans rfl, (blk_cell BK564.out 1).trans rfl, (blk_cell BK564.out 2).trans rfl, (blk_cell BK563.out 0).trans rfl, (blk_cell BK563.out 1).trans rfl, (blk_cell BK563.out 2).trans rfl⟩ (fun hHeld => ?_)
             clear hK K
             refine norm_ (a' := ?_) ?_ ?_
             rotate_left
             ·show Act.put _ (some 146) _ = _
              simp only [Act.put, List.setIfInBounds_toArray, List.set_cons_zero, List.set_cons_succ, i64_w, i32_w]
              rfl
             refine one_ (i := 10) (N := some 149) #[true, true, true, true, true, true, true, true, true, true, true, false, false] rfl rfl (one_of HT_.out B16x16_) (by decide) (fun K hK => ?_)
             refine goes_ Try.func15 B16x16_ rfl #[.agg #[.int .i64 t558, .int .i64 t559, .slice Ao20 t560.length co20], .int .i64 x15_4] (by rfl) rfl rfl B16x1_ ?_
             with_reducible refine (impl_LogTerm.calls t558 t559 _ _ t560 x15_4 t591 _ ?side1 ?side2 A111.out).mono ?_
             (case side1 => exact B16x12_)
             (case side2 => exact (Kd.R_reads' HO_565002.out).2.1)
             rintro e w115 ⟨rfl, hb⟩
             refine ⟨_, rfl, ?_⟩
             replace HO_564002 := Aside0.mk (Kd.R_below B16x2_ hb)
             replace HO_565002 := Aside0.mk (Kd.R_below B16x3_ hb)
             replace HO_576002 := Aside0.mk (Kd.R_below B16x4_ hb)
             replace BK563 := Aside0.mk (bb BK563.out hb)
             replace BK564 := Aside0.mk (bb BK564.out hb)
             replace BK575 := Aside0.mk (bb BK575.out hb)
             replace HB := Aside0.mk (below_step B16x0_ hb)
             (try clear hb)
             (try clear hb2)
             (try clear hk)
             (try clear hi)
             refine hK.out _ _ ⟨(blk_cell BK564.out 0).trans rfl, (blk_cell BK564.out 1).trans rfl, (blk_cell BK564.out 2).trans rfl, (blk_cell BK563.out 0).trans rfl, (blk_cell BK563.out 1).trans rfl, (blk_cell BK563.out 2).trans rfl⟩ (fun hHeld => ?_)
             clear hK K
             refine norm_ (a' := ?_) ?_ ?_
             rotate_left
             ·show Act.put _ (some 149) _ = _
              simp only [Act.put, List.setIfInBounds_toArray, List.set_cons_zero, List.set_cons_succ, i64_w, i32_w]
              rfl
             refine pu_ 11 150 HT_ ?_
             refine pu_ 12 151 HT_ ?_
             refine done_ (done_of HT_.out B16x16_) ?_
             try go_wp2
             go_roundg k4
             case measure => have := HJ11.out; have := HK2.out; have := HJ78.out; have := HK4.out; omega
             case rel => exact ⟨(wrap64 (x15_4 + 1)), (be_), H', ⟨B16x27_⟩, ⟨B16x2_⟩, ⟨B16x3_⟩, ⟨B16x4_⟩, ⟨B16x6_⟩, ⟨B16x7_⟩, ⟨B16x8_⟩, ⟨B16x0_⟩⟩
            ·rw [if_neg c109] at H
             have c109b0 : decide (t558 < x15_4) = false := decide_eq_false c109
             clear c109
             have H' := Aside0.mk H
             clear H
             try go_wp2
             replace HO_564002 := Aside0.mk (Kd.R_drew HO_564002.out)
             replace HO_565002 := Aside0.mk (Kd.R_drew HO_565002.out)
             replace HO_576002 := Aside0.mk (Kd.R_drew HO_576002.out)
             replace BK563 := Aside0.mk (blk_drew BK563.out)
             replace BK564 := Aside0.mk (blk_drew BK564.out)
             replace BK575 := Aside0.mk (blk_drew BK575.out)
             replace HB := Aside0.mk (below_drew1 HB.out)
             refine start_ (n := 13) (S := fun w' => w'.cell? ⟨gb564, 0, none⟩ = some (.int .i64 t558) ∧ w'.cell? ⟨gb564, 1, none⟩ = some (.int .i64 t559) ∧ w'.cell? ⟨gb564, 2, none⟩ = some (.slice Ao20 t560.length co20)) (ds := []) #[false, false, false, false, false, false, false, false, false, false, false, false, false] B16x16_ rfl rfl ⟨(blk_cell BK564.out 0).trans rfl, (blk_cell BK564.out 1).trans rfl, (blk_cell BK564.out 2).trans rfl⟩ (fun hHeld => ?_); refine with_tabW laws_FnLogs.tab23 laws_FnLogs.bits23 (fun HT_ HW_ => ?_)
             generalize wr.drew = w116 at HO_564002 HO_565002 HO_576002 BK563 BK564 BK575 HB hHeld ⊢
             refine pu_ 0 139 HT_ ?_
             refine pu_ 1 140 HT_ ?_
             refine ta_ 2 141 HT_ HW_ hHeld ?_
             refine pu_ 3 142 HT_ ?_
             refine pu_ 4 143 HT_ ?_
             refine of_ 5 144 HT_ ?_
             refine of_ 6 145 HT_ ?_
             refine of_ 7 146 HT_ ?_
             refine of_ 8 147 HT_ ?_
             refine of_ 9 148 HT_ ?_
             refine of_ 10 149 HT_ ?_
             refine of_ 11 150 HT_ ?_
             refine pu_ 12 151 HT_ ?_
             refine done_ (done_of HT_.out B16x16_) ?_
             try go_wp2
             go_roundg k4
             case measure => have := HJ11.out; have := HK2.out; have := HJ78.out; have := HK4.out; omega
             case rel => exact ⟨(wrap64 (x15_4 + 1)), (be_), H', ⟨B16x27_⟩, ⟨B16x2_⟩, ⟨B16x3_⟩, ⟨B16x4_⟩, ⟨B16x6_⟩, ⟨B16x7_⟩, ⟨B16x8_⟩, ⟨B16x0_⟩⟩
           ·rw [if_neg c108] at H
            have c108b0 : decide (x15_4 ≤ t584) = false := decide_eq_false c108
            clear c108
            replace H := bsi H
            obtain ⟨t589, A117, H⟩ := H
            (try dsimp only at H)
            obtain rfl := Option.some.inj H
            have hnb118 := NB563_564.out
            have hnc118 := NB564_563.out
            have hnb119 := NB563_575.out
            have hnc119 := NB575_563.out
            obtain ⟨hcz120_0, hcz120_1, hcz120_2⟩ := cl3 BK563.out
            obtain ⟨hfz120_0, hfz120_1, hfz120_2⟩ := fr3 BK563.out
            go_wp2_with (first | ((with_reducible refine gate_callee (f := 11) rfl ?_); refine goesL_ (some 154) rfl rfl Try.func11 B16x16_ rfl #[.agg #[.int .i64 t553, .int .i64 t554, .slice Ao18 t555.length co18]] rfl B16x1_ ?_; (with_reducible refine (laws_last.calls t553 t554 _ _ t555 t589 _ ?side1 ?side2 A117.out).mono ?_); (case side1 => exact B16x5_); (case side2 => exact (Kd.R_reads' HO_564002.out).2.1); rintro e w121 ⟨rfl, hb⟩; refine ⟨_, rfl, ?_⟩; replace HO_564002 := Aside0.mk (Kd.R_below B16x2_ hb); replace HO_565002 := Aside0.mk (Kd.R_below B16x3_ hb); replace HO_576002 := Aside0.mk (Kd.R_below B16x4_ hb); replace BK563 := Aside0.mk (bb BK563.out hb); replace BK564 := Aside0.mk (bb BK564.out hb); replace BK575 := Aside0.mk (bb BK575.out hb); replace HB := Aside0.mk (below_step B16x0_ hb); (try clear hb)))
            go_ret
            exact ⟨B16x25_, B16x0_⟩

/-- THE ONE PURE STATEMENT of laws_FnLogs: yours. -/
def laws_FnLogs.Pure : Prop := ∀ (l0 : List Int), l0.length ≤ maxLen → l0.length * 1 ≤ 140737488351232 → (∀ x ∈ l0, (Lit.int .u8 x).wf = true) → ∃ k, laws_FnLogs.f k l0 = some true
theorem laws_FnLogs.walk (P : laws_FnLogs.Pure) (a0 : Option Addr) (len0 cap0 : Nat) (z0 : List Int) (w : World) (w0 : (a0 = none ∧ len0 = 0 ∧ cap0 = 0 ∧ z0 = []) ∨ ∃ x, a0 = some x ∧ len0 ≤ cap0 ∧ cap0 ≤ maxLen ∧ z0.length = cap0 ∧ (∀ i, i < z0.length → w.cell? (x.add i) = some (.int .u8 (z0.getD i 0))) ∧ ∀ n ∈ z0, (Lit.int .u8 n).wf = true) (y0 : len0 * 1 ≤ 140737488351232) :
  Calls Try.prog 4 #[.slice a0 len0 cap0] w fun e w' => e = .returned (.bool true) ∧ Below w.heap.size w w' := by
 obtain ⟨l0, rfl, hr0, hm0, hw0, hc0⟩ := ReadsInt.ofRowC w0
 obtain ⟨k, h⟩ := P l0 hm0 y0 hw0
 refine (laws_FnLogs.calls k _ _ l0 true w (Kd.C_of_reads (d := (0 : Int)) (h1 := fun _ => rfl) hr0) hc0 h ⟨rfl⟩).mono ?_
 rintro e w' ⟨rfl, hd⟩
 exact ⟨rfl, hd⟩

end Go.Proofs.Ytgffdijodnpolaa.QFnLogs
