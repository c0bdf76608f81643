/- Functions that a law reaches, as functions of Lean, and the walks that show that the calls come to their answers: written by a program of this project out of the translation. No condition. -/
import Derived.Test.YtgffdijodnpolaaQFnPutsx0
import Derived.Test.YtgffdijodnpolaaQFnPutsx1
import Derived.Test.YtgffdijodnpolaaQFnPutsx2
import Derived.Test.YtgffdijodnpolaaQFnPutsx10
import Derived.Test.YtgffdijodnpolaaQFnPutsx12
import Derived.Test.YtgffdijodnpolaaQFnPutsx13
import Derived.Test.YtgffdijodnpolaaQFnPutsx14
import Derived.Test.YtgffdijodnpolaaQFnPutsx15
import Derived.Test.YtgffdijodnpolaaVFnPutsShort4
import Derived.Test.YtgffdijodnpolaaVFnPutshort3
import Derived.Test.YtgffdijodnpolaaVFnPutsShort2
import Derived.Test.YtgffdijodnpolaaVFnPutsShort
namespace Go.Proofs.Ytgffdijodnpolaa.QFnPuts
open Go.RowKit Go.Proofs.YtgffdijodnpolaaW.PrintWords Go.Proofs.YtgffdijodnpolaaW.PrintLast Go.Proofs.YtgffdijodnpolaaW.PrintMore Go.Proofs.Ytgffdijodnpolaa.Short
attribute [local go_sem] max2_int min2_int max_two min_two max_three min_three max_four min_four   -- for this text's walks alone
set_option linter.unusedVariables false
set_option linter.unusedSimpArgs false

attribute [local go_sem high] eqA28
theorem B16x0_ {p : Prop} (h : p := by repeat (first | (with_reducible first | exact HB.out | apply below_alloc | apply pw_below_drewN | apply below_drew1 | refine below_set ?_ GE605.out | refine below_set ?_ GE606.out | refine below_set ?_ GE613.out | refine below_set ?_ GE620.out) | exact HB.out)) : p := h
theorem B16x1_ {p : Prop} (h : p := by (try simp only [List.map_toArray, List.map_cons, List.map_nil]); first | done | rfl | (simp only [List.length_drop, List.length_take]; rfl)) : p := h
theorem B16x2_ {p : Prop} (h : p := by (with_reducible repeat (first | apply Kd.R_alloc | apply Kd.R_drewN | apply Kd.R_drew)); exact (Kd.R_mono (Kd.R_mono (Kd.R_far (p := ⟨gb606, 2, none⟩) (Kd.R_far (p := ⟨gb606, 1, none⟩) (Kd.R_far (p := ⟨gb606, 0, none⟩) (Kd.R_far (p := ⟨gb605, 2, none⟩) (Kd.R_far (p := ⟨gb605, 1, none⟩) (Kd.R_far (p := ⟨gb605, 0, none⟩) (Kd.R_mono (Kd.R_types HO600.out BK605.out (by decide)) (fun k_ hk => (⟨hk, hk.1.2⟩ : _ ∧ k_ ≠ gb606))) (fun _ hk => hk.1.2) (.int .i64 t596)) (fun _ hk => hk.1.2) (.int .i64 t597)) (fun _ hk => hk.1.2) (.slice Ao15 t598.length co15)) (fun _ hk => hk.2) (.int .i64 t602)) (fun _ hk => hk.2) (.int .i64 t603)) (fun _ hk => hk.2) (.string t604)) (fun _ h_ => h_.1)) (fun _ h_ => h_.1))) : p := h
theorem B16x3_ {p : Prop} (h : p := by (with_reducible repeat (first | apply Kd.R_alloc | apply Kd.R_drewN | apply Kd.R_drew)); exact (Kd.R_mono (Kd.R_mono (Kd.R_far (p := ⟨gb606, 2, none⟩) (Kd.R_far (p := ⟨gb606, 1, none⟩) (Kd.R_far (p := ⟨gb606, 0, none⟩) (Kd.R_far (p := ⟨gb605, 2, none⟩) (Kd.R_far (p := ⟨gb605, 1, none⟩) (Kd.R_far (p := ⟨gb605, 0, none⟩) (Kd.R_mono (Kd.R_types HO600.out BK605.out (by decide)) (fun k_ hk => (⟨hk, hk.1.2⟩ : _ ∧ k_ ≠ gb606))) (fun _ hk => hk.1.2) (.int .i64 t596)) (fun _ hk => hk.1.2) (.int .i64 t597)) (fun _ hk => hk.1.2) (.slice Ao69 t598.length co69)) (fun _ hk => hk.2) (.int .i64 t602)) (fun _ hk => hk.2) (.int .i64 t603)) (fun _ hk => hk.2) (.string t604)) (fun _ h_ => h_.1)) (fun _ h_ => h_.1))) : p := h
theorem B16x4_ {p : Prop} (h : p := by (with_reducible repeat (first | apply Kd.R_alloc | apply Kd.R_drewN | apply Kd.R_drew)); exact HO600.out) : p := h
theorem B16x5_ {p : Prop} (h : p := by repeat (first | (with_reducible first | exact HB.out | apply below_alloc | apply pw_below_drewN | apply below_drew1 | refine below_set ?_ GE605.out | refine below_set ?_ GE606.out | refine below_set ?_ GE613.out) | exact HB.out)) : p := h
theorem B16x6_ {p : Prop} (h : p := by (with_reducible repeat (first | apply Kd.R_alloc | apply Kd.R_drewN | apply Kd.R_drew)); exact HO611.out) : p := h
theorem B16x7_ {p : Prop} (h : p := by repeat (first | (with_reducible first | exact HB.out | apply below_alloc | apply pw_below_drewN | apply below_drew1 | refine below_set ?_ GE605.out | refine below_set ?_ GE606.out) | exact HB.out)) : p := h
theorem B16x8_ {p : Prop} (h : p := by (with_reducible repeat (first | apply Kd.R_alloc | apply Kd.R_drewN | apply Kd.R_drew)); exact Kd.R_mono (Kd.R_far (p := ⟨gb620, 2, none⟩) (Kd.R_far (p := ⟨gb620, 1, none⟩) (Kd.R_far (p := ⟨gb620, 0, none⟩) (Kd.R_types HO600.out BK620.out (by decide)) (fun _ hk => hk.2) (.int .i64 t614)) (fun _ hk => hk.2) (.int .i64 t615)) (fun _ hk => hk.2) (.slice Ao31 t616.length co31)) (fun _ hk => ⟨hk.1.1.2, ⟨hk.1.2, hk.1.1.1.2⟩⟩)) : p := h
theorem B16x9_ {p : Prop} (h : p := by (with_reducible repeat (first | apply Kd.R_alloc | apply Kd.R_drewN | apply Kd.R_drew)); exact Kd.R_mono (Kd.R_far (p := ⟨gb620, 2, none⟩) (Kd.R_far (p := ⟨gb620, 1, none⟩) (Kd.R_far (p := ⟨gb620, 0, none⟩) (Kd.R_types HO611.out BK620.out (by decide)) (fun _ hk => hk.2) (.int .i64 t614)) (fun _ hk => hk.2) (.int .i64 t615)) (fun _ hk => hk.2) (.slice Ao31 t616.length co31)) (fun _ hk => ⟨hk.1.1.1.2, ⟨hk.1.2, hk.1.1.2⟩⟩)) : p := h
theorem B16x10_ {p : Prop} (h : p := by (with_reducible repeat (first | apply Kd.R_alloc | apply Kd.R_drewN | apply Kd.R_drew)); exact Kd.R_mono (Kd.R_far (p := ⟨gb620, 2, none⟩) (Kd.R_far (p := ⟨gb620, 1, none⟩) (Kd.R_far (p := ⟨gb620, 0, none⟩) (Kd.R_types HO618.out BK620.out (by decide)) (fun _ hk => hk.2) (.int .i64 t614)) (fun _ hk => hk.2) (.int .i64 t615)) (fun _ hk => hk.2) (.slice Ao31 t616.length co31)) (fun _ hk => ⟨hk.1.1.1.2, ⟨hk.1.1.2, hk.1.2⟩⟩)) : p := h
theorem B16x11_ {p : Prop} (h : p := by (repeat (with_reducible (first | exact BK606.out | apply blk_drewN | apply blk_drew | apply blk_alloc | apply blk_put | apply bf NB606_605.out))); repeat (first | exact BK606.out | (simp only [List.setIfInBounds_toArray, List.set_cons_zero, List.set_cons_succ]; with_reducible rfl) | rfl)) : p := h
theorem B16x12_ {p : Prop} (h : p := by (repeat (with_reducible (first | exact BK606.out | apply blk_drewN | apply blk_drew | apply blk_alloc | apply blk_put | apply bf NB606_613.out))); repeat (first | exact BK606.out | (simp only [List.setIfInBounds_toArray, List.set_cons_zero, List.set_cons_succ]; with_reducible rfl) | rfl)) : p := h
theorem B16x13_ {p : Prop} (h : p := by (with_reducible repeat (first | apply Kd.R_alloc | apply Kd.R_drewN | apply Kd.R_drew)); exact HO618.out) : p := h
theorem B16x14_ {p : Prop} (h : p := by (with_reducible repeat (first | apply Kd.R_alloc | apply Kd.R_drewN | apply Kd.R_drew)); exact (Kd.R_mono (Kd.R_far (p := ⟨gb613, 2, none⟩) (Kd.R_far (p := ⟨gb613, 1, none⟩) (Kd.R_far (p := ⟨gb613, 0, none⟩) (Kd.R_types HO600.out BK613.out (by decide)) (fun _ hk => hk.2) (.int .i64 t607)) (fun _ hk => hk.2) (.int .i64 t608)) (fun _ hk => hk.2) (.slice Ao22 t609.length co22)) (fun _ h_ => h_.1))) : p := h
theorem B16x15_ {p : Prop} (h : p := by (with_reducible repeat (first | apply Kd.R_alloc | apply Kd.R_drewN | apply Kd.R_drew)); exact (Kd.R_mono (Kd.R_far (p := ⟨gb613, 2, none⟩) (Kd.R_far (p := ⟨gb613, 1, none⟩) (Kd.R_far (p := ⟨gb613, 0, none⟩) (Kd.R_types HO600.out BK613.out (by decide)) (fun _ hk => hk.2) (.int .i64 t607)) (fun _ hk => hk.2) (.int .i64 t608)) (fun _ hk => hk.2) (.slice Ao76 t609.length co76)) (fun _ h_ => h_.1))) : p := h
theorem B16x16_ {p : Prop} (h : p := by repeat (first | (with_reducible first | exact HB.out | apply below_alloc | apply pw_below_drewN | apply below_drew1) | exact HB.out)) : p := h
theorem B16x17_ {p : Prop} (h : p := by repeat (first | exact HR0.out | (with_reducible refine Kd.C_alloc ?_ _) | (with_reducible refine Kd.C_drewN ?_ _) | (with_reducible refine Kd.C_drew ?_))) : p := h
theorem B16x18_ {p : Prop} (h : p := by (repeat (with_reducible (first | exact BK605.out | apply blk_drewN | apply blk_drew | apply blk_alloc | apply blk_put | apply bf NB605_620.out))); repeat (first | exact BK605.out | (simp only [List.setIfInBounds_toArray, List.set_cons_zero, List.set_cons_succ]; with_reducible rfl) | rfl)) : p := h
theorem B16x19_ {p : Prop} (h : p := by (repeat (with_reducible (first | exact BK606.out | apply blk_drewN | apply blk_drew | apply blk_alloc | apply blk_put | apply bf NB606_620.out))); repeat (first | exact BK606.out | (simp only [List.setIfInBounds_toArray, List.set_cons_zero, List.set_cons_succ]; with_reducible rfl) | rfl)) : p := h
theorem B16x20_ {p : Prop} (h : p := by (repeat (with_reducible (first | exact BK613.out | apply blk_drewN | apply blk_drew | apply blk_alloc | apply blk_put | apply bf NB613_620.out))); repeat (first | exact BK613.out | (simp only [List.setIfInBounds_toArray, List.set_cons_zero, List.set_cons_succ]; with_reducible rfl) | rfl)) : p := h
theorem B16x21_ {p : Prop} (h : p := by (repeat (with_reducible (first | exact BK620.out | apply blk_drewN | apply blk_drew | apply blk_alloc | apply blk_put))); repeat (first | exact BK620.out | (simp only [List.setIfInBounds_toArray, List.set_cons_zero, List.set_cons_succ]; with_reducible rfl) | rfl)) : p := h
theorem B16x22_ {p : Prop} (h : p := by repeat (first | exact (Kd.R_reads' HO611.out).2.2 | (with_reducible refine Kd.C_alloc ?_ _) | (with_reducible refine Kd.C_drewN ?_ _) | (with_reducible refine Kd.C_drew ?_))) : p := h
theorem B16x23_ {p : Prop} (h : p := by (with_reducible repeat (first | refine blk_drewN ?_ _ | refine blk_drew ?_ | refine blk_alloc ?_ _)); exact BK605.out) : p := h
theorem B16x24_ {p : Prop} (h : p := by (with_reducible repeat (first | refine blk_drewN ?_ _ | refine blk_drew ?_ | refine blk_alloc ?_ _)); exact BK606.out) : p := h
theorem B16x25_ {p : Prop} (h : p := by (with_reducible repeat (first | refine blk_drewN ?_ _ | refine blk_drew ?_ | refine blk_alloc ?_ _)); exact BK613.out) : p := h
theorem B16x26_ {p : Prop} (h : p := by (with_reducible repeat (first | refine blk_drewN ?_ _ | refine blk_drew ?_ | refine blk_alloc ?_ _)); exact BK620.out) : p := h
theorem B16x27_ {p : Prop} (h : p := by (with_reducible repeat (first | apply Kd.R_alloc | apply Kd.R_drewN | apply Kd.R_drew)); exact (Kd.R_mono (Kd.R_far (p := ⟨gb613, 2, none⟩) (Kd.R_far (p := ⟨gb613, 1, none⟩) (Kd.R_far (p := ⟨gb613, 0, none⟩) (Kd.R_types HO611.out BK613.out (by decide)) (fun _ hk => hk.2) (.int .i64 t607)) (fun _ hk => hk.2) (.int .i64 t608)) (fun _ hk => hk.2) (.slice Ao22 t609.length co22)) (fun _ h_ => h_.1))) : p := h
theorem B16x28_ {p : Prop} (h : p := by (with_reducible repeat (first | apply Kd.R_alloc | apply Kd.R_drewN | apply Kd.R_drew)); exact (Kd.R_mono (Kd.R_far (p := ⟨gb613, 2, none⟩) (Kd.R_far (p := ⟨gb613, 1, none⟩) (Kd.R_far (p := ⟨gb613, 0, none⟩) (Kd.R_types HO611.out BK613.out (by decide)) (fun _ hk => hk.2) (.int .i64 t607)) (fun _ hk => hk.2) (.int .i64 t608)) (fun _ hk => hk.2) (.slice Ao76 t609.length co76)) (fun _ h_ => h_.1))) : p := h
theorem B16x29_ {p : Prop} (h : p := by first | (with_reducible assumption) | assumption) : p := h
theorem B16x30_ {p : Prop} (h : p := by (repeat (with_reducible (first | exact BK605.out | apply blk_drewN | apply blk_drew | apply blk_alloc | apply blk_put | apply bf NB605_606.out))); repeat (first | exact BK605.out | (simp only [List.setIfInBounds_toArray, List.set_cons_zero, List.set_cons_succ]; with_reducible rfl) | rfl)) : p := h
theorem B16x31_ {p : Prop} (h : p := by (repeat (with_reducible (first | exact BK605.out | apply blk_drewN | apply blk_drew | apply blk_alloc | apply blk_put | apply bf NB605_613.out))); repeat (first | exact BK605.out | (simp only [List.setIfInBounds_toArray, List.set_cons_zero, List.set_cons_succ]; with_reducible rfl) | rfl)) : p := h
theorem B16x32_ {p : Prop} (h : p := by first | (go_simp; done) | (go_simp; rfl)) : p := h
theorem B16x33_ {p : Prop} (h : p := by (repeat (with_reducible (first | exact BK613.out | apply blk_drewN | apply blk_drew | apply blk_alloc | apply blk_put))); repeat (first | exact BK613.out | (simp only [List.setIfInBounds_toArray, List.set_cons_zero, List.set_cons_succ]; with_reducible rfl) | rfl)) : p := h
theorem B16x34_ {p : Prop} (h : p := by kernel_rfl) : p := h
theorem B16x35_ {p : Prop} (h : p := by first | rfl | (simp [errW_none, errW_some] <;> rfl) | (simp [*, errW_none, errW_some] <;> rfl)) : p := h
theorem B16x36_ {p : Prop} (h : p := by repeat (first | (with_reducible first | exact HB.out | apply below_alloc | apply pw_below_drewN | apply below_drew1 | refine below_set ?_ GE605.out) | exact HB.out)) : p := h
theorem B16x37_ {p : Prop} (h : p := by (with_reducible repeat (first | apply Kd.R_alloc | apply Kd.R_drewN | apply Kd.R_drew)); exact HO_606002.out) : p := h
theorem B16x38_ {p : Prop} (h : p := by (with_reducible repeat (first | apply Kd.R_alloc | apply Kd.R_drewN | apply Kd.R_drew)); exact HO_614002.out) : p := h
theorem B16x39_ {p : Prop} (h : p := by (with_reducible repeat (first | apply Kd.R_alloc | apply Kd.R_drewN | apply Kd.R_drew)); exact HO_621002.out) : p := h
theorem B16x40_ {p : Prop} (h : p := by first | omega | exact Nat.le_refl _) : p := h
/-! ### laws_FnPuts: function 3 -/
mutual
def laws_FnPuts.j0 : Nat → Bool → Int → Int → List (S28) → Int → Int → List (S28) → Option (Bool)
 | 0, _, _, _, _, _, _, _ => none
 | k + 1, x62, x606000, x606001, x606002, x614000, x614001, x614002 => if x62 = true then (some false) else (laws_FnPuts.l0 k 0 x606000 x606001 x606002 x614000 x614001 x614002)
def laws_FnPuts.l0 : Nat → Int → Int → Int → List (S28) → Int → Int → List (S28) → Option (Bool)
 | 0, _, _, _, _, _, _, _ => none
 | k + 1, x10, x606000, x606001, x606002, x614000, x614001, x614002 => if (wrap64 (x10 + 1)) < (x614002.length : Int) then (if 0 ≤ x10 then (if x10 < (x614002.length : Int) then (if x10 < (x606002.length : Int) then (if (!(((rd_T28 x614002 x10).f0) == ((rd_T28 x606002 x10).f0)) || (!(((rd_T28 x614002 x10).f1) == ((rd_T28 x606002 x10).f1)) || (!((((rd_T28 x614002 x10).f2).toList) == (((rd_T28 x606002 x10).f2).toList))))) = true then (some false) else (laws_FnPuts.l0 k (wrap64 (x10 + 1)) x606000 x606001 x606002 x614000 x614001 x614002)) else (none)) else (none)) else (none)) else (some true)
end
def laws_FnPuts.f (k : Nat) (l0 : List Int) : Option (Bool) := (laws_big.f l0).bind fun t595 => (if t595 = true then (some true) else ((spec_DrawLogPut.f k l0).bind fun bt596 => ((impl_LogPut.f k bt596.1 bt596.2.1 bt596.2.2.1 bt596.2.2.2.1 bt596.2.2.2.2.1 bt596.2.2.2.2.2.1 bt596.2.2.2.2.2.2).bind fun bt607 => ((spec_LogPut.f k bt596.1 bt596.2.1 bt596.2.2.1 bt596.2.2.2.1 bt596.2.2.2.2.1 bt596.2.2.2.2.2.1 bt596.2.2.2.2.2.2).bind fun bt614 => (if (bt607.2.2.2 != bt614.2.2.2) = true then (some false) else (if bt607.2.2.2 = true then ((laws_last.f bt607.1 bt607.2.1 bt607.2.2.1).bind fun t621 => (if t621 = bt596.2.2.2.1 then (if 0 ≤ (wrap64 ((bt607.2.2.1.length : Int) - 1)) then (if (wrap64 ((bt607.2.2.1.length : Int) - 1)) < (bt607.2.2.1.length : Int) then (if (!(((rd_T28 bt607.2.2.1 (wrap64 ((bt607.2.2.1.length : Int) - 1))).f0) == bt596.2.2.2.2.1) || (!(((rd_T28 bt607.2.2.1 (wrap64 ((bt607.2.2.1.length : Int) - 1))).f1) == bt596.2.2.2.2.2.1) || (!((((rd_T28 bt607.2.2.1 (wrap64 ((bt607.2.2.1.length : Int) - 1))).f2).toList) == bt596.2.2.2.2.2.2.toList)))) = true then (laws_FnPuts.j0 k true bt596.1 bt596.2.1 bt596.2.2.1 bt607.1 bt607.2.1 bt607.2.2.1) else ((spec_LogOk.f k bt607.1 bt607.2.1 bt607.2.2.1).bind fun t623 => (laws_FnPuts.j0 k (!t623) bt596.1 bt596.2.1 bt596.2.2.1 bt607.1 bt607.2.1 bt607.2.2.1))) else (none)) else (none)) else (laws_FnPuts.j0 k true bt596.1 bt596.2.1 bt596.2.2.1 bt607.1 bt607.2.1 bt607.2.2.1))) else (some ((bt607.2.2.1.length : Int) == 0))))))))
theorem laws_FnPuts.mono_l : ∀ k, (∀ y0 y1 y2 y3 y4 y5 y6, LeO (laws_FnPuts.j0 k y0 y1 y2 y3 y4 y5 y6) (laws_FnPuts.j0 (k + 1) y0 y1 y2 y3 y4 y5 y6)) ∧ (∀ y0 y1 y2 y3 y4 y5 y6, LeO (laws_FnPuts.l0 k y0 y1 y2 y3 y4 y5 y6) (laws_FnPuts.l0 (k + 1) y0 y1 y2 y3 y4 y5 y6))
 | 0 => ⟨fun _ _ _ _ _ _ _ r h => by simp [laws_FnPuts.j0] at h, fun _ _ _ _ _ _ _ r h => by simp [laws_FnPuts.l0] at h⟩
 | k + 1 => by
  obtain ⟨ih0, ih1⟩ := laws_FnPuts.mono_l k
  refine ⟨?_, ?_⟩
  ·intro y0 y1 y2 y3 y4 y5 y6
   unfold laws_FnPuts.j0
   repeat' first
   | (with_reducible exact ih0 _ _ _ _ _ _ _)
   | (with_reducible exact ih1 _ _ _ _ _ _ _)
   | (with_reducible exact impl_LogPut.mono _ _ _ _ _ _ _ _)
   | (with_reducible exact spec_DrawLogPut.mono _ _)
   | (with_reducible exact spec_LogOk.mono _ _ _ _)
   | (with_reducible exact spec_LogPut.mono _ _ _ _ _ _ _ _)
   | (with_reducible first | exact LeO.refl _ | exact LeO.none _ | refine LeO.ite ?_ ?_ | refine LeO.bind ?_ (fun _ => ?_))
   | exact ih0 _ _ _ _ _ _ _
   | exact ih1 _ _ _ _ _ _ _
   | exact impl_LogPut.mono _ _ _ _ _ _ _ _
   | exact spec_DrawLogPut.mono _ _
   | exact spec_LogOk.mono _ _ _ _
   | exact spec_LogPut.mono _ _ _ _ _ _ _ _
  ·intro y0 y1 y2 y3 y4 y5 y6
   unfold laws_FnPuts.l0
   repeat' first
   | (with_reducible exact ih0 _ _ _ _ _ _ _)
   | (with_reducible exact ih1 _ _ _ _ _ _ _)
   | (with_reducible exact impl_LogPut.mono _ _ _ _ _ _ _ _)
   | (with_reducible exact spec_DrawLogPut.mono _ _)
   | (with_reducible exact spec_LogOk.mono _ _ _ _)
   | (with_reducible exact spec_LogPut.mono _ _ _ _ _ _ _ _)
   | (with_reducible first | exact LeO.refl _ | exact LeO.none _ | refine LeO.ite ?_ ?_ | refine LeO.bind ?_ (fun _ => ?_))
   | exact ih0 _ _ _ _ _ _ _
   | exact ih1 _ _ _ _ _ _ _
   | exact impl_LogPut.mono _ _ _ _ _ _ _ _
   | exact spec_DrawLogPut.mono _ _
   | exact spec_LogOk.mono _ _ _ _
   | exact spec_LogPut.mono _ _ _ _ _ _ _ _
theorem laws_FnPuts.mono : ∀ a0 k, LeO (laws_FnPuts.f k a0) (laws_FnPuts.f (k + 1) a0) := by
 intro a0 k
 obtain ⟨ih0, ih1⟩ := laws_FnPuts.mono_l k
 unfold laws_FnPuts.f
 repeat' first
   | (with_reducible exact ih0 _ _ _ _ _ _ _)
   | (with_reducible exact ih1 _ _ _ _ _ _ _)
   | (with_reducible exact impl_LogPut.mono _ _ _ _ _ _ _ _)
   | (with_reducible exact spec_DrawLogPut.mono _ _)
   | (with_reducible exact spec_LogOk.mono _ _ _ _)
   | (with_reducible exact spec_LogPut.mono _ _ _ _ _ _ _ _)
   | (with_reducible first | exact LeO.refl _ | exact LeO.none _ | refine LeO.ite ?_ ?_ | refine LeO.bind ?_ (fun _ => ?_))
   | exact ih0 _ _ _ _ _ _ _
   | exact ih1 _ _ _ _ _ _ _
   | exact impl_LogPut.mono _ _ _ _ _ _ _ _
   | exact spec_DrawLogPut.mono _ _
   | exact spec_LogOk.mono _ _ _ _
   | exact spec_LogPut.mono _ _ _ _ _ _ _ _
def laws_FnPuts.T10 : Bool × List (List Nat × List Nat) := (true, [([], []), ([0], [0]), ([], []), ([1, 2], [1, 2]), ([3, 1], [3]), ([4], [4]), ([5, 4], [4, 5]), ([4], [4]), ([7, 4], [4, 7]), ([8, 4], [4, 8]), ([9, 4], [4, 9]), ([6, 10, 4], [4, 6, 10]), ([11, 4], [4, 11]), ([4], [4]), ([12, 13, 4], [4, 12, 13]), ([4, 14], [4, 14]), ([15, 4], [15]), ([16], [16]), ([17, 16, 16], [16, 17]), ([18, 16], [16, 18]), ([16, 19], [16, 19])])
def laws_FnPuts.B10 : List Nat := [0, 1, 0, 7, 15, 31, 63, 31, 159, 415, 927, 2047, 4095, 31, 16383, 32767, 65535, 131071, 262143, 524287, 1048575]
theorem laws_FnPuts.tab10 : rtab .any (opsOf Try.f3 10) = laws_FnPuts.T10 := by kernel_rfl
theorem laws_FnPuts.bits10 : waitsOk laws_FnPuts.T10.2 laws_FnPuts.B10 = true := by kernel_rfl
def laws_FnPuts.T15 : Bool × List (List Nat × List Nat) := (true, [([], []), ([0], [0]), ([], []), ([1, 2], [1, 2]), ([3], [3]), ([], []), ([5], [5]), ([], []), ([6, 7], [6, 7]), ([8], [8]), ([4, 9], [4, 9])])
def laws_FnPuts.B15 : List Nat := [0, 1, 0, 7, 15, 0, 32, 0, 224, 480, 1023]
theorem laws_FnPuts.tab15 : rtab .any (opsOf Try.f3 15) = laws_FnPuts.T15 := by kernel_rfl
theorem laws_FnPuts.bits15 : waitsOk laws_FnPuts.T15.2 laws_FnPuts.B15 = true := by kernel_rfl
set_option maxHeartbeats 8000000 in
set_option maxRecDepth 100000 in
theorem laws_FnPuts.calls (k : Nat) (A0 : Option Addr) (c0 : Nat) (l0 : List Int) (r : Bool) (w : World) (hr0 : Kd.C (Kd.int .u8) w A0 l0.length l0) (hc0 : l0.length ≤ c0) (h : laws_FnPuts.f k l0 = some r) (hr_ : Aside0 (r = true)) :
  Calls Try.prog 3 #[.slice A0 l0.length c0] w fun e w' => e = .returned (.bool r) ∧ Below w.heap.size w w' := by
 have hu26 := Try.underlying26
 have hu28 := Try.underlying28
 have HR0 := Aside0.mk hr0
 have HC0 := Aside0.mk hc0
 clear hr0 hc0
 have HB := Aside0.mk (Below.refl w.heap.size w)
 have H : ((laws_big.f l0).bind fun t595 => (if t595 = true then (some true) else ((spec_DrawLogPut.f k l0).bind fun bt596 => ((impl_LogPut.f k bt596.1 bt596.2.1 bt596.2.2.1 bt596.2.2.2.1 bt596.2.2.2.2.1 bt596.2.2.2.2.2.1 bt596.2.2.2.2.2.2).bind fun bt607 => ((spec_LogPut.f k bt596.1 bt596.2.1 bt596.2.2.1 bt596.2.2.2.1 bt596.2.2.2.2.1 bt596.2.2.2.2.2.1 bt596.2.2.2.2.2.2).bind fun bt614 => (if (bt607.2.2.2 != bt614.2.2.2) = true then (some false) else (if bt607.2.2.2 = true then ((laws_last.f bt607.1 bt607.2.1 bt607.2.2.1).bind fun t621 => (if t621 = bt596.2.2.2.1 then (if 0 ≤ (wrap64 ((bt607.2.2.1.length : Int) - 1)) then (if (wrap64 ((bt607.2.2.1.length : Int) - 1)) < (bt607.2.2.1.length : Int) then (if (!(((rd_T28 bt607.2.2.1 (wrap64 ((bt607.2.2.1.length : Int) - 1))).f0) == bt596.2.2.2.2.1) || (!(((rd_T28 bt607.2.2.1 (wrap64 ((bt607.2.2.1.length : Int) - 1))).f1) == bt596.2.2.2.2.2.1) || (!((((rd_T28 bt607.2.2.1 (wrap64 ((bt607.2.2.1.length : Int) - 1))).f2).toList) == bt596.2.2.2.2.2.2.toList)))) = true then (laws_FnPuts.j0 k true bt596.1 bt596.2.1 bt596.2.2.1 bt607.1 bt607.2.1 bt607.2.2.1) else ((spec_LogOk.f k bt607.1 bt607.2.1 bt607.2.2.1).bind fun t623 => (laws_FnPuts.j0 k (!t623) bt596.1 bt596.2.1 bt596.2.2.1 bt607.1 bt607.2.1 bt607.2.2.1))) else (none)) else (none)) else (laws_FnPuts.j0 k true bt596.1 bt596.2.1 bt596.2.2.1 bt607.1 bt607.2.1 bt607.2.2.1))) else (some ((bt607.2.2.1.length : Int) == 0))))))))) = some r := h
 clear h
 replace H := bsi H
 obtain ⟨t595, A2, H⟩ := H
 (try dsimp only at H)
 by_cases c3 : t595 = true
 ·subst c3
  rw [if_pos rfl] at H
  obtain rfl := Option.some.inj H
  go_enter Try.func3, Try.ntmps3
  go_wp2_with (first | ((with_reducible refine gate_callee (f := 7) rfl ?_); refine goesL_ (some 12) rfl rfl Try.func7 B16x34_ rfl #[.slice A0 l0.length c0] rfl B16x1_ ?_; (with_reducible refine (laws_big.calls _ _ l0 true _ ?side1 ?side2 A2.out).mono ?_); (case side1 => exact B16x17_); (case side2 => exact HC0.out); rintro e w' ⟨rfl, ⟨nd, rfl⟩⟩; refine ⟨_, rfl, ?_⟩))
  go_ret
  exact ⟨B16x35_, B16x16_⟩
 ·replace c3 := Bool.eq_false_iff.mpr c3
  subst c3
  rw [if_neg (show ¬ (false = true) by decide)] at H
  replace H := bsi H
  obtain ⟨⟨t596, t597, t598, t601, t602, t603, t604⟩, A4, H⟩ := H
  (try dsimp only at H)
  replace H := bsi H
  obtain ⟨⟨t607, t608, t609, t612⟩, A5, H⟩ := H
  (try dsimp only at H)
  replace H := bsi H
  obtain ⟨⟨t614, t615, t616, t619⟩, A6, H⟩ := H
  (try dsimp only at H)
  by_cases c7 : (t612 != t619) = true
  ·rw [if_pos c7] at H
   have c7b0 : (t612 != t619) = true := c7
   (try (have c7b1 : decide (t612 = t619) = false := by simpa using c7))
   (try (have c7b2 : (t612 == t619) = false := by simpa using c7))
   (try (have c7b3 : ¬ (t612 = t619) := by simpa using c7))
   clear c7
   exact absurd ((Option.some.inj H).trans hr_.out) (by decide)
  ·rw [if_neg c7] at H
   have c7b0 : (t612 != t619) = false := by simpa using c7
   (try (have c7b1 : decide (t612 = t619) = true := by simpa using c7))
   (try (have c7b2 : (t612 == t619) = true := by simpa using c7))
   clear c7
   by_cases c8 : t612 = true
   ·subst c8
    rw [if_pos rfl] at H
    have HC9 := Aside0.mk H
    clear H
    go_enter Try.func3, Try.ntmps3
    go_upto_region 10 with (first | ((with_reducible refine gate_callee (f := 7) rfl ?_); refine goesL_ (some 12) rfl rfl Try.func7 B16x34_ rfl #[.slice A0 l0.length c0] rfl B16x1_ ?_; (with_reducible refine (laws_big.calls _ _ l0 false _ ?side1 ?side2 A2.out).mono ?_); (case side1 => exact B16x17_); (case side2 => exact HC0.out); rintro e w' ⟨rfl, ⟨nd, rfl⟩⟩; refine ⟨_, rfl, ?_⟩) | ((with_reducible refine gate_callee (f := 8) rfl ?_); refine goesL_ (some 15) rfl rfl Try.func8 B16x34_ rfl #[.slice A0 l0.length c0] rfl B16x1_ ?_; (with_reducible refine (spec_DrawLogPut.calls k _ _ l0 t596 t597 t598 t601 t602 t603 t604 _ ?side1 ?side2 A4.out).mono ?_); (case side1 => exact B16x17_); (case side2 => exact HC0.out); rintro e w10 ⟨v599, rfl, ho0, hb⟩; refine ⟨_, rfl, ?_⟩; have HO600 := Aside0.mk (Kd.R_lower ho0 (below_size B16x16_)); replace HB := Aside0.mk (below_step B16x16_ hb); (try clear hb); (try clear ho0)) | ((with_reducible refine gate_dst (N := 3) rfl ?_); (try (refine gate_guard (by rfl) ?_; dsimp only)); refine box_event ?hg (N := 3) ?hd (cs := #[.int .i64 0, .int .i64 0, .slice none 0 0]) (t := 26) ?hr ?_; (case hd => rfl); (case hg => rfl); (case hr => exact B16x32_); intro gb605 hg w11 hbox hb; replace HO600 := Aside0.mk (Kd.R_below B16x4_ hb); have BK605 := Aside0.mk (hbox); have GW605 := Aside0.mk ((bs hg (below_size HB.out))); have GE605 := Aside0.mk ((bs hg (below_size HB.out))); replace HB := Aside0.mk (below_step B16x16_ hb); clear hb hbox hg) | ((with_reducible refine gate_dst (N := 5) rfl ?_); (try (refine gate_guard (by rfl) ?_; dsimp only)); refine box_event ?hg (N := 5) ?hd (cs := #[.int .i64 0, .int .i64 0, .string (⟨#[]⟩ : ByteArray)]) (t := 28) ?hr ?_; (case hd => rfl); (case hg => rfl); (case hr => exact B16x32_); intro gb606 hg w12 hbox hb; replace HO600 := Aside0.mk (Kd.R_below (Kd.R_elderB B16x4_ gb606 (Nat.le_of_eq hg.symm)) hb); have BK606 := Aside0.mk (hbox); have GW606 := Aside0.mk ((bs hg (below_size HB.out))); have GE606 := Aside0.mk ((bs hg (below_size HB.out))); replace HB := Aside0.mk (below_step B16x36_ hb); have NB605_606 := Aside0.mk ((nl hg (blk_lt BK605.out))); have NB606_605 := Aside0.mk ((ng hg (blk_lt BK605.out))); replace BK605 := Aside0.mk (bb BK605.out hb); clear hb hbox hg; have hnb13 := NB605_606.out; have hnc13 := NB606_605.out; obtain ⟨hcz14_0, hcz14_1, hcz14_2⟩ := cl3 BK605.out; obtain ⟨hfz14_0, hfz14_1, hfz14_2⟩ := fr3 BK605.out; obtain ⟨Ao15, co15, eo15⟩ := Kd.R_slice HO600.out; subst eo15; obtain ⟨hcz16_0, hcz16_1, hcz16_2⟩ := cl3 BK606.out; obtain ⟨hfz16_0, hfz16_1, hfz16_2⟩ := fr3 BK606.out) | ((with_reducible refine gate_callee (f := 9) rfl ?_); refine goesL_ (some 23) rfl rfl Try.func9 B16x34_ rfl #[.agg #[.int .i64 t596, .int .i64 t597, .slice Ao15 t598.length co15], .int .i64 t601, .agg #[.int .i64 t602, .int .i64 t603, .string t604]] rfl B16x1_ ?_; (with_reducible refine (impl_LogPut.calls k t596 t597 _ _ t598 t601 t602 t603 t604 t607 t608 t609 true _ ?side1 ?side2 A5.out).mono ?_); (case side1 => refine (Kd.R_reads' (e := 28) (base := w.heap.size) (ok := fun k_ => (True ∧ k_ ≠ gb606)) (n := t598.length) (c := co15) ?_).2.2; exact B16x2_); (case side2 => exact (Kd.R_reads' HO600.out).2.1); rintro e w17 ⟨v610, rfl, ho0, hb⟩; refine ⟨_, rfl, ?_⟩; have HO611 := Aside0.mk (Kd.R_lower (Kd.R_newB (Kd.R_new' ho0 (Kd.R_lt B16x2_)) (g := gb606) (o := .cells #[.int .i64 t602, .int .i64 t603, .string t604] 28 (0, 0)) B16x11_) (below_size B16x7_)); replace HO600 := Aside0.mk (Kd.R_elder' B16x2_ (Kd.R_base ho0) hb); replace BK605 := Aside0.mk (blk_below (g := gb605) (o := .cells #[.int .i64 t596, .int .i64 t597, .slice Ao15 t598.length co15] 26 (0, 0)) B16x30_ hb); replace BK606 := Aside0.mk (blk_below (g := gb606) (o := .cells #[.int .i64 t602, .int .i64 t603, .string t604] 28 (0, 0)) B16x11_ hb); replace HB := Aside0.mk (below_step B16x7_ hb); (try clear hb); (try clear ho0)) | ((with_reducible refine gate_dst (N := 6) rfl ?_); (try (refine gate_guard (by rfl) ?_; dsimp only)); refine box_event ?hg (N := 6) ?hd (cs := #[.int .i64 0, .int .i64 0, .slice none 0 0]) (t := 26) ?hr ?_; (case hd => rfl); (case hg => rfl); (case hr => exact B16x32_); intro gb613 hg w18 hbox hb; replace HO600 := Aside0.mk (Kd.R_below B16x4_ hb); replace HO611 := Aside0.mk (Kd.R_below B16x6_ hb); have BK613 := Aside0.mk (hbox); have GW613 := Aside0.mk ((bs hg (below_size HB.out))); have GE613 := Aside0.mk ((bs hg (below_size HB.out))); replace HB := Aside0.mk (below_step B16x7_ hb); have NB605_613 := Aside0.mk ((nl hg (blk_lt BK605.out))); have NB613_605 := Aside0.mk ((ng hg (blk_lt BK605.out))); replace BK605 := Aside0.mk (bb BK605.out hb); have NB606_613 := Aside0.mk ((nl hg (blk_lt BK606.out))); have NB613_606 := Aside0.mk ((ng hg (blk_lt BK606.out))); replace BK606 := Aside0.mk (bb BK606.out hb); clear hb hbox hg; have hnb19 := NB613_605.out; have hnc19 := NB605_613.out; have hnb20 := NB613_606.out; have hnc20 := NB606_613.out; obtain ⟨hcz21_0, hcz21_1, hcz21_2⟩ := cl3 BK613.out; obtain ⟨hfz21_0, hfz21_1, hfz21_2⟩ := fr3 BK613.out; obtain ⟨Ao22, co22, eo22⟩ := Kd.R_slice HO611.out; subst eo22; obtain ⟨hcz23_0, hcz23_1, hcz23_2⟩ := cl3 BK605.out; obtain ⟨hfz23_0, hfz23_1, hfz23_2⟩ := fr3 BK605.out; obtain ⟨hcz24_0, hcz24_1, hcz24_2⟩ := cl3 BK606.out; obtain ⟨hfz24_0, hfz24_1, hfz24_2⟩ := fr3 BK606.out) | ((with_reducible refine gate_callee (f := 10) rfl ?_); refine goesL_ (some 30) rfl rfl Try.func10 B16x34_ rfl #[.agg #[.int .i64 t596, .int .i64 t597, .slice Ao15 t598.length co15], .int .i64 t601, .agg #[.int .i64 t602, .int .i64 t603, .string t604]] rfl B16x1_ ?_; (with_reducible refine (spec_LogPut.calls k t596 t597 _ _ t598 t601 t602 t603 t604 t614 t615 t616 t619 _ ?side1 ?side2 A6.out).mono ?_); (case side1 => refine (Kd.R_reads' (e := 28) (base := w.heap.size) (ok := fun k_ => ((True ∧ k_ ≠ gb606) ∧ some k_ ≠ (.slice Ao22 t609.length co22 : Value).ownBlock)) (n := t598.length) (c := co15) ?_).2.2; exact B16x14_); (case side2 => exact (Kd.R_reads' HO600.out).2.1); rintro e w25 ⟨v617, rfl, ho0, hb⟩; refine ⟨_, rfl, ?_⟩; have HO618 := Aside0.mk (Kd.R_lower (Kd.R_newB (Kd.R_new' (Kd.R_new' ho0 (Kd.R_lt B16x14_)) (Kd.R_lt B16x27_)) (g := gb606) (o := .cells #[.int .i64 t602, .int .i64 t603, .string t604] 28 (0, 0)) B16x12_) (below_size B16x5_)); replace HO600 := Aside0.mk (Kd.R_elder' B16x14_ (Kd.R_base ho0) hb); replace HO611 := Aside0.mk (Kd.R_elder' B16x27_ (Kd.R_base ho0) hb); replace BK605 := Aside0.mk (blk_below (g := gb605) (o := .cells #[.int .i64 t596, .int .i64 t597, .slice Ao15 t598.length co15] 26 (0, 0)) B16x31_ hb); replace BK606 := Aside0.mk (blk_below (g := gb606) (o := .cells #[.int .i64 t602, .int .i64 t603, .string t604] 28 (0, 0)) B16x12_ hb); replace BK613 := Aside0.mk (blk_below (g := gb613) (o := .cells #[.int .i64 t607, .int .i64 t608, .slice Ao22 t609.length co22] 26 (0, 0)) B16x33_ hb); replace HB := Aside0.mk (below_step B16x5_ hb); (try clear hb); (try clear ho0)) | ((with_reducible refine gate_dst (N := 8) rfl ?_); (try (refine gate_guard (by rfl) ?_; dsimp only)); refine box_event ?hg (N := 8) ?hd (cs := #[.int .i64 0, .int .i64 0, .slice none 0 0]) (t := 26) ?hr ?_; (case hd => rfl); (case hg => rfl); (case hr => exact B16x32_); intro gb620 hg w26 hbox hb; replace HO600 := Aside0.mk (Kd.R_below B16x4_ hb); replace HO611 := Aside0.mk (Kd.R_below B16x6_ hb); replace HO618 := Aside0.mk (Kd.R_below B16x13_ hb); have BK620 := Aside0.mk (hbox); have GW620 := Aside0.mk ((bs hg (below_size HB.out))); have GE620 := Aside0.mk ((bs hg (below_size HB.out))); replace HB := Aside0.mk (below_step B16x5_ hb); have NB605_620 := Aside0.mk ((nl hg (blk_lt BK605.out))); have NB620_605 := Aside0.mk ((ng hg (blk_lt BK605.out))); replace BK605 := Aside0.mk (bb BK605.out hb); have NB606_620 := Aside0.mk ((nl hg (blk_lt BK606.out))); have NB620_606 := Aside0.mk ((ng hg (blk_lt BK606.out))); replace BK606 := Aside0.mk (bb BK606.out hb); have NB613_620 := Aside0.mk ((nl hg (blk_lt BK613.out))); have NB620_613 := Aside0.mk ((ng hg (blk_lt BK613.out))); replace BK613 := Aside0.mk (bb BK613.out hb); clear hb hbox hg; have hnb27 := NB620_605.out; have hnc27 := NB605_620.out; have hnb28 := NB620_606.out; have hnc28 := NB606_620.out; have hnb29 := NB620_613.out; have hnc29 := NB613_620.out; obtain ⟨hcz30_0, hcz30_1, hcz30_2⟩ := cl3 BK620.out; obtain ⟨hfz30_0, hfz30_1, hfz30_2⟩ := fr3 BK620.out; obtain ⟨Ao31, co31, eo31⟩ := Kd.R_slice HO618.out; subst eo31))
    (try simp only [Act.put, List.setIfInBounds_toArray, List.set_cons_zero, List.set_cons_succ])
    go_cut [62] (fun v62 wc => ∃ (kq : Nat) (x62_8 : Bool), v62 = .bool x62_8 ∧ Aside0 (laws_FnPuts.j0 kq x62_8 t596 t597 t598 t607 t608 t609 = some r) ∧ Aside0 (kq ≤ k) ∧ Aside0 (Kd.R k28 28 wc w.heap.size (fun k_ => some k_ ≠ ((.slice Ao22 t609.length co22) : Value).ownBlock ∧ some k_ ≠ ((.slice Ao31 t616.length co31) : Value).ownBlock ∧ k_ ≠ gb606) (.slice Ao15 t598.length co15) t598) ∧ Aside0 (Kd.R k28 28 wc w.heap.size (fun k_ => some k_ ≠ ((.slice Ao15 t598.length co15) : Value).ownBlock ∧ some k_ ≠ ((.slice Ao31 t616.length co31) : Value).ownBlock ∧ k_ ≠ gb606) (.slice Ao22 t609.length co22) t609) ∧ Aside0 (Kd.R k28 28 wc w.heap.size (fun k_ => some k_ ≠ ((.slice Ao15 t598.length co15) : Value).ownBlock ∧ some k_ ≠ ((.slice Ao22 t609.length co22) : Value).ownBlock ∧ k_ ≠ gb606) (.slice Ao31 t616.length co31) t616) ∧ Aside0 (wc.heap[gb605]? = some (.cells #[.int .i64 t596, .int .i64 t597, (.slice Ao15 t598.length co15)] 26 (0, 0))) ∧ Aside0 (wc.heap[gb606]? = some (.cells #[.int .i64 t602, .int .i64 t603, .string t604] 28 (0, 0))) ∧ Aside0 (wc.heap[gb613]? = some (.cells #[.int .i64 t607, .int .i64 t608, (.slice Ao22 t609.length co22)] 26 (0, 0))) ∧ Aside0 (wc.heap[gb620]? = some (.cells #[.int .i64 t614, .int .i64 t615, (.slice Ao31 t616.length co31)] 26 (0, 0))) ∧ Aside0 (Below w.heap.size w wc))
    case first =>
     have H := HC9.out
     clear HC9
     replace H := bsi H
     obtain ⟨t621, A32, H⟩ := H
     (try dsimp only at H)
     by_cases c33 : t621 = t601
     ·rw [if_pos c33] at H
      have c33b0 := beq_iff_eq.mpr c33
      have c33b1 := bne_eq_false_iff_eq.mpr c33
      clear c33
      (first | rw [c33b0] | (simp only [i64_w, i32_w]; rw [c33b0]) | skip)
      obtain ⟨ji34, hji34⟩ : ∃ j_ : Int, (wrap64 ((t609.length : Int) - 1)) = j_ := ⟨_, rfl⟩
      replace H : (if 0 ≤ (ji34) then (if (ji34) < (t609.length : Int) then (if (!(((rd_T28 t609 (ji34)).f0) == t602) || (!(((rd_T28 t609 (ji34)).f1) == t603) || (!((((rd_T28 t609 (ji34)).f2).toList) == t604.toList)))) = true then (laws_FnPuts.j0 k true t596 t597 t598 t607 t608 t609) else ((spec_LogOk.f k t607 t608 t609).bind fun t623 => (laws_FnPuts.j0 k (!t623) t596 t597 t598 t607 t608 t609))) else (none)) else (none)) = some r := by first | (rw [hji34] at H; exact H) | (simp only [hji34] at H ⊢; exact H)
      (try rw [hji34] at A32)
      have hji34w : (IntKind.i64.wrap ((t609.length : Int) - 1)) = ji34 := (i64_w _).trans hji34
      by_cases c35 : 0 ≤ (ji34)
      rotate_left
      ·rw [if_neg c35] at H
       exact absurd H (by simp)
      rw [if_pos c35] at H
      have c35b0 : decide (0 ≤ (ji34)) = true := decide_eq_true c35
      clear c35
      by_cases c36 : (ji34) < (t609.length : Int)
      rotate_left
      ·rw [if_neg c36] at H
       exact absurd H (by simp)
      rw [if_pos c36] at H
      have c36b0 : decide ((ji34) < (t609.length : Int)) = true := decide_eq_true c36
      clear c36
      by_cases c37 : (!(((rd_T28 t609 (ji34)).f0) == t602) || (!(((rd_T28 t609 (ji34)).f1) == t603) || (!((((rd_T28 t609 (ji34)).f2).toList) == t604.toList)))) = true
      ·rw [if_pos c37] at H
       have c37b0 : (!(((rd_T28 t609 (ji34)).f0) == t602) || (!(((rd_T28 t609 (ji34)).f1) == t603) || (!((((rd_T28 t609 (ji34)).f2).toList) == t604.toList)))) = true := c37
       clear c37
       have H' := Aside0.mk H
       clear H
       try go_wp2
       have n0_ : Aside0 (Kd.R k28 28 (((w26.setCell ⟨gb620, 0, none⟩ (.int .i64 t614)).setCell ⟨gb620, 1, none⟩ (.int .i64 t615)).setCell ⟨gb620, 2, none⟩ (.slice Ao31 t616.length co31)) w.heap.size (fun k_ => some k_ ≠ (.slice Ao22 t609.length co22 : Value).ownBlock ∧ some k_ ≠ (.slice Ao31 t616.length co31 : Value).ownBlock ∧ k_ ≠ gb606) (.slice Ao15 t598.length co15) t598) := ⟨B16x8_⟩
       have n1_ : Aside0 (Kd.R k28 28 (((w26.setCell ⟨gb620, 0, none⟩ (.int .i64 t614)).setCell ⟨gb620, 1, none⟩ (.int .i64 t615)).setCell ⟨gb620, 2, none⟩ (.slice Ao31 t616.length co31)) w.heap.size (fun k_ => some k_ ≠ (.slice Ao15 t598.length co15 : Value).ownBlock ∧ some k_ ≠ (.slice Ao31 t616.length co31 : Value).ownBlock ∧ k_ ≠ gb606) (.slice Ao22 t609.length co22) t609) := ⟨B16x9_⟩
       have n2_ : Aside0 (Kd.R k28 28 (((w26.setCell ⟨gb620, 0, none⟩ (.int .i64 t614)).setCell ⟨gb620, 1, none⟩ (.int .i64 t615)).setCell ⟨gb620, 2, none⟩ (.slice Ao31 t616.length co31)) w.heap.size (fun k_ => some k_ ≠ (.slice Ao15 t598.length co15 : Value).ownBlock ∧ some k_ ≠ (.slice Ao22 t609.length co22 : Value).ownBlock ∧ k_ ≠ gb606) (.slice Ao31 t616.length co31) t616) := ⟨B16x10_⟩
       have n3_ : Aside0 ((((w26.setCell ⟨gb620, 0, none⟩ (.int .i64 t614)).setCell ⟨gb620, 1, none⟩ (.int .i64 t615)).setCell ⟨gb620, 2, none⟩ (.slice Ao31 t616.length co31)).heap[gb605]? = some (.cells #[.int .i64 t596, .int .i64 t597, .slice Ao15 t598.length co15] 26 (0, 0))) := ⟨B16x18_⟩
       have n4_ : Aside0 ((((w26.setCell ⟨gb620, 0, none⟩ (.int .i64 t614)).setCell ⟨gb620, 1, none⟩ (.int .i64 t615)).setCell ⟨gb620, 2, none⟩ (.slice Ao31 t616.length co31)).heap[gb606]? = some (.cells #[.int .i64 t602, .int .i64 t603, .string t604] 28 (0, 0))) := ⟨B16x19_⟩
       have n5_ : Aside0 ((((w26.setCell ⟨gb620, 0, none⟩ (.int .i64 t614)).setCell ⟨gb620, 1, none⟩ (.int .i64 t615)).setCell ⟨gb620, 2, none⟩ (.slice Ao31 t616.length co31)).heap[gb613]? = some (.cells #[.int .i64 t607, .int .i64 t608, .slice Ao22 t609.length co22] 26 (0, 0))) := ⟨B16x20_⟩
       have n6_ : Aside0 ((((w26.setCell ⟨gb620, 0, none⟩ (.int .i64 t614)).setCell ⟨gb620, 1, none⟩ (.int .i64 t615)).setCell ⟨gb620, 2, none⟩ (.slice Ao31 t616.length co31)).heap[gb620]? = some (.cells #[.int .i64 t614, .int .i64 t615, .slice Ao31 t616.length co31] 26 (0, 0))) := ⟨B16x21_⟩
       have n7_ : Aside0 (Below w.heap.size w (((w26.setCell ⟨gb620, 0, none⟩ (.int .i64 t614)).setCell ⟨gb620, 1, none⟩ (.int .i64 t615)).setCell ⟨gb620, 2, none⟩ (.slice Ao31 t616.length co31))) := ⟨B16x0_⟩
       (try clear HO600)
       (try clear HO611)
       (try clear HO618)
       (try clear BK605)
       (try clear BK606)
       (try clear BK613)
       (try clear BK620)
       (try clear HB)
       generalize (((w26.setCell ⟨gb620, 0, none⟩ (.int .i64 t614)).setCell ⟨gb620, 1, none⟩ (.int .i64 t615)).setCell ⟨gb620, 2, none⟩ (.slice Ao31 t616.length co31)) = w38 at n0_ n1_ n2_ n3_ n4_ n5_ n6_ n7_ ⊢
       have HO600 := n0_
       have HO611 := n1_
       have HO618 := n2_
       have BK605 := n3_
       have BK606 := n4_
       have BK613 := n5_
       have BK620 := n6_
       have HB := n7_
       clear n0_ n1_ n2_ n3_ n4_ n5_ n6_ n7_
       replace HO600 := Aside0.mk (Kd.R_drew HO600.out)
       replace HO611 := Aside0.mk (Kd.R_drew HO611.out)
       replace HO618 := Aside0.mk (Kd.R_drew HO618.out)
       replace BK605 := Aside0.mk (blk_drew BK605.out)
       replace BK606 := Aside0.mk (blk_drew BK606.out)
       replace BK613 := Aside0.mk (blk_drew BK613.out)
       replace BK620 := Aside0.mk (blk_drew BK620.out)
       replace HB := Aside0.mk (below_drew1 HB.out)
       have p622 : 0 ≤ ((ji34) : Int) := of_decide_eq_true B16x29_
       have q622 : (ji34) < (t609.length : Int) := of_decide_eq_true B16x29_
       obtain ⟨ad622, e622, hx622_0, hx622_1, hx622_2⟩ := at_T28 (Kd.R_reads' HO611.out).2.2 (ji34) p622 q622
       cases e622
       replace p622 := eq_true p622
       replace q622 := eq_true q622
       refine start_ (n := 21) (S := fun w' => w'.cell? ⟨gb613, 0, none⟩ = some (.int .i64 t607) ∧ w'.cell? ⟨gb613, 1, none⟩ = some (.int .i64 t608) ∧ w'.cell? ⟨gb613, 2, none⟩ = some (.slice (some ad622) t609.length co22) ∧ w'.cell? ⟨gb606, 0, none⟩ = some (.int .i64 t602) ∧ w'.cell? ⟨gb606, 1, none⟩ = some (.int .i64 t603) ∧ w'.cell? ⟨gb606, 2, none⟩ = some (.string t604) ∧ w'.cell? (ad622.add (((ji34)).toNat * 3)) = some (.int .i64 ((rd_T28 t609 (ji34)).f0)) ∧ w'.cell? ⟨(ad622.add (((ji34)).toNat * 3)).block, (ad622.add (((ji34)).toNat * 3)).off + 1, none⟩ = some (.int .i64 ((rd_T28 t609 (ji34)).f1)) ∧ w'.cell? ⟨(ad622.add (((ji34)).toNat * 3)).block, (ad622.add (((ji34)).toNat * 3)).off + 2, none⟩ = some (.string ((rd_T28 t609 (ji34)).f2))) (ds := []) #[false, false, false, false, false, false, false, false, false, false, false, false, false, false, false, false, false, false, false, false, false] B16x34_ rfl rfl ⟨(blk_cell BK613.out 0).trans rfl, (blk_cell BK613.out 1).trans rfl, (blk_cell BK613.out 2).trans rfl, (blk_cell BK606.out 0).trans rfl, (blk_cell BK606.out 1).trans rfl, (blk_cell BK606.out 2).trans rfl, hx622_0, hx622_1, hx622_2⟩ (fun hHeld => ?_); refine with_tabW laws_FnPuts.tab10 laws_FnPuts.bits10 (fun HT_ HW_ => ?_)
       generalize w38.drew = w39 at HO600 HO611 HO618 BK605 BK606 BK613 BK620 HB hx622_0 hx622_1 hx622_2 hHeld ⊢
       refine pu_ 2 44 HT_ ?_
       refine ta_ 0 42 HT_ HW_ hHeld ?_
       refine one_ (i := 1) (N := some 43) #[true, true, true, false, false, false, false, false, false, false, false, false, false, false, false, false, false, false, false, false, false] rfl rfl (one_of HT_.out B16x34_) (by decide) (fun K hK => ?_)
       refine goes_ Try.func11 B16x34_ rfl #[.agg #[.int .i64 t607, .int .i64 t608, .slice (some ad622) t609.length co22]] (by rfl) rfl rfl B16x1_ ?_
       with_reducible refine (laws_last.calls t607 t608 _ _ t609 t621 _ ?side1 ?side2 A32.out).mono ?_
       (case side1 => exact B16x22_)
       (case side2 => exact (Kd.R_reads' HO611.out).2.1)
       rintro e w40 ⟨rfl, hb⟩
       have HS6_ := (hb.cell (World.block_lt_of_cell? _ _ (hHeld.2.2.2.2.2.2.1))).trans (hHeld.2.2.2.2.2.2.1)
       have HS7_ := (hb.cell (World.block_lt_of_cell? _ _ (hHeld.2.2.2.2.2.2.2.1))).trans (hHeld.2.2.2.2.2.2.2.1)
       have HS8_ := (hb.cell (World.block_lt_of_cell? _ _ (hHeld.2.2.2.2.2.2.2.2))).trans (hHeld.2.2.2.2.2.2.2.2)
       refine ⟨_, rfl, ?_⟩
       replace HO600 := Aside0.mk (Kd.R_below B16x4_ hb)
       replace HO611 := Aside0.mk (Kd.R_below B16x6_ hb)
       replace HO618 := Aside0.mk (Kd.R_below B16x13_ hb)
       replace BK605 := Aside0.mk (bb BK605.out hb)
       replace BK606 := Aside0.mk (bb BK606.out hb)
       replace BK613 := Aside0.mk (bb BK613.out hb)
       replace BK620 := Aside0.mk (bb BK620.out hb)
       replace HB := Aside0.mk (below_step B16x0_ hb)
       (try clear hb)
       (try clear hb2)
       (try clear hk)
       (try clear hi)
       refine hK.out _ _ ⟨(blk_cell BK613.out 0).trans rfl, (blk_cell BK613.out 1).trans rfl, (blk_cell BK613.out 2).trans rfl, (blk_cell BK606.out 0).trans rfl, (blk_cell BK606.out 1).trans rfl, (blk_cell BK606.out 2).trans rfl, HS6_, HS7_, HS8_⟩ (fun hHeld => ?_)
       clear hK K
       refine norm_ (a' := ?_) ?_ ?_
       rotate_left
       ·show Act.put _ (some 43) _ = _
        simp only [Act.put, List.setIfInBounds_toArray, List.set_cons_zero, List.set_cons_succ, i64_w, i32_w]
        rfl
       refine pu_ 3 45 HT_ ?_
       refine pu_ 4 46 HT_ ?_
       refine pu_ 5 47 HT_ ?_
       refine pu_ 7 49 HT_ ?_
       refine ta_ 6 48 HT_ HW_ hHeld ?_
       refine ta_ 8 50 HT_ HW_ hHeld ?_
       refine pu_ 9 51 HT_ ?_
       refine pu_ 10 52 HT_ ?_
       refine pu_ 11 53 HT_ ?_
       refine ta_ 12 54 HT_ HW_ hHeld ?_
       refine ta_ 13 55 HT_ HW_ hHeld ?_
       refine pu_ 14 56 HT_ ?_
       refine pu_ 15 57 HT_ ?_
       refine pu_ 16 58 HT_ ?_
       refine of_ 17 59 HT_ ?_
       refine of_ 18 60 HT_ ?_
       refine of_ 19 61 HT_ ?_
       refine pu_ 20 62 HT_ ?_
       refine done_ (done_of HT_.out B16x34_) ?_
       try go_wp2
       go_meet
       case rel => exact ⟨_, (true), (be_), H', ⟨B16x40_⟩, ⟨B16x4_⟩, ⟨B16x6_⟩, ⟨B16x13_⟩, ⟨B16x23_⟩, ⟨B16x24_⟩, ⟨B16x25_⟩, ⟨B16x26_⟩, ⟨B16x0_⟩⟩
      ·rw [if_neg c37] at H
       have c37b0 : (!(((rd_T28 t609 (ji34)).f0) == t602) || (!(((rd_T28 t609 (ji34)).f1) == t603) || (!((((rd_T28 t609 (ji34)).f2).toList) == t604.toList)))) = false := by simpa using c37
       clear c37
       replace H := bsi H
       obtain ⟨t623, A41, H⟩ := H
       (try dsimp only at H)
       have H' := Aside0.mk H
       clear H
       try go_wp2
       have n0_ : Aside0 (Kd.R k28 28 (((w26.setCell ⟨gb620, 0, none⟩ (.int .i64 t614)).setCell ⟨gb620, 1, none⟩ (.int .i64 t615)).setCell ⟨gb620, 2, none⟩ (.slice Ao31 t616.length co31)) w.heap.size (fun k_ => some k_ ≠ (.slice Ao22 t609.length co22 : Value).ownBlock ∧ some k_ ≠ (.slice Ao31 t616.length co31 : Value).ownBlock ∧ k_ ≠ gb606) (.slice Ao15 t598.length co15) t598) := ⟨B16x8_⟩
       have n1_ : Aside0 (Kd.R k28 28 (((w26.setCell ⟨gb620, 0, none⟩ (.int .i64 t614)).setCell ⟨gb620, 1, none⟩ (.int .i64 t615)).setCell ⟨gb620, 2, none⟩ (.slice Ao31 t616.length co31)) w.heap.size (fun k_ => some k_ ≠ (.slice Ao15 t598.length co15 : Value).ownBlock ∧ some k_ ≠ (.slice Ao31 t616.length co31 : Value).ownBlock ∧ k_ ≠ gb606) (.slice Ao22 t609.length co22) t609) := ⟨B16x9_⟩
       have n2_ : Aside0 (Kd.R k28 28 (((w26.setCell ⟨gb620, 0, none⟩ (.int .i64 t614)).setCell ⟨gb620, 1, none⟩ (.int .i64 t615)).setCell ⟨gb620, 2, none⟩ (.slice Ao31 t616.length co31)) w.heap.size (fun k_ => some k_ ≠ (.slice Ao15 t598.length co15 : Value).ownBlock ∧ some k_ ≠ (.slice Ao22 t609.length co22 : Value).ownBlock ∧ k_ ≠ gb606) (.slice Ao31 t616.length co31) t616) := ⟨B16x10_⟩
       have n3_ : Aside0 ((((w26.setCell ⟨gb620, 0, none⟩ (.int .i64 t614)).setCell ⟨gb620, 1, none⟩ (.int .i64 t615)).setCell ⟨gb620, 2, none⟩ (.slice Ao31 t616.length co31)).heap[gb605]? = some (.cells #[.int .i64 t596, .int .i64 t597, .slice Ao15 t598.length co15] 26 (0, 0))) := ⟨B16x18_⟩
       have n4_ : Aside0 ((((w26.setCell ⟨gb620, 0, none⟩ (.int .i64 t614)).setCell ⟨gb620, 1, none⟩ (.int .i64 t615)).setCell ⟨gb620, 2, none⟩ (.slice Ao31 t616.length co31)).heap[gb606]? = some (.cells #[.int .i64 t602, .int .i64 t603, .string t604] 28 (0, 0))) := ⟨B16x19_⟩
       have n5_ : Aside0 ((((w26.setCell ⟨gb620, 0, none⟩ (.int .i64 t614)).setCell ⟨gb620, 1, none⟩ (.int .i64 t615)).setCell ⟨gb620, 2, none⟩ (.slice Ao31 t616.length co31)).heap[gb613]? = some (.cells #[.int .i64 t607, .int .i64 t608, .slice Ao22 t609.length co22] 26 (0, 0))) := ⟨B16x20_⟩
       have n6_ : Aside0 ((((w26.setCell ⟨gb620, 0, none⟩ (.int .i64 t614)).setCell ⟨gb620, 1, none⟩ (.int .i64 t615)).setCell ⟨gb620, 2, none⟩ (.slice Ao31 t616.length co31)).heap[gb620]? = some (.cells #[.int .i64 t614, .int .i64 t615, .slice Ao31 t616.length co31] 26 (0, 0))) := ⟨B16x21_⟩
       have n7_ : Aside0 (Below w.heap.size w (((w26.setCell ⟨gb620, 0, none⟩ (.int .i64 t614)).setCell ⟨gb620, 1, none⟩ (.int .i64 t615)).setCell ⟨gb620, 2, none⟩ (.slice Ao31 t616.length co31))) := ⟨B16x0_⟩
       (try clear HO600)
       (try clear HO611)
       (try clear HO618)
       (try clear BK605)
       (try clear BK606)
       (try clear BK613)
       (try clear BK620)
       (try clear HB)
       generalize (((w26.setCell ⟨gb620, 0, none⟩ (.int .i64 t614)).setCell ⟨gb620, 1, none⟩ (.int .i64 t615)).setCell ⟨gb620, 2, none⟩ (.slice Ao31 t616.length co31)) = w42 at n0_ n1_ n2_ n3_ n4_ n5_ n6_ n7_ ⊢
       have HO600 := n0_
       have HO611 := n1_
       have HO618 := n2_
       have BK605 := n3_
       have BK606 := n4_
       have BK613 := n5_
       have BK620 := n6_
       have HB := n7_
       clear n0_ n1_ n2_ n3_ n4_ n5_ n6_ n7_
       replace HO600 := Aside0.mk (Kd.R_drew HO600.out)
       replace HO611 := Aside0.mk (Kd.R_drew HO611.out)
       replace HO618 := Aside0.mk (Kd.R_drew HO618.out)
       replace BK605 := Aside0.mk (blk_drew BK605.out)
       replace BK606 := Aside0.mk (blk_drew BK606.out)
       replace BK613 := Aside0.mk (blk_drew BK613.out)
       replace BK620 := Aside0.mk (blk_drew BK620.out)
       replace HB := Aside0.mk (below_drew1 HB.out)
       have p622 : 0 ≤ ((ji34) : Int) := of_decide_eq_true B16x29_
       have q622 : (ji34) < (t609.length : Int) := of_decide_eq_true B16x29_
       obtain ⟨ad622, e622, hx622_0, hx622_1, hx622_2⟩ := at_T28 (Kd.R_reads' HO611.out).2.2 (ji34) p622 q622
       cases e622
       replace p622 := eq_true p622
       replace q622 := eq_true q622
       refine start_ (n := 21) (S := fun w' => w'.cell? ⟨gb613, 0, none⟩ = some (.int .i64 t607) ∧ w'.cell? ⟨gb613, 1, none⟩ = some (.int .i64 t608) ∧ w'.cell? ⟨gb613, 2, none⟩ = some (.slice (some ad622) t609.length co22) ∧ w'.cell? ⟨gb606, 0, none⟩ = some (.int .i64 t602) ∧ w'.cell? ⟨gb606, 1, none⟩ = some (.int .i64 t603) ∧ w'.cell? ⟨gb606, 2, none⟩ = some (.string t604) ∧ w'.cell? (ad622.add (((ji34)).toNat * 3)) = some (.int .i64 ((rd_T28 t609 (ji34)).f0)) ∧ w'.cell? ⟨(ad622.add (((ji34)).toNat * 3)).block, (ad622.add (((ji34)).toNat * 3)).off + 1, none⟩ = some (.int .i64 ((rd_T28 t609 (ji34)).f1)) ∧ w'.cell? ⟨(ad622.add (((ji34)).toNat * 3)).block, (ad622.add (((ji34)).toNat * 3)).off + 2, none⟩ = some (.string ((rd_T28 t609 (ji34)).f2))) (ds := []) #[false, false, false, false, false, false, false, false, false, false, false, false, false, false, false, false, false, false, false, false, false] B16x34_ rfl rfl ⟨(blk_cell BK613.out 0).trans rfl, (blk_cell BK613.out 1).trans rfl, (blk_cell BK613.out 2).trans rfl, (blk_cell BK606.out 0).trans rfl, (blk_cell BK606.out 1).trans rfl, (blk_cell BK606.out 2).trans rfl, hx622_0, hx622_1, hx622_2⟩ (fun hHeld => ?_); refine with_tabW laws_FnPuts.tab10 laws_FnPuts.bits10 (fun HT_ HW_ => ?_)
       generalize w42.drew = w43 at HO600 HO611 HO618 BK605 BK606 BK613 BK620 HB hx622_0 hx622_1 hx622_2 hHeld ⊢
       refine pu_ 2 44 HT_ ?_
       refine ta_ 0 42 HT_ HW_ hHeld ?_
       refine one_ (i := 1) (N := some 43) #[true, true, true, false, false, false, false, false, false, false, false, false, false, false, false, false, false, false, false, false, false] rfl rfl (one_of HT_.out B16x34_) (by decide) (fun K hK => ?_)
       refine goes_ Try.func11 B16x34_ rfl #[.agg #[.int .i64 t607, .int .i64 t608, .slice (some ad622) t609.length co22]] (by rfl) rfl rfl B16x1_ ?_
       with_reducible refine (laws_last.calls t607 t608 _ _ t609 t621 _ ?side1 ?side2 A32.out).mono ?_
       (case side1 => exact B16x22_)
       (case side2 => exact (Kd.R_reads' HO611.out).2.1)
       rintro e w44 ⟨rfl, hb⟩
       have HS6_ := (hb.cell (World.block_lt_of_cell? _ _ (hHeld.2.2.2.2.2.2.1))).trans (hHeld.2.2.2.2.2.2.1)
       have HS7_ := (hb.cell (World.block_lt_of_cell? _ _ (hHeld.2.2.2.2.2.2.2.1))).trans (hHeld.2.2.2.2.2.2.2.1)
       have HS8_ := (hb.cell (World.block_lt_of_cell? _ _ (hHeld.2.2.2.2.2.2.2.2))).trans (hHeld.2.2.2.2.2.2.2.2)
       refine ⟨_, rfl, ?_⟩
       replace HO600 := Aside0.mk (Kd.R_below B16x4_ hb)
       replace HO611 := Aside0.mk (Kd.R_below B16x6_ hb)
       replace HO618 := Aside0.mk (Kd.R_below B16x13_ hb)
       replace BK605 := Aside0.mk (bb BK605.out hb)
       replace BK606 := Aside0.mk (bb BK606.out hb)
       replace BK613 := Aside0.mk (bb BK613.out hb)
       replace BK620 := Aside0.mk (bb BK620.out hb)
       replace HB := Aside0.mk (below_step B16x0_ hb)
       (try clear hb)
       (try clear hb2)
       (try clear hk)
       (try clear hi)
       refine hK.out _ _ ⟨(blk_cell BK613.out 0).trans rfl, (blk_cell BK613.out 1).trans rfl, (blk_cell BK613.out 2).trans rfl, (blk_cell BK606.out 0).trans rfl, (blk_cell BK606.out 1).trans rfl, (blk_cell BK606.out 2).trans rfl, HS6_, HS7_, HS8_⟩ (fun hHeld => ?_)
       clear hK K
       refine norm_ (a' := ?_) ?_ ?_
       rotate_left
       ·show Act.put _ (some 43) _ = _
        simp only [Act.put, List.setIfInBounds_toArray, List.set_cons_zero, List.set_cons_succ, i64_w, i32_w]
        rfl
       refine pu_ 3 45 HT_ ?_
       refine pu_ 4 46 HT_ ?_
       refine pu_ 5 47 HT_ ?_
       refine pu_ 7 49 HT_ ?_
       refine ta_ 6 48 HT_ HW_ hHeld ?_
       refine ta_ 8 50 HT_ HW_ hHeld ?_
       refine pu_ 9 51 HT_ ?_
       refine pu_ 10 52 HT_ ?_
       refine pu_ 11 53 HT_ ?_
       refine ta_ 12 54 HT_ HW_ hHeld ?_
       refine ta_ 13 55 HT_ HW_ hHeld ?_
       refine pu_ 14 56 HT_ ?_
       refine pu_ 15 57 HT_ ?_
       refine pu_ 16 58 HT_ ?_
       refine ta_ 17 59 HT_ HW_ hHeld ?_
       refine one_ (i := 18) (N := some 60) #[true, true, true, true, true, true, true, true, true, true, true, true, true, true, true, true, true, true, true, false, false] rfl rfl (one_of HT_.out B16x34_) (by decide) (fun K hK => ?_)
       refine goes_ Try.func12 B16x34_ rfl #[.agg #[.int .i64 t607, .int .i64 t608, .slice (some ad622) t609.length co22]] (by rfl) rfl rfl B16x1_ ?_
       with_reducible refine (spec_LogOk.calls k t607 t608 _ _ t609 t623 _ ?side1 ?side2 A41.out).mono ?_
       (case side1 => exact B16x22_)
       (case side2 => exact (Kd.R_reads' HO611.out).2.1)
       rintro e w45 ⟨rfl, hb⟩
       have HS6_ := (hb.cell (World.block_lt_of_cell? _ _ (hHeld.2.2.2.2.2.2.1))).trans (hHeld.2.2.2.2.2.2.1)
       have HS7_ := (hb.cell (World.block_lt_of_cell? _ _ (hHeld.2.2.2.2.2.2.2.1))).trans (hHeld.2.2.2.2.2.2.2.1)
       have HS8_ := (hb.cell (World.block_lt_of_cell? _ _ (hHeld.2.2.2.2.2.2.2.2))).trans (hHeld.2.2.2.2.2.2.2.2)
       refine ⟨_, rfl, ?_⟩
       replace HO600 := Aside0.mk (Kd.R_below B16x4_ hb)
       replace HO611 := Aside0.mk (Kd.R_below B16x6_ hb)
       replace HO618 := Aside0.mk (Kd.R_below B16x13_ hb)
       replace BK605 := Aside0.mk (bb BK605.out hb)
       replace BK606 := Aside0.mk (bb BK606.out hb)
       replace BK613 := Aside0.mk (bb BK613.out hb)
       replace BK620 := Aside0.mk (bb BK620.out hb)
       replace HB := Aside0.mk (below_step B16x0_ hb)
       (try clear hb)
       (try clear hb2)
       (try clear hk)
       (try clear hi)
       refine hK.out _ _ ⟨(blk_cell BK613.out 0).trans rfl, (blk_cell BK613.out 1).trans rfl, (blk_cell BK613.out 2).trans rfl, (blk_cell BK606.out 0).trans rfl, (blk_cell BK606.out 1).trans rfl, (blk_cell BK606.out 2).trans rfl, HS6_, HS7_, HS8_⟩ (fun hHeld => ?_)
       clear hK K
       refine norm_ (a' := ?_) ?_ ?_
       rotate_left
       ·show Act.put _ (some 60) _ = _
        simp only [Act.put, List.setIfInBounds_toArray, List.set_cons_zero, List.set_cons_succ, i64_w, i32_w]
        rfl
       refine pu_ 19 61 HT_ ?_
       refine pu_ 20 62 HT_ ?_
       refine done_ (done_of HT_.out B16x34_) ?_
       try go_wp2
       go_meet
       case rel => exact ⟨_, (!t623), (be_), H', ⟨B16x40_⟩, ⟨B16x4_⟩, ⟨B16x6_⟩, ⟨B16x13_⟩, ⟨B16x23_⟩, ⟨B16x24_⟩, ⟨B16x25_⟩, ⟨B16x26_⟩, ⟨B16x0_⟩⟩
     ·rw [if_neg c33] at H
      have c33b0 := beq_eq_false_iff_ne.mpr c33
      have c33b1 := bne_iff_ne.mpr c33
      (first | rw [c33b0] | (simp only [i64_w, i32_w]; rw [c33b0]) | skip)
      have H' := Aside0.mk H
      clear H
      try go_wp2
      have n0_ : Aside0 (Kd.R k28 28 (((w26.setCell ⟨gb620, 0, none⟩ (.int .i64 t614)).setCell ⟨gb620, 1, none⟩ (.int .i64 t615)).setCell ⟨gb620, 2, none⟩ (.slice Ao31 t616.length co31)) w.heap.size (fun k_ => some k_ ≠ (.slice Ao22 t609.length co22 : Value).ownBlock ∧ some k_ ≠ (.slice Ao31 t616.length co31 : Value).ownBlock ∧ k_ ≠ gb606) (.slice Ao15 t598.length co15) t598) := ⟨B16x8_⟩
      have n1_ : Aside0 (Kd.R k28 28 (((w26.setCell ⟨gb620, 0, none⟩ (.int .i64 t614)).setCell ⟨gb620, 1, none⟩ (.int .i64 t615)).setCell ⟨gb620, 2, none⟩ (.slice Ao31 t616.length co31)) w.heap.size (fun k_ => some k_ ≠ (.slice Ao15 t598.length co15 : Value).ownBlock ∧ some k_ ≠ (.slice Ao31 t616.length co31 : Value).ownBlock ∧ k_ ≠ gb606) (.slice Ao22 t609.length co22) t609) := ⟨B16x9_⟩
      have n2_ : Aside0 (Kd.R k28 28 (((w26.setCell ⟨gb620, 0, none⟩ (.int .i64 t614)).setCell ⟨gb620, 1, none⟩ (.int .i64 t615)).setCell ⟨gb620, 2, none⟩ (.slice Ao31 t616.length co31)) w.heap.size (fun k_ => some k_ ≠ (.slice Ao15 t598.length co15 : Value).ownBlock ∧ some k_ ≠ (.slice Ao22 t609.length co22 : Value).ownBlock ∧ k_ ≠ gb606) (.slice Ao31 t616.length co31) t616) := ⟨B16x10_⟩
      have n3_ : Aside0 ((((w26.setCell ⟨gb620, 0, none⟩ (.int .i64 t614)).setCell ⟨gb620, 1, none⟩ (.int .i64 t615)).setCell ⟨gb620, 2, none⟩ (.slice Ao31 t616.length co31)).heap[gb605]? = some (.cells #[.int .i64 t596, .int .i64 t597, .slice Ao15 t598.length co15] 26 (0, 0))) := ⟨B16x18_⟩
      have n4_ : Aside0 ((((w26.setCell ⟨gb620, 0, none⟩ (.int .i64 t614)).setCell ⟨gb620, 1, none⟩ (.int .i64 t615)).setCell ⟨gb620, 2, none⟩ (.slice Ao31 t616.length co31)).heap[gb606]? = some (.cells #[.int .i64 t602, .int .i64 t603, .string t604] 28 (0, 0))) := ⟨B16x19_⟩
      have n5_ : Aside0 ((((w26.setCell ⟨gb620, 0, none⟩ (.int .i64 t614)).setCell ⟨gb620, 1, none⟩ (.int .i64 t615)).setCell ⟨gb620, 2, none⟩ (.slice Ao31 t616.length co31)).heap[gb613]? = some (.cells #[.int .i64 t607, .int .i64 t608, .slice Ao22 t609.length co22] 26 (0, 0))) := ⟨B16x20_⟩
      have n6_ : Aside0 ((((w26.setCell ⟨gb620, 0, none⟩ (.int .i64 t614)).setCell ⟨gb620, 1, none⟩ (.int .i64 t615)).setCell ⟨gb620, 2, none⟩ (.slice Ao31 t616.length co31)).heap[gb620]? = some (.cells #[.int .i64 t614, .int .i64 t615, .slice Ao31 t616.length co31] 26 (0, 0))) := ⟨B16x21_⟩
      have n7_ : Aside0 (Below w.heap.size w (((w26.setCell ⟨gb620, 0, none⟩ (.int .i64 t614)).setCell ⟨gb620, 1, none⟩ (.int .i64 t615)).setCell ⟨gb620, 2, none⟩ (.slice Ao31 t616.length co31))) := ⟨B16x0_⟩
      (try clear HO600)
      (try clear HO611)
      (try clear HO618)
      (try clear BK605)
      (try clear BK606)
      (try clear BK613)
      (try clear BK620)
      (try clear HB)
      generalize (((w26.setCell ⟨gb620, 0, none⟩ (.int .i64 t614)).setCell ⟨gb620, 1, none⟩ (.int .i64 t615)).setCell ⟨gb620, 2, none⟩ (.slice Ao31 t616.length co31)) = w46 at n0_ n1_ n2_ n3_ n4_ n5_ n6_ n7_ ⊢
      have HO600 := n0_
      have HO611 := n1_
      have HO618 := n2_
      have BK605 := n3_
      have BK606 := n4_
      have BK613 := n5_
      have BK620 := n6_
      have HB := n7_
      clear n0_ n1_ n2_ n3_ n4_ n5_ n6_ n7_
      replace HO600 := Aside0.mk (Kd.R_drew HO600.out)
      replace HO611 := Aside0.mk (Kd.R_drew HO611.out)
      replace HO618 := Aside0.mk (Kd.R_drew HO618.out)
      replace BK605 := Aside0.mk (blk_drew BK605.out)
      replace BK606 := Aside0.mk (blk_drew BK606.out)
      replace BK613 := Aside0.mk (blk_drew BK613.out)
      replace BK620 := Aside0.mk (blk_drew BK620.out)
      replace HB := Aside0.mk (below_drew1 HB.out)
      refine start_ (n := 21) (S := fun w' => w'.cell? ⟨gb613, 0, none⟩ = some (.int .i64 t607) ∧ w'.cell? ⟨gb613, 1, none⟩ = some (.int .i64 t608) ∧ w'.cell? ⟨gb613, 2, none⟩ = some (.slice Ao22 t609.length co22)) (ds := []) #[false, false, false, false, false, false, false, false, false, false, false, false, false, false, false, false, false, false, false, false, false] B16x34_ rfl rfl ⟨(blk_cell BK613.out 0).trans rfl, (blk_cell BK613.out 1).trans rfl, (blk_cell BK613.out 2).trans rfl⟩ (fun hHeld => ?_); refine with_tabW laws_FnPuts.tab10 laws_FnPuts.bits10 (fun HT_ HW_ => ?_)
      generalize w46.drew = w47 at HO600 HO611 HO618 BK605 BK606 BK613 BK620 HB hHeld ⊢
      refine pu_ 2 44 HT_ ?_
      refine ta_ 0 42 HT_ HW_ hHeld ?_
      refine one_ (i := 1) (N := some 43) #[true, true, true, false, false, false, false, false, false, false, false, false, false, false, false, false, false, false, false, false, false] rfl rfl (one_of HT_.out B16x34_) (by decide) (fun K hK => ?_)
      refine goes_ Try.func11 B16x34_ rfl #[.agg #[.int .i64 t607, .int .i64 t608, .slice Ao22 t609.length co22]] (by rfl) rfl rfl B16x1_ ?_
      with_reducible refine (laws_last.calls t607 t608 _ _ t609 t621 _ ?side1 ?side2 A32.out).mono ?_
      (case side1 => exact B16x22_)
      (case side2 => exact (Kd.R_reads' HO611.out).2.1)
      rintro e w48 ⟨rfl, hb⟩
      refine ⟨_, rfl, ?_⟩
      replace HO600 := Aside0.mk (Kd.R_below B16x4_ hb)
      replace HO611 := Aside0.mk (Kd.R_below B16x6_ hb)
      replace HO618 := Aside0.mk (Kd.R_below B16x13_ hb)
      replace BK605 := Aside0.mk (bb BK605.out hb)
      replace BK606 := Aside0.mk (bb BK606.out hb)
      replace BK613 := Aside0.mk (bb BK613.out hb)
      replace BK620 := Aside0.mk (bb BK620.out hb)
      replace HB := Aside0.mk (below_step B16x0_ hb)
      (try clear hb)
      (try clear hb2)
      (try clear hk)
      (try clear hi)
      refine hK.out _ _ ⟨(blk_cell BK613.out 0).trans rfl, (blk_cell BK613.out 1).trans rfl, (blk_cell BK613.out 2).trans rfl⟩ (fun hHeld => ?_)
      clear hK K
      refine norm_ (a' := ?_) ?_ ?_
      rotate_left
      ·show Act.put _ (some 43) _ = _
       simp only [Act.put, List.setIfInBounds_toArray, List.set_cons_zero, List.set_cons_succ, i64_w, i32_w]
       rfl
      refine pu_ 3 45 HT_ ?_
      refine pu_ 4 46 HT_ ?_
      refine of_ 5 47 HT_ ?_
      refine of_ 6 48 HT_ ?_
      refine of_ 7 49 HT_ ?_
      refine of_ 8 50 HT_ ?_
      refine of_ 9 51 HT_ ?_
      refine of_ 10 52 HT_ ?_
      refine of_ 11 53 HT_ ?_
      refine of_ 12 54 HT_ ?_
      refine of_ 13 55 HT_ ?_
      refine of_ 14 56 HT_ ?_
      refine pu_ 15 57 HT_ ?_
      refine pu_ 16 58 HT_ ?_
      refine of_ 17 59 HT_ ?_
      refine of_ 18 60 HT_ ?_
      refine of_ 19 61 HT_ ?_
      refine pu_ 20 62 HT_ ?_
      refine done_ (done_of HT_.out B16x34_) ?_
      try go_wp2
      go_meet
      case rel => exact ⟨_, (true), (be_), H', ⟨B16x40_⟩, ⟨B16x4_⟩, ⟨B16x6_⟩, ⟨B16x13_⟩, ⟨B16x23_⟩, ⟨B16x24_⟩, ⟨B16x25_⟩, ⟨B16x26_⟩, ⟨B16x0_⟩⟩
    case rest =>
     clear HC9
     try clear c3
     obtain ⟨kq, x62_8, rfl, HA, HJ8, HO_606002, HO_614002, HO_621002, BK605, BK606, BK613, BK620, HB⟩ := hcut
     cases kq with
     | zero => exact absurd HA.out (by simp [laws_FnPuts.j0])
     | succ kj8 =>
      have H := HA.out
      clear HA
      simp only [laws_FnPuts.j0] at H
      by_cases c49 : x62_8 = true
      ·subst c49
       rw [if_pos rfl] at H
       exact absurd ((Option.some.inj H).trans hr_.out) (by decide)
      replace c49 := Bool.eq_false_iff.mpr c49
      subst c49
      rw [if_neg (show ¬ (false = true) by decide)] at H
      have H' := Aside0.mk H
      clear H
      go_wp2
      go_loopg [10] kj8 (fun kq v10 w' => ∃ (x10_2 : Int), v10 = .int .i64 x10_2 ∧ Aside0 (laws_FnPuts.l0 kq x10_2 t596 t597 t598 t607 t608 t609 = some r) ∧ Aside0 (kq ≤ kj8) ∧ Aside0 (Kd.R k28 28 w' w.heap.size (fun k_ => some k_ ≠ ((.slice Ao22 t609.length co22) : Value).ownBlock ∧ some k_ ≠ ((.slice Ao31 t616.length co31) : Value).ownBlock ∧ k_ ≠ gb606) (.slice Ao15 t598.length co15) t598) ∧ Aside0 (Kd.R k28 28 w' w.heap.size (fun k_ => some k_ ≠ ((.slice Ao15 t598.length co15) : Value).ownBlock ∧ some k_ ≠ ((.slice Ao31 t616.length co31) : Value).ownBlock ∧ k_ ≠ gb606) (.slice Ao22 t609.length co22) t609) ∧ Aside0 (Kd.R k28 28 w' w.heap.size (fun k_ => some k_ ≠ ((.slice Ao15 t598.length co15) : Value).ownBlock ∧ some k_ ≠ ((.slice Ao22 t609.length co22) : Value).ownBlock ∧ k_ ≠ gb606) (.slice Ao31 t616.length co31) t616) ∧ Aside0 (w'.heap[gb605]? = some (.cells #[.int .i64 t596, .int .i64 t597, (.slice Ao15 t598.length co15)] 26 (0, 0))) ∧ Aside0 (w'.heap[gb606]? = some (.cells #[.int .i64 t602, .int .i64 t603, .string t604] 28 (0, 0))) ∧ Aside0 (w'.heap[gb613]? = some (.cells #[.int .i64 t607, .int .i64 t608, (.slice Ao22 t609.length co22)] 26 (0, 0))) ∧ Aside0 (w'.heap[gb620]? = some (.cells #[.int .i64 t614, .int .i64 t615, (.slice Ao31 t616.length co31)] 26 (0, 0))) ∧ Aside0 (Below w.heap.size w w'))
      case atStart => exact ⟨(0), (be_), H', ⟨Nat.le_refl _⟩, ⟨B16x37_⟩, ⟨B16x38_⟩, ⟨B16x39_⟩, ⟨B16x23_⟩, ⟨B16x24_⟩, ⟨B16x25_⟩, ⟨B16x26_⟩, ⟨B16x0_⟩⟩
      case round =>
       clear H'
       try clear c3
       try clear c49
       obtain ⟨x10_2, rfl, HA, HK2, HO_606002, HO_614002, HO_621002, BK605, BK606, BK613, BK620, HB⟩ := hrel
       cases gk with
       | zero => exact absurd HA.out (by simp [laws_FnPuts.l0])
       | succ k2 =>
        have H := HA.out
        clear HA
        simp only [laws_FnPuts.l0] at H
        by_cases c50 : (wrap64 (x10_2 + 1)) < (t609.length : Int)
        ·rw [if_pos c50] at H
         have c50b0 : decide ((wrap64 (x10_2 + 1)) < (t609.length : Int)) = true := decide_eq_true c50
         clear c50
         by_cases c51 : 0 ≤ x10_2
         rotate_left
         ·rw [if_neg c51] at H
          exact absurd H (by simp)
         rw [if_pos c51] at H
         have c51b0 : decide (0 ≤ x10_2) = true := decide_eq_true c51
         clear c51
         by_cases c52 : x10_2 < (t609.length : Int)
         rotate_left
         ·rw [if_neg c52] at H
          exact absurd H (by simp)
         rw [if_pos c52] at H
         have c52b0 : decide (x10_2 < (t609.length : Int)) = true := decide_eq_true c52
         clear c52
         by_cases c53 : x10_2 < (t598.length : Int)
         rotate_left
         ·rw [if_neg c53] at H
          exact absurd H (by simp)
         rw [if_pos c53] at H
         have c53b0 : decide (x10_2 < (t598.length : Int)) = true := decide_eq_true c53
         clear c53
         by_cases c54 : (!(((rd_T28 t609 x10_2).f0) == ((rd_T28 t598 x10_2).f0)) || (!(((rd_T28 t609 x10_2).f1) == ((rd_T28 t598 x10_2).f1)) || (!((((rd_T28 t609 x10_2).f2).toList) == (((rd_T28 t598 x10_2).f2).toList))))) = true
         ·rw [if_pos c54] at H
          have c54b0 : (!(((rd_T28 t609 x10_2).f0) == ((rd_T28 t598 x10_2).f0)) || (!(((rd_T28 t609 x10_2).f1) == ((rd_T28 t598 x10_2).f1)) || (!((((rd_T28 t609 x10_2).f2).toList) == (((rd_T28 t598 x10_2).f2).toList))))) = true := c54
          clear c54
          exact absurd ((Option.some.inj H).trans hr_.out) (by decide)
         rw [if_neg c54] at H
         have c54b0 : (!(((rd_T28 t609 x10_2).f0) == ((rd_T28 t598 x10_2).f0)) || (!(((rd_T28 t609 x10_2).f1) == ((rd_T28 t598 x10_2).f1)) || (!((((rd_T28 t609 x10_2).f2).toList) == (((rd_T28 t598 x10_2).f2).toList))))) = false := by simpa using c54
         clear c54
         have H' := Aside0.mk H
         clear H
         have hnb55 := NB613_605.out
         have hnc55 := NB605_613.out
         have hnb56 := NB613_606.out
         have hnc56 := NB606_613.out
         have hnb57 := NB613_620.out
         have hnc57 := NB620_613.out
         obtain ⟨hcz58_0, hcz58_1, hcz58_2⟩ := cl3 BK613.out
         obtain ⟨hfz58_0, hfz58_1, hfz58_2⟩ := fr3 BK613.out
         try go_wp2
         replace HO_606002 := Aside0.mk (Kd.R_drew HO_606002.out)
         replace HO_614002 := Aside0.mk (Kd.R_drew HO_614002.out)
         replace HO_621002 := Aside0.mk (Kd.R_drew HO_621002.out)
         replace BK605 := Aside0.mk (blk_drew BK605.out)
         replace BK606 := Aside0.mk (blk_drew BK606.out)
         replace BK613 := Aside0.mk (blk_drew BK613.out)
         replace BK620 := Aside0.mk (blk_drew BK620.out)
         replace HB := Aside0.mk (below_drew1 HB.out)
         have p624 : 0 ≤ (x10_2 : Int) := of_decide_eq_true B16x29_
         have q624 : x10_2 < (t609.length : Int) := of_decide_eq_true B16x29_
         obtain ⟨ad624, e624, hx624_0, hx624_1, hx624_2⟩ := at_T28 (Kd.R_reads' HO_614002.out).2.2 x10_2 p624 q624
         cases e624
         replace p624 := eq_true p624
         replace q624 := eq_true q624
         have p625 : 0 ≤ (x10_2 : Int) := of_decide_eq_true B16x29_
         have q625 : x10_2 < (t598.length : Int) := of_decide_eq_true B16x29_
         obtain ⟨ad625, e625, hx625_0, hx625_1, hx625_2⟩ := at_T28 (Kd.R_reads' HO_606002.out).2.2 x10_2 p625 q625
         cases e625
         replace p625 := eq_true p625
         replace q625 := eq_true q625
         refine start_ (n := 11) (S := fun w' => w'.cell? ⟨gb613, 0, none⟩ = some (.int .i64 t607) ∧ w'.cell? ⟨gb613, 1, none⟩ = some (.int .i64 t608) ∧ w'.cell? ⟨gb613, 2, none⟩ = some (.slice (some ad624) t609.length co22) ∧ w'.cell? ⟨gb605, 0, none⟩ = some (.int .i64 t596) ∧ w'.cell? ⟨gb605, 1, none⟩ = some (.int .i64 t597) ∧ w'.cell? ⟨gb605, 2, none⟩ = some (.slice (some ad625) t598.length co15) ∧ w'.cell? (ad624.add ((x10_2).toNat * 3)) = some (.int .i64 ((rd_T28 t609 x10_2).f0)) ∧ w'.cell? ⟨(ad624.add ((x10_2).toNat * 3)).block, (ad624.add ((x10_2).toNat * 3)).off + 1, none⟩ = some (.int .i64 ((rd_T28 t609 x10_2).f1)) ∧ w'.cell? ⟨(ad624.add ((x10_2).toNat * 3)).block, (ad624.add ((x10_2).toNat * 3)).off + 2, none⟩ = some (.string ((rd_T28 t609 x10_2).f2)) ∧ w'.cell? (ad625.add ((x10_2).toNat * 3)) = some (.int .i64 ((rd_T28 t598 x10_2).f0)) ∧ w'.cell? ⟨(ad625.add ((x10_2).toNat * 3)).block, (ad625.add ((x10_2).toNat * 3)).off + 1, none⟩ = some (.int .i64 ((rd_T28 t598 x10_2).f1)) ∧ w'.cell? ⟨(ad625.add ((x10_2).toNat * 3)).block, (ad625.add ((x10_2).toNat * 3)).off + 2, none⟩ = some (.string ((rd_T28 t598 x10_2).f2))) (ds := []) #[false, false, false, false, false, false, false, false, false, false, false] B16x34_ rfl rfl ⟨(blk_cell BK613.out 0).trans rfl, (blk_cell BK613.out 1).trans rfl, (blk_cell BK613.out 2).trans rfl, (blk_cell BK605.out 0).trans rfl, (blk_cell BK605.out 1).trans rfl, (blk_cell BK605.out 2).trans rfl, hx624_0, hx624_1, hx624_2, hx625_0, hx625_1, hx625_2⟩ (fun hHeld => ?_); refine with_tabW laws_FnPuts.tab15 laws_FnPuts.bits15 (fun HT_ HW_ => ?_)
         generalize wr.drew = w59 at HO_606002 HO_614002 HO_621002 BK605 BK606 BK613 BK620 HB hx624_0 hx624_1 hx624_2 hx625_0 hx625_1 hx625_2 hHeld ⊢
         refine pu_ 0 71 HT_ ?_
         refine pu_ 2 73 HT_ ?_
         refine pu_ 5 76 HT_ ?_
         refine pu_ 7 78 HT_ ?_
         refine ta_ 1 72 HT_ HW_ hHeld ?_
         refine pu_ 3 74 HT_ ?_
         refine ta_ 4 75 HT_ HW_ hHeld ?_
         refine ta_ 6 77 HT_ HW_ hHeld ?_
         refine pu_ 8 79 HT_ ?_
         refine ta_ 9 80 HT_ HW_ hHeld ?_
         refine pu_ 10 81 HT_ ?_
         refine done_ (done_of HT_.out B16x34_) ?_
         try go_wp2
         go_roundg k2
         case measure => have := HJ8.out; have := HK2.out; omega
         case rel => exact ⟨(wrap64 (x10_2 + 1)), (be_), H', ⟨(by have := HJ8.out; have := HK2.out; omega)⟩, ⟨B16x37_⟩, ⟨B16x38_⟩, ⟨B16x39_⟩, ⟨B16x23_⟩, ⟨B16x24_⟩, ⟨B16x25_⟩, ⟨B16x26_⟩, ⟨B16x0_⟩⟩
        ·rw [if_neg c50] at H
         have c50b0 : decide ((wrap64 (x10_2 + 1)) < (t609.length : Int)) = false := decide_eq_false c50
         clear c50
         obtain rfl := Option.some.inj H
         have hnb60 := NB613_605.out
         have hnc60 := NB605_613.out
         have hnb61 := NB613_606.out
         have hnc61 := NB606_613.out
         have hnb62 := NB613_620.out
         have hnc62 := NB620_613.out
         obtain ⟨hcz63_0, hcz63_1, hcz63_2⟩ := cl3 BK613.out
         obtain ⟨hfz63_0, hfz63_1, hfz63_2⟩ := fr3 BK613.out
         go_wp2
         go_ret
         exact ⟨B16x35_, B16x0_⟩
   ·replace c8 := Bool.eq_false_iff.mpr c8
    subst c8
    rw [if_neg (show ¬ (false = true) by decide)] at H
    obtain rfl := Option.some.inj H
    go_enter Try.func3, Try.ntmps3
    go_wp2_with (first | ((with_reducible refine gate_callee (f := 7) rfl ?_); refine goesL_ (some 12) rfl rfl Try.func7 B16x34_ rfl #[.slice A0 l0.length c0] rfl B16x1_ ?_; (with_reducible refine (laws_big.calls _ _ l0 false _ ?side1 ?side2 A2.out).mono ?_); (case side1 => exact B16x17_); (case side2 => exact HC0.out); rintro e w' ⟨rfl, ⟨nd, rfl⟩⟩; refine ⟨_, rfl, ?_⟩) | ((with_reducible refine gate_callee (f := 8) rfl ?_); refine goesL_ (some 15) rfl rfl Try.func8 B16x34_ rfl #[.slice A0 l0.length c0] rfl B16x1_ ?_; (with_reducible refine (spec_DrawLogPut.calls k _ _ l0 t596 t597 t598 t601 t602 t603 t604 _ ?side1 ?side2 A4.out).mono ?_); (case side1 => exact B16x17_); (case side2 => exact HC0.out); rintro e w64 ⟨v599, rfl, ho0, hb⟩; refine ⟨_, rfl, ?_⟩; have HO600 := Aside0.mk (Kd.R_lower ho0 (below_size B16x16_)); replace HB := Aside0.mk (below_step B16x16_ hb); (try clear hb); (try clear ho0)) | ((with_reducible refine gate_dst (N := 3) rfl ?_); (try (refine gate_guard (by rfl) ?_; dsimp only)); refine box_event ?hg (N := 3) ?hd (cs := #[.int .i64 0, .int .i64 0, .slice none 0 0]) (t := 26) ?hr ?_; (case hd => rfl); (case hg => rfl); (case hr => exact B16x32_); intro gb605 hg w65 hbox hb; replace HO600 := Aside0.mk (Kd.R_below B16x4_ hb); have BK605 := Aside0.mk (hbox); have GW605 := Aside0.mk ((bs hg (below_size HB.out))); have GE605 := Aside0.mk ((bs hg (below_size HB.out))); replace HB := Aside0.mk (below_step B16x16_ hb); clear hb hbox hg) | ((with_reducible refine gate_dst (N := 5) rfl ?_); (try (refine gate_guard (by rfl) ?_; dsimp only)); refine box_event ?hg (N := 5) ?hd (cs := #[.int .i64 0, .int .i64 0, .string (⟨#[]⟩ : ByteArray)]) (t := 28) ?hr ?_; (case hd => rfl); (case hg => rfl); (case hr => exact B16x32_); intro gb606 hg w66 hbox hb; replace HO600 := Aside0.mk (Kd.R_below (Kd.R_elderB B16x4_ gb606 (Nat.le_of_eq hg.symm)) hb); have BK606 := Aside0.mk (hbox); have GW606 := Aside0.mk ((bs hg (below_size HB.out))); have GE606 := Aside0.mk ((bs hg (below_size HB.out))); replace HB := Aside0.mk (below_step B16x36_ hb); have NB605_606 := Aside0.mk ((nl hg (blk_lt BK605.out))); have NB606_605 := Aside0.mk ((ng hg (blk_lt BK605.out))); replace BK605 := Aside0.mk (bb BK605.out hb); clear hb hbox hg; have hnb67 := NB605_606.out; have hnc67 := NB606_605.out; obtain ⟨hcz68_0, hcz68_1, hcz68_2⟩ := cl3 BK605.out; obtain ⟨hfz68_0, hfz68_1, hfz68_2⟩ := fr3 BK605.out; obtain ⟨Ao69, co69, eo69⟩ := Kd.R_slice HO600.out; subst eo69; obtain ⟨hcz70_0, hcz70_1, hcz70_2⟩ := cl3 BK606.out; obtain ⟨hfz70_0, hfz70_1, hfz70_2⟩ := fr3 BK606.out) | ((with_reducible refine gate_callee (f := 9) rfl ?_); refine goesL_ (some 23) rfl rfl Try.func9 B16x34_ rfl #[.agg #[.int .i64 t596, .int .i64 t597, .slice Ao69 t598.length co69], .int .i64 t601, .agg #[.int .i64 t602, .int .i64 t603, .string t604]] rfl B16x1_ ?_; (with_reducible refine (impl_LogPut.calls k t596 t597 _ _ t598 t601 t602 t603 t604 t607 t608 t609 false _ ?side1 ?side2 A5.out).mono ?_); (case side1 => refine (Kd.R_reads' (e := 28) (base := w.heap.size) (ok := fun k_ => (True ∧ k_ ≠ gb606)) (n := t598.length) (c := co69) ?_).2.2; exact B16x3_); (case side2 => exact (Kd.R_reads' HO600.out).2.1); rintro e w71 ⟨v610, rfl, ho0, hb⟩; refine ⟨_, rfl, ?_⟩; have HO611 := Aside0.mk (Kd.R_lower (Kd.R_newB (Kd.R_new' ho0 (Kd.R_lt B16x3_)) (g := gb606) (o := .cells #[.int .i64 t602, .int .i64 t603, .string t604] 28 (0, 0)) B16x11_) (below_size B16x7_)); replace HO600 := Aside0.mk (Kd.R_elder' B16x3_ (Kd.R_base ho0) hb); replace BK605 := Aside0.mk (blk_below (g := gb605) (o := .cells #[.int .i64 t596, .int .i64 t597, .slice Ao69 t598.length co69] 26 (0, 0)) B16x30_ hb); replace BK606 := Aside0.mk (blk_below (g := gb606) (o := .cells #[.int .i64 t602, .int .i64 t603, .string t604] 28 (0, 0)) B16x11_ hb); replace HB := Aside0.mk (below_step B16x7_ hb); (try clear hb); (try clear ho0)) | ((with_reducible refine gate_dst (N := 6) rfl ?_); (try (refine gate_guard (by rfl) ?_; dsimp only)); refine box_event ?hg (N := 6) ?hd (cs := #[.int .i64 0, .int .i64 0, .slice none 0 0]) (t := 26) ?hr ?_; (case hd => rfl); (case hg => rfl); (case hr => exact B16x32_); intro gb613 hg w72 hbox hb; replace HO600 := Aside0.mk (Kd.R_below B16x4_ hb); replace HO611 := Aside0.mk (Kd.R_below B16x6_ hb); have BK613 := Aside0.mk (hbox); have GW613 := Aside0.mk ((bs hg (below_size HB.out))); have GE613 := Aside0.mk ((bs hg (below_size HB.out))); replace HB := Aside0.mk (below_step B16x7_ hb); have NB605_613 := Aside0.mk ((nl hg (blk_lt BK605.out))); have NB613_605 := Aside0.mk ((ng hg (blk_lt BK605.out))); replace BK605 := Aside0.mk (bb BK605.out hb); have NB606_613 := Aside0.mk ((nl hg (blk_lt BK606.out))); have NB613_606 := Aside0.mk ((ng hg (blk_lt BK606.out))); replace BK606 := Aside0.mk (bb BK606.out hb); clear hb hbox hg; have hnb73 := NB613_605.out; have hnc73 := NB605_613.out; have hnb74 := NB613_606.out; have hnc74 := NB606_613.out; obtain ⟨hcz75_0, hcz75_1, hcz75_2⟩ := cl3 BK613.out; obtain ⟨hfz75_0, hfz75_1, hfz75_2⟩ := fr3 BK613.out; obtain ⟨Ao76, co76, eo76⟩ := Kd.R_slice HO611.out; subst eo76; obtain ⟨hcz77_0, hcz77_1, hcz77_2⟩ := cl3 BK605.out; obtain ⟨hfz77_0, hfz77_1, hfz77_2⟩ := fr3 BK605.out; obtain ⟨hcz78_0, hcz78_1, hcz78_2⟩ := cl3 BK606.out; obtain ⟨hfz78_0, hfz78_1, hfz78_2⟩ := fr3 BK606.out) | ((with_reducible refine gate_callee (f := 10) rfl ?_); refine goesL_ (some 30) rfl rfl Try.func10 B16x34_ rfl #[.agg #[.int .i64 t596, .int .i64 t597, .slice Ao69 t598.length co69], .int .i64 t601, .agg #[.int .i64 t602, .int .i64 t603, .string t604]] rfl B16x1_ ?_; (with_reducible refine (spec_LogPut.calls k t596 t597 _ _ t598 t601 t602 t603 t604 t614 t615 t616 t619 _ ?side1 ?side2 A6.out).mono ?_); (case side1 => refine (Kd.R_reads' (e := 28) (base := w.heap.size) (ok := fun k_ => ((True ∧ k_ ≠ gb606) ∧ some k_ ≠ (.slice Ao76 t609.length co76 : Value).ownBlock)) (n := t598.length) (c := co69) ?_).2.2; exact B16x15_); (case side2 => exact (Kd.R_reads' HO600.out).2.1); rintro e w79 ⟨v617, rfl, ho0, hb⟩; refine ⟨_, rfl, ?_⟩; have HO618 := Aside0.mk (Kd.R_lower (Kd.R_newB (Kd.R_new' (Kd.R_new' ho0 (Kd.R_lt B16x15_)) (Kd.R_lt B16x28_)) (g := gb606) (o := .cells #[.int .i64 t602, .int .i64 t603, .string t604] 28 (0, 0)) B16x12_) (below_size B16x5_)); replace HO600 := Aside0.mk (Kd.R_elder' B16x15_ (Kd.R_base ho0) hb); replace HO611 := Aside0.mk (Kd.R_elder' B16x28_ (Kd.R_base ho0) hb); replace BK605 := Aside0.mk (blk_below (g := gb605) (o := .cells #[.int .i64 t596, .int .i64 t597, .slice Ao69 t598.length co69] 26 (0, 0)) B16x31_ hb); replace BK606 := Aside0.mk (blk_below (g := gb606) (o := .cells #[.int .i64 t602, .int .i64 t603, .string t604] 28 (0, 0)) B16x12_ hb); replace BK613 := Aside0.mk (blk_below (g := gb613) (o := .cells #[.int .i64 t607, .int .i64 t608, .slice Ao76 t609.length co76] 26 (0, 0)) B16x33_ hb); replace HB := Aside0.mk (below_step B16x5_ hb); (try clear hb); (try clear ho0)) | ((with_reducible refine gate_dst (N := 8) rfl ?_); (try (refine gate_guard (by rfl) ?_; dsimp only)); refine box_event ?hg (N := 8) ?hd (cs := #[.int .i64 0, .int .i64 0, .slice none 0 0]) (t := 26) ?hr ?_; (case hd => rfl); (case hg => rfl); (case hr => exact B16x32_); intro gb620 hg w80 hbox hb; replace HO600 := Aside0.mk (Kd.R_below B16x4_ hb); replace HO611 := Aside0.mk (Kd.R_below B16x6_ hb); replace HO618 := Aside0.mk (Kd.R_below B16x13_ hb); have BK620 := Aside0.mk (hbox); have GW620 := Aside0.mk ((bs hg (below_size HB.out))); have GE620 := Aside0.mk ((bs hg (below_size HB.out))); replace HB := Aside0.mk (below_step B16x5_ hb); have NB605_620 := Aside0.mk ((nl hg (blk_lt BK605.out))); have NB620_605 := Aside0.mk ((ng hg (blk_lt BK605.out))); replace BK605 := Aside0.mk (bb BK605.out hb); have NB606_620 := Aside0.mk ((nl hg (blk_lt BK606.out))); have NB620_606 := Aside0.mk ((ng hg (blk_lt BK606.out))); replace BK606 := Aside0.mk (bb BK606.out hb); have NB613_620 := Aside0.mk ((nl hg (blk_lt BK613.out))); have NB620_613 := Aside0.mk ((ng hg (blk_lt BK613.out))); replace BK613 := Aside0.mk (bb BK613.out hb); clear hb hbox hg; have hnb81 := NB620_605.out; have hnc81 := NB605_620.out; have hnb82 := NB620_606.out; have hnc82 := NB606_620.out; have hnb83 := NB620_613.out; have hnc83 := NB613_620.out; obtain ⟨hcz84_0, hcz84_1, hcz84_2⟩ := cl3 BK620.out; obtain ⟨hfz84_0, hfz84_1, hfz84_2⟩ := fr3 BK620.out; obtain ⟨Ao85, co85, eo85⟩ := Kd.R_slice HO618.out; subst eo85; obtain ⟨hcz86_0, hcz86_1, hcz86_2⟩ := cl3 BK613.out; obtain ⟨hfz86_0, hfz86_1, hfz86_2⟩ := fr3 BK613.out))
    go_ret
    exact ⟨B16x35_, B16x0_⟩

/-- THE ONE PURE STATEMENT of laws_FnPuts: yours. -/
def laws_FnPuts.Pure : Prop := ∀ (l0 : List Int), l0.length ≤ maxLen → l0.length * 1 ≤ 140737488351232 → (∀ x ∈ l0, (Lit.int .u8 x).wf = true) → ∃ k, laws_FnPuts.f k l0 = some true
theorem laws_FnPuts.walk (P : laws_FnPuts.Pure) (a0 : Option Addr) (len0 cap0 : Nat) (z0 : List Int) (w : World) (w0 : (a0 = none ∧ len0 = 0 ∧ cap0 = 0 ∧ z0 = []) ∨ ∃ x, a0 = some x ∧ len0 ≤ cap0 ∧ cap0 ≤ maxLen ∧ z0.length = cap0 ∧ (∀ i, i < z0.length → w.cell? (x.add i) = some (.int .u8 (z0.getD i 0))) ∧ ∀ n ∈ z0, (Lit.int .u8 n).wf = true) (y0 : len0 * 1 ≤ 140737488351232) :
  Calls Try.prog 3 #[.slice a0 len0 cap0] w fun e w' => e = .returned (.bool true) ∧ Below w.heap.size w w' := by
 obtain ⟨l0, rfl, hr0, hm0, hw0, hc0⟩ := ReadsInt.ofRowC w0
 obtain ⟨k, h⟩ := P l0 hm0 y0 hw0
 refine (laws_FnPuts.calls k _ _ l0 true w (Kd.C_of_reads (d := (0 : Int)) (h1 := fun _ => rfl) hr0) hc0 h ⟨rfl⟩).mono ?_
 rintro e w' ⟨rfl, hd⟩
 exact ⟨rfl, hd⟩

end Go.Proofs.Ytgffdijodnpolaa.QFnPuts
