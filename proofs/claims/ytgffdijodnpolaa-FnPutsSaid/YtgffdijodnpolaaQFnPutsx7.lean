/- Functions that a law reaches, as functions of Lean, and the walks that show that the calls come to their answers: written by a program of this project out of the translation. No condition. -/
import Derived.Test.YtgffdijodnpolaaQFnPutsx0
import Derived.Test.YtgffdijodnpolaaQFnPutsx2
import Derived.Test.YtgffdijodnpolaaQFnPutsx3
import Derived.Test.YtgffdijodnpolaaQFnPutsx6
import Derived.Test.YtgffdijodnpolaaVFnPutsShort4
import Derived.Test.YtgffdijodnpolaaVFnPutshort3
import Derived.Test.YtgffdijodnpolaaVFnPutsShort2
import Derived.Test.YtgffdijodnpolaaVFnPutsShort
namespace Go.Proofs.Ytgffdijodnpolaa.QFnPuts
open Go.RowKit Go.Proofs.YtgffdijodnpolaaW.PrintWords Go.Proofs.YtgffdijodnpolaaW.PrintLast Go.Proofs.YtgffdijodnpolaaW.PrintMore Go.Proofs.Ytgffdijodnpolaa.Short
attribute [local go_sem] max2_int min2_int max_two min_two max_three min_three max_four min_four   -- for this text's walks alone
set_option linter.unusedVariables false
set_option linter.unusedSimpArgs false

theorem B7x0_ {p : Prop} (h : p := by repeat (first | (with_reducible first | exact HI0.out | apply IsS107.alloc | apply IsS107.drewN | apply IsS107.drew | apply IsS107.set_1 | apply IsS107.set_2 | refine IsS107.far ?_ NB0_255.out _ | refine IsS107.far ?_ NB0_262.out _) | exact HI0.out)) : p := h
theorem B7x1_ {p : Prop} (h : p := by repeat (first | (with_reducible first | exact HI0.out | apply IsS107.alloc | apply IsS107.drewN | apply IsS107.drew | apply IsS107.set_1 | apply IsS107.set_2 | refine IsS107.far ?_ NB0_219.out _ | refine IsS107.far ?_ NB0_220.out _ | refine IsS107.far ?_ NB0_232.out _ | refine IsS107.far ?_ NB0_234.out _) | exact HI0.out)) : p := h
theorem B7x2_ {p : Prop} (h : p := by repeat (first | (with_reducible first | exact HB.out | apply below_alloc | apply pw_below_drewN | apply below_drew1 | refine below_set ?_ (IsS107.ge HI0.out) | refine below_set ?_ GE219.out | refine below_set ?_ GE220.out | refine below_set ?_ GE232.out | refine below_set ?_ GE234.out) | exact HB.out)) : p := h
theorem B7x3_ {p : Prop} (h : p := by repeat (first | (with_reducible first | exact HK.out | apply KeepBut.set_ | apply keep_drewN | apply keep_drew | apply keep_alloc | refine keep_far ?_ GW219.out _ | refine keep_far ?_ GW220.out _ | refine keep_far ?_ GW232.out _ | refine keep_far ?_ GW234.out _) | exact HK.out)) : p := h
theorem B7x4_ {p : Prop} (h : p := by (try simp only [List.map_toArray, List.map_cons, List.map_nil]); first | done | rfl | (simp only [List.length_drop, List.length_take]; rfl)) : p := h
theorem B7x5_ {p : Prop} (h : p := by repeat (first | (with_reducible first | exact HK.out | apply KeepBut.set_ | apply keep_drewN | apply keep_drew | apply keep_alloc | refine keep_far ?_ GW255.out _ | refine keep_far ?_ GW262.out _) | exact HK.out)) : p := h
theorem B7x6_ {p : Prop} (h : p := by repeat (first | (with_reducible first | exact HB.out | apply below_alloc | apply pw_below_drewN | apply below_drew1 | refine below_set ?_ (IsS107.ge HI0.out) | refine below_set ?_ GE255.out | refine below_set ?_ GE262.out) | exact HB.out)) : p := h
theorem B7x7_ {p : Prop} (h : p := by (repeat (with_reducible (first | exact BK220.out | apply blk_drewN | apply blk_drew | apply blk_alloc | apply blk_put | apply bf NB220_232.out))); repeat (first | exact BK220.out | (simp only [List.setIfInBounds_toArray, List.set_cons_zero, List.set_cons_succ]; with_reducible rfl) | rfl)) : p := h
theorem B7x8_ {p : Prop} (h : p := by repeat (first | (with_reducible first | exact HK.out | apply KeepBut.set_ | apply keep_drewN | apply keep_drew | apply keep_alloc | refine keep_far ?_ GW219.out _ | refine keep_far ?_ GW220.out _) | exact HK.out)) : p := h
theorem B7x9_ {p : Prop} (h : p := by repeat (first | (with_reducible first | exact HK.out | apply KeepBut.set_ | apply keep_drewN | apply keep_drew | apply keep_alloc | refine keep_far ?_ GW255.out _) | exact HK.out)) : p := h
theorem B7x10_ {p : Prop} (h : p := by repeat (first | (with_reducible first | exact HI0.out | apply IsS107.alloc | apply IsS107.drewN | apply IsS107.drew | apply IsS107.set_1 | apply IsS107.set_2 | refine IsS107.far ?_ NB0_219.out _ | refine IsS107.far ?_ NB0_220.out _) | exact HI0.out)) : p := h
theorem B7x11_ {p : Prop} (h : p := by repeat (first | (with_reducible first | exact HB.out | apply below_alloc | apply pw_below_drewN | apply below_drew1 | refine below_set ?_ (IsS107.ge HI0.out) | refine below_set ?_ GE219.out | refine below_set ?_ GE220.out) | exact HB.out)) : p := h
theorem B7x12_ {p : Prop} (h : p := by (repeat (with_reducible (first | exact BK219.out | apply blk_drewN | apply blk_drew | apply blk_alloc | apply blk_put | apply bf NB219_232.out))); repeat (first | exact BK219.out | (simp only [List.setIfInBounds_toArray, List.set_cons_zero, List.set_cons_succ]; with_reducible rfl) | rfl)) : p := h
theorem B7x13_ {p : Prop} (h : p := by (repeat (with_reducible (first | exact BK232.out | apply blk_drewN | apply blk_drew | apply blk_alloc | apply blk_put))); repeat (first | exact BK232.out | (simp only [List.setIfInBounds_toArray, List.set_cons_zero, List.set_cons_succ]; with_reducible rfl) | rfl)) : p := h
theorem B7x14_ {p : Prop} (h : p := by (with_reducible repeat (first | apply Kd.R_alloc | apply Kd.R_drewN | apply Kd.R_drew)); exact HO258.out) : p := h
theorem B7x15_ {p : Prop} (h : p := by (repeat (with_reducible (first | exact BK234.out | apply blk_drewN | apply blk_drew | apply blk_alloc | apply blk_put | apply bf NB234_232.out))); repeat (first | exact BK234.out | (simp only [List.setIfInBounds_toArray, List.set_cons_zero, List.set_cons_succ]; with_reducible rfl) | rfl)) : p := h
theorem B7x16_ {p : Prop} (h : p := by (repeat (with_reducible (first | exact BK255.out | apply blk_drewN | apply blk_drew | apply blk_alloc | apply blk_put | apply bf NB255_262.out))); repeat (first | exact BK255.out | (simp only [List.setIfInBounds_toArray, List.set_cons_zero, List.set_cons_succ]; with_reducible rfl) | rfl)) : p := h
theorem B7x17_ {p : Prop} (h : p := by repeat (first | (with_reducible first | exact HI0.out | apply IsS107.alloc | apply IsS107.drewN | apply IsS107.drew | apply IsS107.set_1 | apply IsS107.set_2 | refine IsS107.far ?_ NB0_255.out _ | refine IsS107.far ?_ NB0_262.out _ | refine IsS107.far ?_ NB0_280.out _) | exact HI0.out)) : p := h
theorem B7x18_ {p : Prop} (h : p := by repeat (first | (with_reducible first | exact HB.out | apply below_alloc | apply pw_below_drewN | apply below_drew1 | refine below_set ?_ (IsS107.ge HI0.out) | refine below_set ?_ GE255.out | refine below_set ?_ GE262.out | refine below_set ?_ GE280.out) | exact HB.out)) : p := h
theorem B7x19_ {p : Prop} (h : p := by (repeat (with_reducible (first | exact BK262.out | apply blk_drewN | apply blk_drew | apply blk_alloc | apply blk_put))); repeat (first | exact BK262.out | (simp only [List.setIfInBounds_toArray, List.set_cons_zero, List.set_cons_succ]; with_reducible rfl) | rfl)) : p := h
theorem B7x20_ {p : Prop} (h : p := by repeat (first | (with_reducible first | exact HK.out | apply KeepBut.set_ | apply keep_drewN | apply keep_drew | apply keep_alloc | refine keep_far ?_ GW255.out _ | refine keep_far ?_ GW262.out _ | refine keep_far ?_ GW280.out _) | exact HK.out)) : p := h
theorem B7x21_ {p : Prop} (h : p := by (with_reducible repeat (first | apply Kd.R_alloc | apply Kd.R_drewN | apply Kd.R_drew)); exact HO261.out) : p := h
theorem B7x22_ {p : Prop} (h : p := by first | exact Nat.ne_of_lt (Nat.lt_of_lt_of_le hlt241_0 GW234.out) | (rw [add_block]; exact Nat.ne_of_lt (Nat.lt_of_lt_of_le hlt241_0 GW234.out)) | (show (Addr.add _ _).block ≠ _; rw [add_block]; exact Nat.ne_of_lt (Nat.lt_of_lt_of_le hlt241_0 GW234.out)) | (dsimp only; exact Nat.ne_of_lt (Nat.lt_of_lt_of_le hlt241_0 GW234.out))) : p := h
theorem B7x23_ {p : Prop} (h : p := by first | exact Nat.ne_of_lt (Nat.lt_of_lt_of_le hlt241_1 GW234.out) | (rw [add_block]; exact Nat.ne_of_lt (Nat.lt_of_lt_of_le hlt241_1 GW234.out)) | (show (Addr.add _ _).block ≠ _; rw [add_block]; exact Nat.ne_of_lt (Nat.lt_of_lt_of_le hlt241_1 GW234.out)) | (dsimp only; exact Nat.ne_of_lt (Nat.lt_of_lt_of_le hlt241_1 GW234.out))) : p := h
theorem B7x24_ {p : Prop} (h : p := by first | exact Nat.ne_of_lt (Nat.lt_of_lt_of_le hlt241_2 GW234.out) | (rw [add_block]; exact Nat.ne_of_lt (Nat.lt_of_lt_of_le hlt241_2 GW234.out)) | (show (Addr.add _ _).block ≠ _; rw [add_block]; exact Nat.ne_of_lt (Nat.lt_of_lt_of_le hlt241_2 GW234.out)) | (dsimp only; exact Nat.ne_of_lt (Nat.lt_of_lt_of_le hlt241_2 GW234.out))) : p := h
theorem B7x25_ {p : Prop} (h : p := by repeat (first | (with_reducible first | exact HI0.out | apply IsS107.alloc | apply IsS107.drewN | apply IsS107.drew | apply IsS107.set_1 | apply IsS107.set_2 | refine IsS107.far ?_ NB0_255.out _) | exact HI0.out)) : p := h
theorem B7x26_ {p : Prop} (h : p := by repeat (first | (with_reducible first | exact HB.out | apply below_alloc | apply pw_below_drewN | apply below_drew1 | refine below_set ?_ (IsS107.ge HI0.out) | refine below_set ?_ GE255.out) | exact HB.out)) : p := h
theorem B7x27_ {p : Prop} (h : p := by (with_reducible repeat (first | apply Kd.R_alloc | apply Kd.R_drewN | apply Kd.R_drew)); exact (Kd.R_mono (Kd.R_far (p := ⟨gb280, 5, none⟩) (Kd.R_far (p := ⟨gb280, 4, none⟩) (Kd.R_far (p := ⟨gb280, 3, none⟩) (Kd.R_far (p := ⟨gb280, 2, none⟩) (Kd.R_far (p := ⟨gb280, 1, none⟩) (Kd.R_far (p := ⟨gb280, 0, none⟩) (Kd.R_types HO258.out BK280.out (by decide)) (fun _ hk => hk.2) (.int .i64 t272)) (fun _ hk => hk.2) (.int .i64 t273)) (fun _ hk => hk.2) (.int .i64 t274)) (fun _ hk => hk.2) (.string t275)) (fun _ hk => hk.2) (.string t276)) (fun _ hk => hk.2) (.int .i64 t277)) (fun _ h_ => h_.1))) : p := h
theorem B7x28_ {p : Prop} (h : p := by (with_reducible repeat (first | apply Kd.R_alloc | apply Kd.R_drewN | apply Kd.R_drew)); exact (Kd.R_mono (Kd.R_far (p := ⟨gb280, 5, none⟩) (Kd.R_far (p := ⟨gb280, 4, none⟩) (Kd.R_far (p := ⟨gb280, 3, none⟩) (Kd.R_far (p := ⟨gb280, 2, none⟩) (Kd.R_far (p := ⟨gb280, 1, none⟩) (Kd.R_far (p := ⟨gb280, 0, none⟩) (Kd.R_types HO261.out BK280.out (by decide)) (fun _ hk => hk.2) (.int .i64 t272)) (fun _ hk => hk.2) (.int .i64 t273)) (fun _ hk => hk.2) (.int .i64 t274)) (fun _ hk => hk.2) (.string t275)) (fun _ hk => hk.2) (.string t276)) (fun _ hk => hk.2) (.int .i64 t277)) (fun _ h_ => h_.1))) : p := h
theorem B7x29_ {p : Prop} (h : p := by (with_reducible repeat (first | apply Kd.R_alloc | apply Kd.R_drewN | apply Kd.R_drew)); exact (Kd.R_mono (Kd.R_far (p := ⟨gb280, 5, none⟩) (Kd.R_far (p := ⟨gb280, 4, none⟩) (Kd.R_far (p := ⟨gb280, 3, none⟩) (Kd.R_far (p := ⟨gb280, 2, none⟩) (Kd.R_far (p := ⟨gb280, 1, none⟩) (Kd.R_far (p := ⟨gb280, 0, none⟩) (Kd.R_types HO271.out BK280.out (by decide)) (fun _ hk => hk.2) (.int .i64 t272)) (fun _ hk => hk.2) (.int .i64 t273)) (fun _ hk => hk.2) (.int .i64 t274)) (fun _ hk => hk.2) (.string t275)) (fun _ hk => hk.2) (.string t276)) (fun _ hk => hk.2) (.int .i64 t277)) (fun _ h_ => h_.1))) : p := h
theorem B7x30_ {p : Prop} (h : p := by first | (rw [add_block]; exact Kd.foot_ne HR1_0.out (by omega) (by decide)) | (show (Addr.add _ _).block ≠ _; rw [add_block]; exact Kd.foot_ne HR1_0.out (by omega) (by decide)) | exact Kd.foot_ne HR1_0.out (by omega) (by decide) | (dsimp only; exact Kd.foot_ne HR1_0.out (by omega) (by decide))) : p := h
theorem B7x31_ {p : Prop} (h : p := by first | (go_simp; done) | (go_simp; rfl)) : p := h
theorem B7x32_ {p : Prop} (h : p := by first | rfl | (simp [errW_none, errW_some] <;> rfl) | (simp only [← hji20]; first | rfl | (simp [errW_none, errW_some] <;> rfl)) | (simp [*, errW_none, errW_some] <;> rfl)) : p := h
theorem B7x33_ {p : Prop} (h : p := by repeat (first | (with_reducible first | exact HI0.out | apply IsS107.alloc | apply IsS107.drewN | apply IsS107.drew | apply IsS107.set_1 | apply IsS107.set_2) | exact HI0.out)) : p := h
theorem B7x34_ {p : Prop} (h : p := by repeat (first | (with_reducible first | exact HB.out | apply below_alloc | apply pw_below_drewN | apply below_drew1 | refine below_set ?_ (IsS107.ge HI0.out)) | exact HB.out)) : p := h
theorem B7x35_ {p : Prop} (h : p := by kernel_rfl) : p := h
theorem B7x36_ {p : Prop} (h : p := by repeat (first | (with_reducible first | exact HK.out | apply KeepBut.set_ | apply keep_drewN | apply keep_drew | apply keep_alloc) | exact HK.out)) : p := h
theorem B7x37_ {p : Prop} (h : p := by (repeat (with_reducible (first | exact BK219.out | apply blk_drewN | apply blk_drew | apply blk_alloc | apply blk_put | apply bf NB219_234.out))); repeat (first | exact BK219.out | (simp only [List.setIfInBounds_toArray, List.set_cons_zero, List.set_cons_succ]; with_reducible rfl) | rfl)) : p := h
theorem B7x38_ {p : Prop} (h : p := by (repeat (with_reducible (first | exact BK220.out | apply blk_drewN | apply blk_drew | apply blk_alloc | apply blk_put | apply bf NB220_234.out))); repeat (first | exact BK220.out | (simp only [List.setIfInBounds_toArray, List.set_cons_zero, List.set_cons_succ]; with_reducible rfl) | rfl)) : p := h
theorem B7x39_ {p : Prop} (h : p := by (repeat (with_reducible (first | exact BK232.out | apply blk_drewN | apply blk_drew | apply blk_alloc | apply blk_put | apply bf NB232_234.out))); repeat (first | exact BK232.out | (simp only [List.setIfInBounds_toArray, List.set_cons_zero, List.set_cons_succ]; with_reducible rfl) | rfl)) : p := h
theorem B7x40_ {p : Prop} (h : p := by (repeat (with_reducible (first | exact BK255.out | apply blk_drewN | apply blk_drew | apply blk_alloc | apply blk_put | apply bf NB255_280.out))); repeat (first | exact BK255.out | (simp only [List.setIfInBounds_toArray, List.set_cons_zero, List.set_cons_succ]; with_reducible rfl) | rfl)) : p := h
theorem B7x41_ {p : Prop} (h : p := by (repeat (with_reducible (first | exact BK262.out | apply blk_drewN | apply blk_drew | apply blk_alloc | apply blk_put | apply bf NB262_280.out))); repeat (first | exact BK262.out | (simp only [List.setIfInBounds_toArray, List.set_cons_zero, List.set_cons_succ]; with_reducible rfl) | rfl)) : p := h
theorem B7x42_ {p : Prop} (h : p := by exact (Reps.c3 (show Kd.M k83 _ _ _ (⟨wrap64 (1 + t263), t266, (⟨#[]⟩ : ByteArray)⟩ : S83) [.int .i64 (wrap64 (1 + t263)), .int .i64 t266, .string (⟨#[]⟩ : ByteArray)] from (k83_mkM _ _ _ (⟨wrap64 (1 + t263), t266, (⟨#[]⟩ : ByteArray)⟩ : S83) )) (Reps.none _ _))) : p := h
theorem B7x43_ {p : Prop} (h : p := by (repeat (with_reducible (first | exact BK220.out | apply blk_drewN | apply blk_drew | apply blk_alloc | apply blk_put))); repeat (first | exact BK220.out | (simp only [List.setIfInBounds_toArray, List.set_cons_zero, List.set_cons_succ]; with_reducible rfl) | rfl)) : p := h
theorem B7x44_ {p : Prop} (h : p := by (repeat (with_reducible (first | exact BK234.out | apply blk_drewN | apply blk_drew | apply blk_alloc | apply blk_put))); repeat (first | exact BK234.out | (simp only [List.setIfInBounds_toArray, List.set_cons_zero, List.set_cons_succ]; with_reducible rfl) | rfl)) : p := h
theorem B7x45_ {p : Prop} (h : p := by (repeat (with_reducible (first | exact BK255.out | apply blk_drewN | apply blk_drew | apply blk_alloc | apply blk_put))); repeat (first | exact BK255.out | (simp only [List.setIfInBounds_toArray, List.set_cons_zero, List.set_cons_succ]; with_reducible rfl) | rfl)) : p := h
theorem B7x46_ {p : Prop} (h : p := by (repeat (with_reducible (first | exact BK280.out | apply blk_drewN | apply blk_drew | apply blk_alloc | apply blk_put))); repeat (first | exact BK280.out | (simp only [List.setIfInBounds_toArray, List.set_cons_zero, List.set_cons_succ]; with_reducible rfl) | rfl)) : p := h
theorem B7x47_ {p : Prop} (h : p := by (with_reducible repeat (first | apply Kd.R_alloc | apply Kd.R_drewN | apply Kd.R_drew)); exact (Kd.R_mono (Kd.R_far (p := ⟨gb262, 0, none⟩) (Kd.R_types HO261.out BK262.out (by decide)) (fun _ hk => hk.2) (.slice Ao20 y269.length co20)) (fun _ h_ => h_.1))) : p := h
theorem B7x48_ {p : Prop} (h : p := by (with_reducible repeat (first | apply Kd.R_alloc | apply Kd.R_drewN | apply Kd.R_drew)); exact (Kd.R_mono (Kd.R_far (p := ⟨gb262, 0, none⟩) (Kd.R_types HO261.out BK262.out (by decide)) (fun _ hk => hk.2) (.slice Ao44 y269.length co44)) (fun _ h_ => h_.1))) : p := h
theorem B7x49_ {p : Prop} (h : p := by (with_reducible repeat (first | apply Kd.R_alloc | apply Kd.R_drewN | apply Kd.R_drew)); exact (Kd.R_mono (Kd.R_far (p := ⟨gb262, 0, none⟩) (Kd.R_types HO271.out BK262.out (by decide)) (fun _ hk => hk.2) (.slice Ao20 y269.length co20)) (fun _ h_ => h_.1))) : p := h
theorem B7x50_ {p : Prop} (h : p := by (with_reducible repeat (first | apply Kd.R_alloc | apply Kd.R_drewN | apply Kd.R_drew)); exact (Kd.R_mono (Kd.R_far (p := ⟨gb262, 0, none⟩) (Kd.R_types HO271.out BK262.out (by decide)) (fun _ hk => hk.2) (.slice Ao44 y269.length co44)) (fun _ h_ => h_.1))) : p := h
theorem B7x51_ {p : Prop} (h : p := by repeat (first | (with_reducible first | exact HK.out | apply KeepBut.set_ | apply keep_drewN | apply keep_drew | apply keep_alloc | refine keep_far ?_ GW219.out _ | refine keep_far ?_ GW220.out _ | refine keep_far ?_ GW232.out _) | exact HK.out)) : p := h
theorem B7x52_ {p : Prop} (h : p := by (with_reducible repeat (first | refine blk_drewN ?_ _ | refine blk_drew ?_ | refine blk_alloc ?_ _)); exact BK219.out) : p := h
theorem B7x53_ {p : Prop} (h : p := by (with_reducible repeat (first | refine blk_drewN ?_ _ | refine blk_drew ?_ | refine blk_alloc ?_ _)); exact BK220.out) : p := h
theorem B7x54_ {p : Prop} (h : p := by first | rfl | (simp [errW_none, errW_some] <;> rfl) | (simp [*, errW_none, errW_some] <;> rfl)) : p := h
theorem B7x55_ {p : Prop} (h : p := by repeat (first | (with_reducible first | exact HB.out | apply below_alloc | apply pw_below_drewN | apply below_drew1 | refine below_set ?_ GE251.out) | exact HB.out)) : p := h
theorem B7x56_ {p : Prop} (h : p := by first | (with_reducible assumption) | assumption) : p := h
theorem B7x57_ {p : Prop} (h : p := by (with_reducible repeat (first | apply Kd.R_alloc | apply Kd.R_drewN | apply Kd.R_drew)); exact HO271.out) : p := h
theorem B7x58_ {p : Prop} (h : p := by have := HJ2.out; first | omega | exact Nat.le_refl _) : p := h
/-! ### spec_l15Command: function 99 -/
mutual
def spec_l15Command.j0 : Nat → Bool → List Int → Int → Int → List (S83) → List (S81) → Option (Int × Int × Int × ByteArray × ByteArray × Int × Int × Int)
 | 0, _, _, _, _, _, _ => none
 | k + 1, x14, x1000, x1001, x1002, x220000, x220001 => if x14 = true then (some (1, 0, 0, (⟨#[]⟩ : ByteArray), (⟨#[]⟩ : ByteArray), 0, x1001, x1002)) else ((spec_l15Of.f k x1000 x1001 x1002 x220000 x220001).bind fun bt224 => (if 0 ≤ (wrap64 ((x220000.length : Int) - 1)) then (if (wrap64 ((x220000.length : Int) - 1)) < (x220000.length : Int) then ((spec_l01Once.f x1000 bt224.2.2.2.2.2.2.1 bt224.2.2.2.2.2.2.2 4).bind fun bt235 => (if bt235.1 = true then ((spec_l01Below.f x1000 bt235.2.1 bt235.2.2 (x220000.length : Int)).bind fun bt238 => (if 0 ≤ bt238.1 then (if bt238.1 < (x220000.length : Int) then (spec_l15Command.j1 k x1000 bt238.2.1 bt238.2.2 bt224.1 bt224.2.1 bt224.2.2.1 bt224.2.2.2.1 bt224.2.2.2.2.1 bt224.2.2.2.2.2.1 ((rd_T83 x220000 bt238.1).f0) ((rd_T83 x220000 bt238.1).f1) ((rd_T83 x220000 bt238.1).f2)) else (none)) else (none))) else (spec_l15Command.j1 k x1000 bt235.2.1 bt235.2.2 bt224.1 bt224.2.1 bt224.2.2.1 bt224.2.2.2.1 bt224.2.2.2.2.1 bt224.2.2.2.2.2.1 ((rd_T83 x220000 (wrap64 ((x220000.length : Int) - 1))).f0) ((rd_T83 x220000 (wrap64 ((x220000.length : Int) - 1))).f1) ((rd_T83 x220000 (wrap64 ((x220000.length : Int) - 1))).f2)))) else (none)) else (none)))
def spec_l15Command.j1 : Nat → List Int → Int → Int → Int → Int → Int → ByteArray → ByteArray → Int → Int → Int → ByteArray → Option (Int × Int × Int × ByteArray × ByteArray × Int × Int × Int)
 | 0, _, _, _, _, _, _, _, _, _, _, _, _ => none
 | k + 1, x1000, x1001, x1002, x233000, x233001, x233002, x233003, x233004, x233005, x235000, x235001, x235002 => (spec_l01Below.f x1000 x1001 x1002 16).bind fun bt242 => (if bt242.1 = 0 then (some (x233000, x235000, x235001, x233003, x233004, x233005, bt242.2.1, bt242.2.2)) else (if bt242.1 = 1 then ((spec_l01Below.f x1000 bt242.2.1 bt242.2.2 4).bind fun bt245 => (some (x233000, x235000, bt245.1, x233003, x233004, x233005, bt245.2.1, bt245.2.2))) else (if bt242.1 = 2 then ((spec_l01Below.f x1000 bt242.2.1 bt242.2.2 9).bind fun bt248 => (some (x233000, bt248.1, wrap64 (x235001 + 1), x233003, x233004, x233005, bt248.2.1, bt248.2.2))) else (some (x233000, x235000, wrap64 (x235001 + 1), x233003, x233004, x233005, bt242.2.1, bt242.2.2)))))
end
def spec_l15Command.f (k : Nat) (s0_0 : List Int) (s0_1 : Int) (s0_2 : Int) (l1_0 : List (S83)) (l1_1 : List (S81)) : Option (Int × Int × Int × ByteArray × ByteArray × Int × Int × Int) := if (l1_0.length : Int) = 0 then (spec_l15Command.j0 k true s0_0 s0_1 s0_2 l1_0 l1_1) else ((spec_l01Once.f s0_0 s0_1 s0_2 16).bind fun bt221 => (spec_l15Command.j0 k bt221.1 s0_0 bt221.2.1 bt221.2.2 l1_0 l1_1))
theorem spec_l15Command.mono_l : ∀ k, (∀ y0 y1 y2 y3 y4 y5, LeO (spec_l15Command.j0 k y0 y1 y2 y3 y4 y5) (spec_l15Command.j0 (k + 1) y0 y1 y2 y3 y4 y5)) ∧ (∀ y0 y1 y2 y3 y4 y5 y6 y7 y8 y9 y10 y11, LeO (spec_l15Command.j1 k y0 y1 y2 y3 y4 y5 y6 y7 y8 y9 y10 y11) (spec_l15Command.j1 (k + 1) y0 y1 y2 y3 y4 y5 y6 y7 y8 y9 y10 y11))
 | 0 => ⟨fun _ _ _ _ _ _ r h => by simp [spec_l15Command.j0] at h, fun _ _ _ _ _ _ _ _ _ _ _ _ r h => by simp [spec_l15Command.j1] at h⟩
 | k + 1 => by
  obtain ⟨ih0, ih1⟩ := spec_l15Command.mono_l k
  refine ⟨?_, ?_⟩
  ·intro y0 y1 y2 y3 y4 y5
   unfold spec_l15Command.j0
   repeat' first
   | (with_reducible exact ih0 _ _ _ _ _ _)
   | (with_reducible exact ih1 _ _ _ _ _ _ _ _ _ _ _ _)
   | (with_reducible exact spec_l15Of.mono _ _ _ _ _ _)
   | (with_reducible first | exact LeO.refl _ | exact LeO.none _ | refine LeO.ite ?_ ?_ | refine LeO.bind ?_ (fun _ => ?_))
   | exact ih0 _ _ _ _ _ _
   | exact ih1 _ _ _ _ _ _ _ _ _ _ _ _
   | exact spec_l15Of.mono _ _ _ _ _ _
  ·intro y0 y1 y2 y3 y4 y5 y6 y7 y8 y9 y10 y11
   unfold spec_l15Command.j1
   repeat' first
   | (with_reducible exact ih0 _ _ _ _ _ _)
   | (with_reducible exact ih1 _ _ _ _ _ _ _ _ _ _ _ _)
   | (with_reducible exact spec_l15Of.mono _ _ _ _ _ _)
   | (with_reducible first | exact LeO.refl _ | exact LeO.none _ | refine LeO.ite ?_ ?_ | refine LeO.bind ?_ (fun _ => ?_))
   | exact ih0 _ _ _ _ _ _
   | exact ih1 _ _ _ _ _ _ _ _ _ _ _ _
   | exact spec_l15Of.mono _ _ _ _ _ _
theorem spec_l15Command.mono : ∀ a0 a1 a2 a3 a4 k, LeO (spec_l15Command.f k a0 a1 a2 a3 a4) (spec_l15Command.f (k + 1) a0 a1 a2 a3 a4) := by
 intro a0 a1 a2 a3 a4 k
 obtain ⟨ih0, ih1⟩ := spec_l15Command.mono_l k
 unfold spec_l15Command.f
 repeat' first
   | (with_reducible exact ih0 _ _ _ _ _ _)
   | (with_reducible exact ih1 _ _ _ _ _ _ _ _ _ _ _ _)
   | (with_reducible exact spec_l15Of.mono _ _ _ _ _ _)
   | (with_reducible first | exact LeO.refl _ | exact LeO.none _ | refine LeO.ite ?_ ?_ | refine LeO.bind ?_ (fun _ => ?_))
   | exact ih0 _ _ _ _ _ _
   | exact ih1 _ _ _ _ _ _ _ _ _ _ _ _
   | exact spec_l15Of.mono _ _ _ _ _ _
def spec_l15Command.T6 : Bool × List (List Nat × List Nat) := (true, [([], []), ([0], [0]), ([], []), ([], []), ([3], [3]), ([4], [4]), ([2, 5], [2, 5]), ([1, 6], [1, 6]), ([7], [7]), ([8, 6, 0, 1, 2, 3, 4, 5, 6, 7, 8], [8])])
def spec_l15Command.B6 : List Nat := [0, 1, 0, 0, 8, 24, 60, 127, 255, 511]
theorem spec_l15Command.tab6 : rtab .any (opsOf Try.f99 6) = spec_l15Command.T6 := by kernel_rfl
theorem spec_l15Command.bits6 : waitsOk spec_l15Command.T6.2 spec_l15Command.B6 = true := by kernel_rfl
set_option maxHeartbeats 8000000 in
set_option maxRecDepth 100000 in
theorem spec_l15Command.calls (k : Nat) (g : Nat) (s0_0 : List Int) (s0_1 : Int) (s0_2 : Int) (A1_0 : Option Addr) (c1_0 : Nat) (l1_0 : List (S83)) (A1_1 : Option Addr) (c1_1 : Nat) (l1_1 : List (S81)) (r1 : Int) (r2 : Int) (r3 : Int) (r4 : ByteArray) (r5 : ByteArray) (r6 : Int) (r7 : Int) (r8 : Int) (w0 w : World) (hI : IsS107 w0 w g s0_0 s0_1 s0_2) (hB : Below w0.heap.size w0 w) (hr1_0 : ∀ W_, KeepBut w W_ g none → Kd.C k83 W_ A1_0 l1_0.length l1_0) (hc1_0 : l1_0.length ≤ c1_0) (hr1_1 : ∀ W_, KeepBut w W_ g none → Kd.C k81 W_ A1_1 l1_1.length l1_1) (hc1_1 : l1_1.length ≤ c1_1) (h : spec_l15Command.f k s0_0 s0_1 s0_2 l1_0 l1_1 = some (r1, r2, r3, r4, r5, r6, r7, r8)) :
  Calls Try.prog 99 #[.pointer (some ⟨g, 0, none⟩), .agg #[.slice A1_0 l1_0.length c1_0, .slice A1_1 l1_1.length c1_1]] w fun e w' => e = .returned (.agg #[.int .i64 r1, .int .i64 r2, .int .i64 r3, .string r4, .string r5, .int .i64 r6]) ∧ IsS107 w0 w' g s0_0 r7 r8 ∧ Below w0.heap.size w0 w' ∧ KeepBut w w' g none := by
 have hu47 := Try.underlying47
 have hu59 := Try.underlying59
 have hu83 := Try.underlying83
 have HR1_0 := Aside0.mk hr1_0
 have HC1_0 := Aside0.mk hc1_0
 clear hr1_0 hc1_0
 have HR1_1 := Aside0.mk hr1_1
 have HC1_1 := Aside0.mk hc1_1
 clear hr1_1 hc1_1
 have HI0 := Aside0.mk hI
 have HK := Aside0.mk (KeepBut.refl w g none)
 have HL := Aside0.mk hB.size
 clear hI
 have HW0 := Aside0.mk hB.size
 have HB := Aside0.mk hB
 clear hB
 have H : (if (l1_0.length : Int) = 0 then (spec_l15Command.j0 k true s0_0 s0_1 s0_2 l1_0 l1_1) else ((spec_l01Once.f s0_0 s0_1 s0_2 16).bind fun bt221 => (spec_l15Command.j0 k bt221.1 s0_0 bt221.2.1 bt221.2.2 l1_0 l1_1))) = some (r1, r2, r3, r4, r5, r6, r7, r8) := h
 clear h
 have HC3 := Aside0.mk H
 clear H
 go_enter Try.func99, Try.ntmps99
 go_upto_region 1 with (first | ((with_reducible refine gate_dst (N := 3) rfl ?_); refine box_event ?hg (N := 3) ?hd (cs := #[.slice A1_0 l1_0.length c1_0, .slice A1_1 l1_1.length c1_1]) (t := 47) ?hr ?_; (case hd => rfl); (case hg => rfl); (case hr => exact B7x31_); intro gb219 hg w4 hbox hb; replace HB := Aside0.mk (below_step B7x34_ hb); have BK219 := Aside0.mk (hbox); have GW219 := Aside0.mk ((bs hg (keep_size HK.out))); have GE219 := Aside0.mk ((Nat.le_trans HW0.out (bs hg (keep_size HK.out)) : w0.heap.size ≤ gb219)); replace HK := Aside0.mk (KeepBut.trans B7x36_ (KeepBut.of_below hb g none) (.inl rfl)); have NB0_219 := Aside0.mk ((nl hg (IsS107.lt HI0.out))); have NB219_0 := Aside0.mk ((ng hg (IsS107.lt HI0.out))); replace HI0 := Aside0.mk (IsS107.below B7x33_ hb); clear hb hbox hg) | ((with_reducible refine gate_dst (N := 4) rfl ?_); refine box_event ?hg (N := 4) ?hd (cs := #[.int .i64 0, .int .i64 0, .int .i64 0, .string (⟨#[]⟩ : ByteArray), .string (⟨#[]⟩ : ByteArray), .int .i64 0]) (t := 59) ?hr ?_; (case hd => rfl); (case hg => rfl); (case hr => exact B7x31_); intro gb220 hg w5 hbox hb; replace HB := Aside0.mk (below_step (by repeat (first | (with_reducible first | exact HB.out | apply below_alloc | apply pw_below_drewN | apply below_drew1 | refine below_set ?_ (IsS107.ge HI0.out) | refine below_set ?_ GE219.out) | exact HB.out)) hb); have BK220 := Aside0.mk (hbox); have GW220 := Aside0.mk ((bs hg (keep_size HK.out))); have GE220 := Aside0.mk ((Nat.le_trans HW0.out (bs hg (keep_size HK.out)) : w0.heap.size ≤ gb220)); replace HK := Aside0.mk (KeepBut.trans (by repeat (first | (with_reducible first | exact HK.out | apply KeepBut.set_ | apply keep_drewN | apply keep_drew | apply keep_alloc | refine keep_far ?_ GW219.out _) | exact HK.out)) (KeepBut.of_below hb g none) (.inl rfl)); have NB219_220 := Aside0.mk ((nl hg (blk_lt BK219.out))); have NB220_219 := Aside0.mk ((ng hg (blk_lt BK219.out))); replace BK219 := Aside0.mk (bb BK219.out hb); have NB0_220 := Aside0.mk ((nl hg (IsS107.lt HI0.out))); have NB220_0 := Aside0.mk ((ng hg (IsS107.lt HI0.out))); replace HI0 := Aside0.mk (IsS107.below (by repeat (first | (with_reducible first | exact HI0.out | apply IsS107.alloc | apply IsS107.drewN | apply IsS107.drew | apply IsS107.set_1 | apply IsS107.set_2 | refine IsS107.far ?_ NB0_219.out _) | exact HI0.out)) hb); clear hb hbox hg))
 (try simp only [Act.put, List.setIfInBounds_toArray, List.set_cons_zero, List.set_cons_succ])
 go_cut [14] (fun v14 wc => ∃ (kq : Nat) (x14_2 : Bool) (x1001_2 : Int) (x1002_2 : Int), v14 = .bool x14_2 ∧ Aside0 (spec_l15Command.j0 kq x14_2 s0_0 x1001_2 x1002_2 l1_0 l1_1 = some (r1, r2, r3, r4, r5, r6, r7, r8)) ∧ Aside0 (kq ≤ k) ∧ Aside0 (wc.heap[gb219]? = some (.cells #[(.slice A1_0 l1_0.length c1_0), (.slice A1_1 l1_1.length c1_1)] 47 (0, 0))) ∧ Aside0 (wc.heap[gb220]? = some (.cells #[.int .i64 0, .int .i64 0, .int .i64 0, .string (⟨#[]⟩ : ByteArray), .string (⟨#[]⟩ : ByteArray), .int .i64 0] 59 (0, 0))) ∧ Aside0 (IsS107 w0 wc g s0_0 x1001_2 x1002_2) ∧ Aside0 (KeepBut w wc g none) ∧ Aside0 (Below w0.heap.size w0 wc))
 case first =>
  have H := HC3.out
  clear HC3
  by_cases c6 : (l1_0.length : Int) = 0
  ·rw [if_pos c6] at H
   have c6b0 := beq_iff_eq.mpr c6
   have c6b1 := bne_eq_false_iff_eq.mpr c6
   clear c6
   (first | rw [c6b0] | (simp only [i64_w, i32_w]; rw [c6b0]) | skip)
   have H' := Aside0.mk H
   clear H
   have hnb7 := NB219_220.out
   have hnc7 := NB220_219.out
   have hnb8 := NB219_0.out
   have hnc8 := NB0_219.out
   obtain ⟨hcz9_0, hcz9_1⟩ := cl2 BK219.out
   obtain ⟨hfz9_0, hfz9_1⟩ := fr2 BK219.out
   go_wp2
   go_meet
   case rel => exact ⟨_, (true), (s0_1), (s0_2), (be_), H', ⟨(by first | omega | exact Nat.le_refl _)⟩, ⟨B7x52_⟩, ⟨B7x53_⟩, ⟨B7x10_⟩, ⟨B7x8_⟩, ⟨B7x11_⟩⟩
  ·rw [if_neg c6] at H
   have c6b0 := beq_eq_false_iff_ne.mpr c6
   have c6b1 := bne_iff_ne.mpr c6
   have c6b2 : ¬ (l1_0 = []) := fun h_ => c6 (by rw [h_]; rfl)
   (first | rw [c6b0] | (simp only [i64_w, i32_w]; rw [c6b0]) | skip)
   replace H := bsi H
   obtain ⟨⟨t221, t222, t223⟩, A10, H⟩ := H
   (try dsimp only at H)
   have H' := Aside0.mk H
   clear H
   have hnb11 := NB219_220.out
   have hnc11 := NB220_219.out
   have hnb12 := NB219_0.out
   have hnc12 := NB0_219.out
   obtain ⟨hcz13_0, hcz13_1⟩ := cl2 BK219.out
   obtain ⟨hfz13_0, hfz13_1⟩ := fr2 BK219.out
   go_wp2_with (first | (go_at_call 42; (with_reducible refine (spec_l01Once.calls g s0_0 s0_1 s0_2 16 t221 t222 t223 w0 _ ?side1 ?side2 A10.out).mono ?_); (case side1 => exact B7x10_); (case side2 => exact B7x11_); rintro e w14 ⟨rfl, hi, hb, hk⟩; replace BK219 := Aside0.mk (kb hk BK219.out NB219_0.out); replace BK220 := Aside0.mk (kb hk BK220.out NB220_0.out); replace HK := Aside0.mk (KeepBut.trans B7x8_ hk (.inl rfl)); replace HB := Aside0.mk (hb); replace HI0 := Aside0.mk (hi); (try clear hb hk hi)))
   go_meet
   case rel => exact ⟨_, (t221), (t222), (t223), (be_), H', ⟨(by first | omega | exact Nat.le_refl _)⟩, ⟨B7x52_⟩, ⟨B7x53_⟩, ⟨B7x10_⟩, ⟨B7x8_⟩, ⟨B7x11_⟩⟩
 case rest =>
  clear HC3
  obtain ⟨kq, x14_2, x1001_2, x1002_2, rfl, HA, HJ2, BK219, BK220, HI0, HK, HB⟩ := hcut
  cases kq with
  | zero => exact absurd HA.out (by simp [spec_l15Command.j0])
  | succ kj2 =>
   have H := HA.out
   clear HA
   simp only [spec_l15Command.j0] at H
   by_cases c15 : x14_2 = true
   ·subst c15
    rw [if_pos rfl] at H
    simp only [Option.some.injEq, Prod.mk.injEq] at H
    obtain ⟨rfl, rfl, rfl, rfl, rfl, rfl, rfl, rfl⟩ := H
    have hnb16 := NB220_219.out
    have hnc16 := NB219_220.out
    have hnb17 := NB220_0.out
    have hnc17 := NB0_220.out
    obtain ⟨hcz18_0, hcz18_1, hcz18_2, hcz18_3, hcz18_4, hcz18_5⟩ := cl6 BK220.out
    obtain ⟨hfz18_0, hfz18_1, hfz18_2, hfz18_3, hfz18_4, hfz18_5⟩ := fr6 BK220.out
    go_wp2
    refine bodyPost_ret (results_cell_row rfl _ _ gb220 59 #[.int .i64 1, .int .i64 0, .int .i64 0, .string (⟨#[]⟩ : ByteArray), .string (⟨#[]⟩ : ByteArray), .int .i64 0] (0, 0) _ rfl B7x43_ Try.underlying59 rfl B7x35_) rfl ?_
    exact ⟨B7x54_, B7x10_, B7x11_, B7x8_⟩
   ·replace c15 := Bool.eq_false_iff.mpr c15
    subst c15
    rw [if_neg (show ¬ (false = true) by decide)] at H
    replace H := bsi H
    obtain ⟨⟨t224, t225, t226, t227, t228, t229, t230, t231⟩, A19, H⟩ := H
    (try dsimp only at H)
    obtain ⟨ji20, hji20⟩ : ∃ j_ : Int, (wrap64 ((l1_0.length : Int) - 1)) = j_ := ⟨_, rfl⟩
    replace H : (if 0 ≤ (ji20) then (if (ji20) < (l1_0.length : Int) then ((spec_l01Once.f s0_0 t230 t231 4).bind fun bt235 => (if bt235.1 = true then ((spec_l01Below.f s0_0 bt235.2.1 bt235.2.2 (l1_0.length : Int)).bind fun bt238 => (if 0 ≤ bt238.1 then (if bt238.1 < (l1_0.length : Int) then (spec_l15Command.j1 kj2 s0_0 bt238.2.1 bt238.2.2 t224 t225 t226 t227 t228 t229 ((rd_T83 l1_0 bt238.1).f0) ((rd_T83 l1_0 bt238.1).f1) ((rd_T83 l1_0 bt238.1).f2)) else (none)) else (none))) else (spec_l15Command.j1 kj2 s0_0 bt235.2.1 bt235.2.2 t224 t225 t226 t227 t228 t229 ((rd_T83 l1_0 (ji20)).f0) ((rd_T83 l1_0 (ji20)).f1) ((rd_T83 l1_0 (ji20)).f2)))) else (none)) else (none)) = some (r1, r2, r3, r4, r5, r6, r7, r8) := by first | (rw [hji20] at H; exact H) | (simp only [hji20] at H ⊢; exact H)
    (try rw [hji20] at A19)
    have hji20w : (IntKind.i64.wrap ((l1_0.length : Int) - 1)) = ji20 := (i64_w _).trans hji20
    by_cases c21 : 0 ≤ (ji20)
    rotate_left
    ·rw [if_neg c21] at H
     exact absurd H (by simp)
    rw [if_pos c21] at H
    have c21b0 : decide (0 ≤ (ji20)) = true := decide_eq_true c21
    clear c21
    by_cases c22 : (ji20) < (l1_0.length : Int)
    rotate_left
    ·rw [if_neg c22] at H
     exact absurd H (by simp)
    rw [if_pos c22] at H
    have c22b0 : decide ((ji20) < (l1_0.length : Int)) = true := decide_eq_true c22
    clear c22
    replace H := bsi H
    obtain ⟨⟨t235, t236, t237⟩, A23, H⟩ := H
    (try dsimp only at H)
    have HC24 := Aside0.mk H
    clear H
    have hnb25 := NB219_220.out
    have hnc25 := NB220_219.out
    have hnb26 := NB219_0.out
    have hnc26 := NB0_219.out
    obtain ⟨hcz27_0, hcz27_1⟩ := cl2 BK219.out
    obtain ⟨hfz27_0, hfz27_1⟩ := fr2 BK219.out
    go_upto_if 28 with (first | ((with_reducible refine gate_callee (f := 105) rfl ?_); refine goesL_ (some 18) rfl rfl Try.func105 B7x35_ rfl #[.pointer (some ⟨g, 0, none⟩), .agg #[.slice A1_0 l1_0.length c1_0, .slice A1_1 l1_1.length c1_1]] rfl B7x4_ ?_; (with_reducible refine (spec_l15Of.calls kj2 g s0_0 x1001_2 x1002_2 _ _ l1_0 _ _ l1_1 t224 t225 t226 t227 t228 t229 t230 t231 w0 _ ?side1 ?side2 ?side3 ?side4 ?side5 ?side6 A19.out).mono ?_); (case side1 => exact B7x10_); (case side2 => exact B7x11_); (case side3 => exact Kd.C_foot_step HR1_0.out B7x8_); (case side4 => exact HC1_0.out); (case side5 => exact Kd.C_foot_step HR1_1.out B7x8_); (case side6 => exact HC1_1.out); rintro e w28 ⟨rfl, hi, hb, hk⟩; refine ⟨_, rfl, ?_⟩; replace BK219 := Aside0.mk (kb hk BK219.out NB219_0.out); replace BK220 := Aside0.mk (kb hk BK220.out NB220_0.out); replace HK := Aside0.mk (KeepBut.trans B7x8_ hk (.inl rfl)); replace HB := Aside0.mk (hb); replace HI0 := Aside0.mk (hi); (try clear hb hk hi)) | ((with_reducible refine gate_dst (N := 5) rfl ?_); refine box_event ?hg (N := 5) ?hd (cs := #[.int .i64 0, .int .i64 0, .int .i64 0, .string (⟨#[]⟩ : ByteArray), .string (⟨#[]⟩ : ByteArray), .int .i64 0]) (t := 59) ?hr ?_; (case hd => rfl); (case hg => rfl); (case hr => exact B7x31_); intro gb232 hg w29 hbox hb; replace HB := Aside0.mk (below_step B7x11_ hb); have BK232 := Aside0.mk (hbox); have GW232 := Aside0.mk ((bs hg (keep_size HK.out))); have GE232 := Aside0.mk ((Nat.le_trans HW0.out (bs hg (keep_size HK.out)) : w0.heap.size ≤ gb232)); replace HK := Aside0.mk (KeepBut.trans B7x8_ (KeepBut.of_below hb g none) (.inl rfl)); have NB219_232 := Aside0.mk ((nl hg (blk_lt BK219.out))); have NB232_219 := Aside0.mk ((ng hg (blk_lt BK219.out))); replace BK219 := Aside0.mk (bb BK219.out hb); have NB220_232 := Aside0.mk ((nl hg (blk_lt BK220.out))); have NB232_220 := Aside0.mk ((ng hg (blk_lt BK220.out))); replace BK220 := Aside0.mk (bb BK220.out hb); have NB0_232 := Aside0.mk ((nl hg (IsS107.lt HI0.out))); have NB232_0 := Aside0.mk ((ng hg (IsS107.lt HI0.out))); replace HI0 := Aside0.mk (IsS107.below B7x10_ hb); clear hb hbox hg; have hnb30 := NB232_219.out; have hnc30 := NB219_232.out; have hnb31 := NB232_220.out; have hnc31 := NB220_232.out; have hnb32 := NB232_0.out; have hnc32 := NB0_232.out; obtain ⟨hcz33_0, hcz33_1, hcz33_2, hcz33_3, hcz33_4, hcz33_5⟩ := cl6 BK232.out; obtain ⟨hfz33_0, hfz33_1, hfz33_2, hfz33_3, hfz33_4, hfz33_5⟩ := fr6 BK232.out; obtain ⟨hcz34_0, hcz34_1⟩ := cl2 BK219.out; obtain ⟨hfz34_0, hfz34_1⟩ := fr2 BK219.out; have p233 : 0 ≤ ((ji20) : Int) := of_decide_eq_true B7x56_; have q233 : (ji20) < (l1_0.length : Int) := of_decide_eq_true B7x56_; obtain ⟨ad233, e233, hx233_0, hx233_1, hx233_2⟩ := at_T83 (Kd.C_foot_now HR1_0.out (show KeepBut w ((((((w29.setCell ⟨gb232, 0, none⟩ (.int .i64 t224)).setCell ⟨gb232, 1, none⟩ (.int .i64 t225)).setCell ⟨gb232, 2, none⟩ (.int .i64 t226)).setCell ⟨gb232, 3, none⟩ (.string t227)).setCell ⟨gb232, 4, none⟩ (.string t228)).setCell ⟨gb232, 5, none⟩ (.int .i64 t229)) g none from B7x51_)) (ji20) p233 q233; cases e233; replace p233 := eq_true p233; replace q233 := eq_true q233) | ((with_reducible refine gate_dst (N := 6) rfl ?_); refine box_event ?hg (N := 6) ?hd (cs := #[.int .i64 0, .int .i64 0, .string (⟨#[]⟩ : ByteArray)]) (t := 83) ?hr ?_; (case hd => rfl); (case hg => rfl); (case hr => exact B7x31_); intro gb234 hg w35 hbox hb; replace HB := Aside0.mk (below_step (by repeat (first | (with_reducible first | exact HB.out | apply below_alloc | apply pw_below_drewN | apply below_drew1 | refine below_set ?_ (IsS107.ge HI0.out) | refine below_set ?_ GE219.out | refine below_set ?_ GE220.out | refine below_set ?_ GE232.out) | exact HB.out)) hb); have BK234 := Aside0.mk (hbox); have GW234 := Aside0.mk ((bs hg (keep_size HK.out))); have GE234 := Aside0.mk ((Nat.le_trans HW0.out (bs hg (keep_size HK.out)) : w0.heap.size ≤ gb234)); replace HK := Aside0.mk (KeepBut.trans B7x51_ (KeepBut.of_below hb g none) (.inl rfl)); have NB219_234 := Aside0.mk ((nl hg (blk_lt BK219.out))); have NB234_219 := Aside0.mk ((ng hg (blk_lt BK219.out))); replace BK219 := Aside0.mk (blk_below (g := gb219) (o := .cells #[.slice (some ad233) l1_0.length c1_0, .slice A1_1 l1_1.length c1_1] 47 (0, 0)) B7x12_ hb); have NB220_234 := Aside0.mk ((nl hg (blk_lt BK220.out))); have NB234_220 := Aside0.mk ((ng hg (blk_lt BK220.out))); replace BK220 := Aside0.mk (blk_below (g := gb220) (o := .cells #[.int .i64 0, .int .i64 0, .int .i64 0, .string (⟨#[]⟩ : ByteArray), .string (⟨#[]⟩ : ByteArray), .int .i64 0] 59 (0, 0)) B7x7_ hb); have NB232_234 := Aside0.mk ((nl hg (blk_lt BK232.out))); have NB234_232 := Aside0.mk ((ng hg (blk_lt BK232.out))); replace BK232 := Aside0.mk (blk_below (g := gb232) (o := .cells #[.int .i64 t224, .int .i64 t225, .int .i64 t226, .string t227, .string t228, .int .i64 t229] 59 (0, 0)) B7x13_ hb); have NB0_234 := Aside0.mk ((nl hg (IsS107.lt HI0.out))); have NB234_0 := Aside0.mk ((ng hg (IsS107.lt HI0.out))); replace HI0 := Aside0.mk (IsS107.below (show IsS107 w0 ((((((w29.setCell ⟨gb232, 0, none⟩ (.int .i64 t224)).setCell ⟨gb232, 1, none⟩ (.int .i64 t225)).setCell ⟨gb232, 2, none⟩ (.int .i64 t226)).setCell ⟨gb232, 3, none⟩ (.string t227)).setCell ⟨gb232, 4, none⟩ (.string t228)).setCell ⟨gb232, 5, none⟩ (.int .i64 t229)) g s0_0 t230 t231 from (by repeat (first | (with_reducible first | exact HI0.out | apply IsS107.alloc | apply IsS107.drewN | apply IsS107.drew | apply IsS107.set_1 | apply IsS107.set_2 | refine IsS107.far ?_ NB0_219.out _ | refine IsS107.far ?_ NB0_220.out _ | refine IsS107.far ?_ NB0_232.out _) | exact HI0.out))) hb); clear hb hbox hg; have hnb36 := NB234_219.out; have hnc36 := NB219_234.out; have hnb37 := NB234_220.out; have hnc37 := NB220_234.out; have hnb38 := NB234_232.out; have hnc38 := NB232_234.out; have hnb39 := NB234_0.out; have hnc39 := NB0_234.out; obtain ⟨hcz40_0, hcz40_1, hcz40_2⟩ := cl3 BK234.out; obtain ⟨hfz40_0, hfz40_1, hfz40_2⟩ := fr3 BK234.out) | ((with_reducible refine gate_callee (f := 42) rfl ?_); refine goesL_ (some 28) rfl rfl Try.func42 B7x35_ rfl #[.pointer (some ⟨g, 0, none⟩), .int .i64 4] rfl B7x4_ ?_; (with_reducible refine (spec_l01Once.calls g s0_0 t230 t231 4 t235 t236 t237 w0 _ ?side1 ?side2 A23.out).mono ?_); (case side1 => exact B7x1_); (case side2 => exact B7x2_); rintro e w41 ⟨rfl, hi, hb, hk⟩; refine ⟨_, rfl, ?_⟩; replace BK219 := Aside0.mk (KeepBut.blk hk (g' := gb219) (o := .cells #[.slice (some ad233) l1_0.length c1_0, .slice A1_1 l1_1.length c1_1] 47 (0, 0)) B7x37_ NB219_0.out (by simp)); replace BK220 := Aside0.mk (KeepBut.blk hk (g' := gb220) (o := .cells #[.int .i64 0, .int .i64 0, .int .i64 0, .string (⟨#[]⟩ : ByteArray), .string (⟨#[]⟩ : ByteArray), .int .i64 0] 59 (0, 0)) B7x38_ NB220_0.out (by simp)); replace BK232 := Aside0.mk (KeepBut.blk hk (g' := gb232) (o := .cells #[.int .i64 t224, .int .i64 t225, .int .i64 t226, .string t227, .string t228, .int .i64 t229] 59 (0, 0)) B7x39_ NB232_0.out (by simp)); replace BK234 := Aside0.mk (KeepBut.blk hk (g' := gb234) (o := .cells #[.int .i64 ((rd_T83 l1_0 (ji20)).f0), .int .i64 ((rd_T83 l1_0 (ji20)).f1), .string ((rd_T83 l1_0 (ji20)).f2)] 83 (0, 0)) B7x44_ NB234_0.out (by simp)); replace HK := Aside0.mk (KeepBut.trans B7x3_ hk (.inl rfl)); replace HB := Aside0.mk (hb); replace HI0 := Aside0.mk (hi); (try clear hb hk hi)))
    (try simp only [Act.put, List.setIfInBounds_toArray, List.set_cons_zero, List.set_cons_succ])
    go_cut [] (fun wc => ∃ (kq : Nat) (x1001_23 : Int) (x1002_23 : Int) (x235000_23 : Int) (x235001_23 : Int) (x235002_23 : ByteArray), Aside0 (spec_l15Command.j1 kq s0_0 x1001_23 x1002_23 t224 t225 t226 t227 t228 t229 x235000_23 x235001_23 x235002_23 = some (r1, r2, r3, r4, r5, r6, r7, r8)) ∧ Aside0 (kq ≤ kj2) ∧ Aside0 (wc.heap[gb219]? = some (.cells #[(.slice (some ad233) l1_0.length c1_0), (.slice A1_1 l1_1.length c1_1)] 47 (0, 0))) ∧ Aside0 (wc.heap[gb220]? = some (.cells #[.int .i64 0, .int .i64 0, .int .i64 0, .string (⟨#[]⟩ : ByteArray), .string (⟨#[]⟩ : ByteArray), .int .i64 0] 59 (0, 0))) ∧ Aside0 (wc.heap[gb232]? = some (.cells #[.int .i64 t224, .int .i64 t225, .int .i64 t226, .string t227, .string t228, .int .i64 t229] 59 (0, 0))) ∧ Aside0 (wc.heap[gb234]? = some (.cells #[.int .i64 x235000_23, .int .i64 x235001_23, .string x235002_23] 83 (0, 0))) ∧ Aside0 (IsS107 w0 wc g s0_0 x1001_23 x1002_23) ∧ Aside0 (KeepBut w wc g none) ∧ Aside0 (Below w0.heap.size w0 wc))
    case first =>
     have H := HC24.out
     clear HC24
     by_cases c42 : t235 = true
     ·subst c42
      rw [if_pos rfl] at H
      replace H := bsi H
      obtain ⟨⟨t238, t239, t240⟩, A43, H⟩ := H
      (try dsimp only at H)
      by_cases c44 : 0 ≤ t238
      rotate_left
      ·rw [if_neg c44] at H
       exact absurd H (by simp)
      rw [if_pos c44] at H
      have c44b0 : decide (0 ≤ t238) = true := decide_eq_true c44
      clear c44
      (first | rw [c44b0] | (simp only [i64_w, i32_w]; rw [c44b0]) | skip)
      by_cases c45 : t238 < (l1_0.length : Int)
      rotate_left
      ·rw [if_neg c45] at H
       exact absurd H (by simp)
      rw [if_pos c45] at H
      have c45b0 : decide (t238 < (l1_0.length : Int)) = true := decide_eq_true c45
      clear c45
      have H' := Aside0.mk H
      clear H
      try go_wp2
      replace BK219 := Aside0.mk (blk_drew BK219.out)
      replace BK220 := Aside0.mk (blk_drew BK220.out)
      replace BK232 := Aside0.mk (blk_drew BK232.out)
      replace BK234 := Aside0.mk (blk_drew BK234.out)
      replace HI0 := Aside0.mk (IsS107.drew HI0.out)
      replace HK := Aside0.mk (keep_drew HK.out)
      replace HB := Aside0.mk (below_drew1 HB.out)
      have p241 : 0 ≤ (t238 : Int) := of_decide_eq_true B7x56_
      have q241 : t238 < (l1_0.length : Int) := of_decide_eq_true B7x56_
      obtain ⟨ad241, e241, hx241_0, hx241_1, hx241_2⟩ := at_T83 (Kd.C_foot_now HR1_0.out HK.out) t238 p241 q241
      have hw241_2 := hx241_2
      have hw241_1 := hx241_1
      have hw241_0 := hx241_0
      obtain rfl : ad233 = ad241 := (by injection e241)
      have hne241_2 := (show (⟨(ad233.add ((t238).toNat * 3)).block, (ad233.add ((t238).toNat * 3)).off + 2, none⟩ : Addr).block ≠ g from B7x30_)
      have hlt241_2 := (Kd.foot_lt HR1_0.out (by omega) (by decide))
      have hne241_1 := (show (⟨(ad233.add ((t238).toNat * 3)).block, (ad233.add ((t238).toNat * 3)).off + 1, none⟩ : Addr).block ≠ g from B7x30_)
      have hlt241_1 := (Kd.foot_lt HR1_0.out (by omega) (by decide))
      have hne241_0 := (show ((ad233.add ((t238).toNat * 3)) : Addr).block ≠ g from B7x30_)
      have hlt241_0 := (Kd.foot_lt HR1_0.out (by omega) (by decide))
      replace p241 := eq_true p241
      replace q241 := eq_true q241
      refine start_ (n := 10) (S := fun w' => w'.cell? ⟨gb219, 0, none⟩ = some (.slice (some ad233) l1_0.length c1_0) ∧ w'.cell? ⟨gb219, 1, none⟩ = some (.slice A1_1 l1_1.length c1_1) ∧ w'.cell? (ad233.add ((t238).toNat * 3)) = some (.int .i64 ((rd_T83 l1_0 t238).f0)) ∧ w'.cell? ⟨(ad233.add ((t238).toNat * 3)).block, (ad233.add ((t238).toNat * 3)).off + 1, none⟩ = some (.int .i64 ((rd_T83 l1_0 t238).f1)) ∧ w'.cell? ⟨(ad233.add ((t238).toNat * 3)).block, (ad233.add ((t238).toNat * 3)).off + 2, none⟩ = some (.string ((rd_T83 l1_0 t238).f2))) (ds := []) #[false, false, false, false, false, false, false, false, false, false] B7x35_ rfl rfl ⟨(blk_cell BK219.out 0).trans rfl, (blk_cell BK219.out 1).trans rfl, hx241_0, hx241_1, hx241_2⟩ (fun hHeld => ?_); refine with_tabW spec_l15Command.tab6 spec_l15Command.bits6 (fun HT_ HW_ => ?_)
      generalize w41.drew = w46 at BK219 BK220 BK232 BK234 HI0 HK HB hx241_0 hx241_1 hx241_2 hHeld ⊢
      refine pu_ 0 29 HT_ ?_
      refine pu_ 2 31 HT_ ?_
      refine pu_ 3 32 HT_ ?_
      refine ta_ 1 30 HT_ HW_ hHeld ?_
      refine ta_ 4 33 HT_ HW_ hHeld ?_
      refine pu_ 5 34 HT_ ?_
      refine one_ (i := 6) (N := some 35) #[true, true, true, true, true, true, true, false, false, false] rfl rfl (one_of HT_.out B7x35_) (by decide) (fun K hK => ?_)
      refine goes_ Try.func41 B7x35_ rfl #[.pointer (some ⟨g, 0, none⟩), .int .i64 (l1_0.length : Int)] (by rfl) rfl rfl B7x4_ ?_
      with_reducible refine (spec_l01Below.calls g s0_0 t236 t237 (l1_0.length : Int) t238 t239 t240 w0 _ ?side1 ?side2 A43.out).mono ?_
      (case side1 => exact B7x1_)
      (case side2 => exact B7x2_)
      rintro e w47 ⟨rfl, hi, hb, hk⟩
      have HS2_ := keep_cell hk (hHeld.2.2.1) (by first | (rw [add_block]; exact hne241_0) | (show (Addr.add _ _).block ≠ _; rw [add_block]; exact hne241_0) | exact hne241_0)
      have HS3_ := keep_cell hk (hHeld.2.2.2.1) (by first | (rw [add_block]; exact hne241_1) | (show (Addr.add _ _).block ≠ _; rw [add_block]; exact hne241_1) | exact hne241_1)
      have HS4_ := keep_cell hk (hHeld.2.2.2.2) (by first | (rw [add_block]; exact hne241_2) | (show (Addr.add _ _).block ≠ _; rw [add_block]; exact hne241_2) | exact hne241_2)
      refine ⟨_, rfl, ?_⟩
      replace BK219 := Aside0.mk (kb hk BK219.out NB219_0.out)
      replace BK220 := Aside0.mk (kb hk BK220.out NB220_0.out)
      replace BK232 := Aside0.mk (kb hk BK232.out NB232_0.out)
      replace BK234 := Aside0.mk (kb hk BK234.out NB234_0.out)
      replace HK := Aside0.mk (KeepBut.trans B7x3_ hk (.inl rfl))
      replace HB := Aside0.mk (hb)
      replace HI0 := Aside0.mk (hi)
      (try clear hb)
      (try clear hb2)
      (try clear hk)
      (try clear hi)
      refine hK.out _ _ ⟨(blk_cell BK219.out 0).trans rfl, (blk_cell BK219.out 1).trans rfl, HS2_, HS3_, HS4_⟩ (fun hHeld => ?_)
      clear hK K
      refine norm_ (a' := ?_) ?_ ?_
      rotate_left
      ·show Act.put _ (some 35) _ = _
       simp only [Act.put, List.setIfInBounds_toArray, List.set_cons_zero, List.set_cons_succ, i64_w, i32_w]
       rfl
      refine pu_ 7 36 HT_ ?_
      refine ta_ 8 37 HT_ HW_ hHeld ?_
      refine one_ (i := 9) (N := none) #[true, true, true, true, true, true, true, true, true, true] rfl rfl (one_of HT_.out B7x35_) (by decide) (fun K hK => ?_)
      have hs48 : w47.cell? ⟨gb234, 0, none⟩ = some (.int .i64 ((rd_T83 l1_0 (ji20)).f0)) := (blk_cell BK234.out 0).trans rfl
      have hfs48 := blk_frozen BK234.out 0
      have hns48_0 := NB219_234.out
      have hns48_1 := NB220_234.out
      have hns48_2 := NB232_234.out
      have hms48_0 := NB234_219.out
      have hms48_1 := NB234_220.out
      have hms48_2 := NB234_232.out
      have hs49 : w47.cell? ⟨gb234, 1, none⟩ = some (.int .i64 ((rd_T83 l1_0 (ji20)).f1)) := (blk_cell BK234.out 1).trans rfl
      have hfs49 := blk_frozen BK234.out 1
      have hns49_0 := NB219_234.out
      have hns49_1 := NB220_234.out
      have hns49_2 := NB232_234.out
      have hms49_0 := NB234_219.out
      have hms49_1 := NB234_220.out
      have hms49_2 := NB234_232.out
      have hs50 : w47.cell? ⟨gb234, 2, none⟩ = some (.string ((rd_T83 l1_0 (ji20)).f2)) := (blk_cell BK234.out 2).trans rfl
      have hfs50 := blk_frozen BK234.out 2
      have hns50_0 := NB219_234.out
      have hns50_1 := NB220_234.out
      have hns50_2 := NB232_234.out
      have hms50_0 := NB234_219.out
      have hms50_1 := NB234_220.out
      have hms50_2 := NB234_232.out
      refine skip_ (w1 := ?_) (by rfl) rfl ?_ ?_
      rotate_left
      ·go_simp
       rfl
      refine hK.out _ _ ⟨((cell_far (p := ⟨gb234, _, none⟩) NB219_234.out _).trans (((cell_far (p := ⟨gb234, _, none⟩) NB219_234.out _).trans (((cell_far (p := ⟨gb234, _, none⟩) NB219_234.out _).trans (hHeld.1)))))), ((cell_far (p := ⟨gb234, _, none⟩) NB219_234.out _).trans (((cell_far (p := ⟨gb234, _, none⟩) NB219_234.out _).trans (((cell_far (p := ⟨gb234, _, none⟩) NB219_234.out _).trans (hHeld.2.1)))))), ((cell_far (p := ⟨gb234, _, none⟩) B7x22_ _).trans (((cell_far (p := ⟨gb234, _, none⟩) B7x22_ _).trans (((cell_far (p := ⟨gb234, _, none⟩) B7x22_ _).trans (hHeld.2.2.1)))))), ((cell_far (p := ⟨gb234, _, none⟩) B7x23_ _).trans (((cell_far (p := ⟨gb234, _, none⟩) B7x23_ _).trans (((cell_far (p := ⟨gb234, _, none⟩) B7x23_ _).trans (hHeld.2.2.2.1)))))), ((cell_far (p := ⟨gb234, _, none⟩) B7x24_ _).trans (((cell_far (p := ⟨gb234, _, none⟩) B7x24_ _).trans (((cell_far (p := ⟨gb234, _, none⟩) B7x24_ _).trans (hHeld.2.2.2.2))))))⟩ (fun hHeld => ?_)
      clear hK K
      refine done_ (done_of HT_.out B7x35_) ?_
      try go_wp2
      go_meet
      case rel => exact ⟨_, (t239), (t240), ((rd_T83 l1_0 t238).f0), ((rd_T83 l1_0 t238).f1), ((rd_T83 l1_0 t238).f2), H', ⟨B7x58_⟩, ⟨B7x37_⟩, ⟨B7x38_⟩, ⟨B7x39_⟩, ⟨B7x44_⟩, ⟨B7x1_⟩, ⟨B7x3_⟩, ⟨B7x2_⟩⟩
     ·replace c42 := Bool.eq_false_iff.mpr c42
      subst c42
      rw [if_neg (show ¬ (false = true) by decide)] at H
      have H' := Aside0.mk H
      clear H
      go_wp2
      go_meet
      case rel => exact ⟨_, (t236), (t237), ((rd_T83 l1_0 (ji20)).f0), ((rd_T83 l1_0 (ji20)).f1), ((rd_T83 l1_0 (ji20)).f2), H', ⟨B7x58_⟩, ⟨B7x52_⟩, ⟨B7x53_⟩, ⟨(by (with_reducible repeat (first | refine blk_drewN ?_ _ | refine blk_drew ?_ | refine blk_alloc ?_ _)); exact BK232.out)⟩, ⟨(by (with_reducible repeat (first | refine blk_drewN ?_ _ | refine blk_drew ?_ | refine blk_alloc ?_ _)); exact BK234.out)⟩, ⟨B7x1_⟩, ⟨B7x3_⟩, ⟨B7x2_⟩⟩
    case rest =>
     clear HC24
     try clear c15
     try clear c21
     try clear c21b0
     try clear c22
     try clear c22b0
     try clear hcz27_0
     try clear hcz27_1
     try clear hcz33_0
     try clear hcz33_1
     try clear hcz33_2
     try clear hcz33_3
     try clear hcz33_4
     try clear hcz33_5
     try clear hcz34_0
     try clear hcz34_1
     try clear hcz40_0
     try clear hcz40_1
     try clear hcz40_2
     try clear hfz27_0
     try clear hfz27_1
     try clear hfz33_0
     try clear hfz33_1
     try clear hfz33_2
     try clear hfz33_3
     try clear hfz33_4
     try clear hfz33_5
     try clear hfz34_0
     try clear hfz34_1
     try clear hfz40_0
     try clear hfz40_1
     try clear hfz40_2
     try clear hx233_0
     try clear hx233_1
     try clear hx233_2
     try clear p233
     try clear q233
     obtain ⟨kq, x1001_23, x1002_23, x235000_23, x235001_23, x235002_23, HA, HJ23, BK219, BK220, BK232, BK234, HI0, HK, HB⟩ := hcut
     cases kq with
     | zero => exact absurd HA.out (by simp [spec_l15Command.j1])
     | succ kj23 =>
      have H := HA.out
      clear HA
      simp only [spec_l15Command.j1] at H
      replace H := bsi H
      obtain ⟨⟨t242, t243, t244⟩, A51, H⟩ := H
      (try dsimp only at H)
      by_cases c52 : t242 = 0
      ·rw [if_pos c52] at H
       have c52b0 := beq_iff_eq.mpr c52
       have c52b1 := bne_eq_false_iff_eq.mpr c52
       clear c52
       simp only [Option.some.injEq, Prod.mk.injEq] at H
       obtain ⟨rfl, rfl, rfl, rfl, rfl, rfl, rfl, rfl⟩ := H
       have hnb53 := NB234_219.out
       have hnc53 := NB219_234.out
       have hnb54 := NB234_220.out
       have hnc54 := NB220_234.out
       have hnb55 := NB234_232.out
       have hnc55 := NB232_234.out
       have hnb56 := NB234_0.out
       have hnc56 := NB0_234.out
       obtain ⟨hcz57_0, hcz57_1, hcz57_2⟩ := cl3 BK234.out
       obtain ⟨hfz57_0, hfz57_1, hfz57_2⟩ := fr3 BK234.out
       have hnb58 := NB232_219.out
       have hnc58 := NB219_232.out
       have hnb59 := NB232_220.out
       have hnc59 := NB220_232.out
       have hnb60 := NB232_0.out
       have hnc60 := NB0_232.out
       obtain ⟨hcz61_0, hcz61_1, hcz61_2, hcz61_3, hcz61_4, hcz61_5⟩ := cl6 BK232.out
       obtain ⟨hfz61_0, hfz61_1, hfz61_2, hfz61_3, hfz61_4, hfz61_5⟩ := fr6 BK232.out
       go_wp2_with (first | ((with_reducible refine gate_callee (f := 41) rfl ?_); refine goesL_ (some 46) rfl rfl Try.func41 B7x35_ rfl #[.pointer (some ⟨g, 0, none⟩), .int .i64 16] rfl B7x4_ ?_; (with_reducible refine (spec_l01Below.calls g s0_0 x1001_23 x1002_23 16 t242 t243 t244 w0 _ ?side1 ?side2 A51.out).mono ?_); (case side1 => exact B7x1_); (case side2 => exact B7x2_); rintro e w62 ⟨rfl, hi, hb, hk⟩; refine ⟨_, rfl, ?_⟩; replace BK219 := Aside0.mk (KeepBut.blk hk (g' := gb219) (o := .cells #[.slice (some ad233) l1_0.length c1_0, .slice A1_1 l1_1.length c1_1] 47 (0, 0)) B7x12_ NB219_0.out (by simp)); replace BK220 := Aside0.mk (KeepBut.blk hk (g' := gb220) (o := .cells #[.int .i64 0, .int .i64 0, .int .i64 0, .string (⟨#[]⟩ : ByteArray), .string (⟨#[]⟩ : ByteArray), .int .i64 0] 59 (0, 0)) B7x7_ NB220_0.out (by simp)); replace BK232 := Aside0.mk (KeepBut.blk hk (g' := gb232) (o := .cells #[.int .i64 t224, .int .i64 x235000_23, .int .i64 (wrap64 (x235001_23 + 1)), .string t227, .string t228, .int .i64 t229] 59 (0, 0)) B7x13_ NB232_0.out (by simp)); replace BK234 := Aside0.mk (KeepBut.blk hk (g' := gb234) (o := .cells #[.int .i64 x235000_23, .int .i64 x235001_23, .string x235002_23] 83 (0, 0)) B7x15_ NB234_0.out (by simp)); replace HK := Aside0.mk (KeepBut.trans B7x3_ hk (.inl rfl)); replace HB := Aside0.mk (hb); replace HI0 := Aside0.mk (hi); (try clear hb hk hi); obtain ⟨hcz63_0, hcz63_1, hcz63_2⟩ := cl3 BK234.out; obtain ⟨hfz63_0, hfz63_1, hfz63_2⟩ := fr3 BK234.out; obtain ⟨hcz64_0, hcz64_1, hcz64_2, hcz64_3, hcz64_4, hcz64_5⟩ := cl6 BK232.out; obtain ⟨hfz64_0, hfz64_1, hfz64_2, hfz64_3, hfz64_4, hfz64_5⟩ := fr6 BK232.out; have hnb65 := NB220_219.out; have hnc65 := NB219_220.out; have hnb66 := NB220_0.out; have hnc66 := NB0_220.out; obtain ⟨hcz67_0, hcz67_1, hcz67_2, hcz67_3, hcz67_4, hcz67_5⟩ := cl6 BK220.out; obtain ⟨hfz67_0, hfz67_1, hfz67_2, hfz67_3, hfz67_4, hfz67_5⟩ := fr6 BK220.out))
       refine bodyPost_ret (results_cell_row rfl _ _ gb220 59 #[.int .i64 t224, .int .i64 x235000_23, .int .i64 x235001_23, .string t227, .string t228, .int .i64 t229] (0, 0) _ rfl B7x7_ Try.underlying59 rfl B7x35_) rfl ?_
       exact ⟨B7x32_, B7x1_, B7x2_, B7x3_⟩
      ·rw [if_neg c52] at H
       have c52b0 := beq_eq_false_iff_ne.mpr c52
       have c52b1 := bne_iff_ne.mpr c52
       by_cases c68 : t242 = 1
       ·rw [if_pos c68] at H
        have c68b0 := beq_iff_eq.mpr c68
        have c68b1 := bne_eq_false_iff_eq.mpr c68
        clear c68
        replace H := bsi H
        obtain ⟨⟨t245, t246, t247⟩, A69, H⟩ := H
        (try dsimp only at H)
        simp only [Option.some.injEq, Prod.mk.injEq] at H
        obtain ⟨rfl, rfl, rfl, rfl, rfl, rfl, rfl, rfl⟩ := H
        have hnb70 := NB234_219.out
        have hnc70 := NB219_234.out
        have hnb71 := NB234_220.out
        have hnc71 := NB220_234.out
        have hnb72 := NB234_232.out
        have hnc72 := NB232_234.out
        have hnb73 := NB234_0.out
        have hnc73 := NB0_234.out
        obtain ⟨hcz74_0, hcz74_1, hcz74_2⟩ := cl3 BK234.out
        obtain ⟨hfz74_0, hfz74_1, hfz74_2⟩ := fr3 BK234.out
        have hnb75 := NB232_219.out
        have hnc75 := NB219_232.out
        have hnb76 := NB232_220.out
        have hnc76 := NB220_232.out
        have hnb77 := NB232_0.out
        have hnc77 := NB0_232.out
        obtain ⟨hcz78_0, hcz78_1, hcz78_2, hcz78_3, hcz78_4, hcz78_5⟩ := cl6 BK232.out
        obtain ⟨hfz78_0, hfz78_1, hfz78_2, hfz78_3, hfz78_4, hfz78_5⟩ := fr6 BK232.out
        go_wp2_with (first | ((with_reducible refine gate_callee (f := 41) rfl ?_); refine goesL_ (some 46) rfl rfl Try.func41 B7x35_ rfl #[.pointer (some ⟨g, 0, none⟩), .int .i64 16] rfl B7x4_ ?_; (with_reducible refine (spec_l01Below.calls g s0_0 x1001_23 x1002_23 16 t242 t243 t244 w0 _ ?side1 ?side2 A51.out).mono ?_); (case side1 => exact B7x1_); (case side2 => exact B7x2_); rintro e w79 ⟨rfl, hi, hb, hk⟩; refine ⟨_, rfl, ?_⟩; replace BK219 := Aside0.mk (KeepBut.blk hk (g' := gb219) (o := .cells #[.slice (some ad233) l1_0.length c1_0, .slice A1_1 l1_1.length c1_1] 47 (0, 0)) B7x12_ NB219_0.out (by simp)); replace BK220 := Aside0.mk (KeepBut.blk hk (g' := gb220) (o := .cells #[.int .i64 0, .int .i64 0, .int .i64 0, .string (⟨#[]⟩ : ByteArray), .string (⟨#[]⟩ : ByteArray), .int .i64 0] 59 (0, 0)) B7x7_ NB220_0.out (by simp)); replace BK232 := Aside0.mk (KeepBut.blk hk (g' := gb232) (o := .cells #[.int .i64 t224, .int .i64 x235000_23, .int .i64 (wrap64 (x235001_23 + 1)), .string t227, .string t228, .int .i64 t229] 59 (0, 0)) B7x13_ NB232_0.out (by simp)); replace BK234 := Aside0.mk (KeepBut.blk hk (g' := gb234) (o := .cells #[.int .i64 x235000_23, .int .i64 x235001_23, .string x235002_23] 83 (0, 0)) B7x15_ NB234_0.out (by simp)); replace HK := Aside0.mk (KeepBut.trans B7x3_ hk (.inl rfl)); replace HB := Aside0.mk (hb); replace HI0 := Aside0.mk (hi); (try clear hb hk hi)) | ((with_reducible refine gate_callee (f := 41) rfl ?_); refine goesL_ (some 55) rfl rfl Try.func41 B7x35_ rfl #[.pointer (some ⟨g, 0, none⟩), .int .i64 4] rfl B7x4_ ?_; (with_reducible refine (spec_l01Below.calls g s0_0 t243 t244 4 t245 t246 t247 w0 _ ?side1 ?side2 A69.out).mono ?_); (case side1 => exact B7x1_); (case side2 => exact B7x2_); rintro e w80 ⟨rfl, hi, hb, hk⟩; refine ⟨_, rfl, ?_⟩; replace BK219 := Aside0.mk (kb hk BK219.out NB219_0.out); replace BK220 := Aside0.mk (kb hk BK220.out NB220_0.out); replace BK232 := Aside0.mk (kb hk BK232.out NB232_0.out); replace BK234 := Aside0.mk (kb hk BK234.out NB234_0.out); replace HK := Aside0.mk (KeepBut.trans B7x3_ hk (.inl rfl)); replace HB := Aside0.mk (hb); replace HI0 := Aside0.mk (hi); (try clear hb hk hi); obtain ⟨hcz81_0, hcz81_1, hcz81_2, hcz81_3, hcz81_4, hcz81_5⟩ := cl6 BK232.out; obtain ⟨hfz81_0, hfz81_1, hfz81_2, hfz81_3, hfz81_4, hfz81_5⟩ := fr6 BK232.out; have hnb82 := NB220_219.out; have hnc82 := NB219_220.out; have hnb83 := NB220_0.out; have hnc83 := NB0_220.out; obtain ⟨hcz84_0, hcz84_1, hcz84_2, hcz84_3, hcz84_4, hcz84_5⟩ := cl6 BK220.out; obtain ⟨hfz84_0, hfz84_1, hfz84_2, hfz84_3, hfz84_4, hfz84_5⟩ := fr6 BK220.out))
        refine bodyPost_ret (results_cell_row rfl _ _ gb220 59 #[.int .i64 t224, .int .i64 x235000_23, .int .i64 t245, .string t227, .string t228, .int .i64 t229] (0, 0) _ rfl B7x7_ Try.underlying59 rfl B7x35_) rfl ?_
        exact ⟨B7x32_, B7x1_, B7x2_, B7x3_⟩
       ·rw [if_neg c68] at H
        have c68b0 := beq_eq_false_iff_ne.mpr c68
        have c68b1 := bne_iff_ne.mpr c68
        have HL_533 := Aside0.mk H
        clear H
        have hnb87 := NB234_219.out
        have hnc87 := NB219_234.out
        have hnb88 := NB234_220.out
        have hnc88 := NB220_234.out
        have hnb89 := NB234_232.out
        have hnc89 := NB232_234.out
        have hnb90 := NB234_0.out
        have hnc90 := NB0_234.out
        obtain ⟨hcz91_0, hcz91_1, hcz91_2⟩ := cl3 BK234.out
        obtain ⟨hfz91_0, hfz91_1, hfz91_2⟩ := fr3 BK234.out
        have hnb92 := NB232_219.out
        have hnc92 := NB219_232.out
        have hnb93 := NB232_220.out
        have hnc93 := NB220_232.out
        have hnb94 := NB232_0.out
        have hnc94 := NB0_232.out
        obtain ⟨hcz95_0, hcz95_1, hcz95_2, hcz95_3, hcz95_4, hcz95_5⟩ := cl6 BK232.out
        obtain ⟨hfz95_0, hfz95_1, hfz95_2, hfz95_3, hfz95_4, hfz95_5⟩ := fr6 BK232.out
        have H := HL_533.out
        clear HL_533
        by_cases c85 : t242 = 2
        ·rw [if_pos c85] at H
         have c85b0 := beq_iff_eq.mpr c85
         have c85b1 := bne_eq_false_iff_eq.mpr c85
         clear c85
         replace H := bsi H
         obtain ⟨⟨t248, t249, t250⟩, A86, H⟩ := H
         (try dsimp only at H)
         simp only [Option.some.injEq, Prod.mk.injEq] at H
         obtain ⟨rfl, rfl, rfl, rfl, rfl, rfl, rfl, rfl⟩ := H
         go_wp2_with (first | ((with_reducible refine gate_callee (f := 41) rfl ?_); refine goesL_ (some 46) rfl rfl Try.func41 B7x35_ rfl #[.pointer (some ⟨g, 0, none⟩), .int .i64 16] rfl B7x4_ ?_; (with_reducible refine (spec_l01Below.calls g s0_0 x1001_23 x1002_23 16 t242 t243 t244 w0 _ ?side1 ?side2 A51.out).mono ?_); (case side1 => exact B7x1_); (case side2 => exact B7x2_); rintro e w96 ⟨rfl, hi, hb, hk⟩; refine ⟨_, rfl, ?_⟩; replace BK219 := Aside0.mk (KeepBut.blk hk (g' := gb219) (o := .cells #[.slice (some ad233) l1_0.length c1_0, .slice A1_1 l1_1.length c1_1] 47 (0, 0)) B7x12_ NB219_0.out (by simp)); replace BK220 := Aside0.mk (KeepBut.blk hk (g' := gb220) (o := .cells #[.int .i64 0, .int .i64 0, .int .i64 0, .string (⟨#[]⟩ : ByteArray), .string (⟨#[]⟩ : ByteArray), .int .i64 0] 59 (0, 0)) B7x7_ NB220_0.out (by simp)); replace BK232 := Aside0.mk (KeepBut.blk hk (g' := gb232) (o := .cells #[.int .i64 t224, .int .i64 x235000_23, .int .i64 (wrap64 (x235001_23 + 1)), .string t227, .string t228, .int .i64 t229] 59 (0, 0)) B7x13_ NB232_0.out (by simp)); replace BK234 := Aside0.mk (KeepBut.blk hk (g' := gb234) (o := .cells #[.int .i64 x235000_23, .int .i64 x235001_23, .string x235002_23] 83 (0, 0)) B7x15_ NB234_0.out (by simp)); replace HK := Aside0.mk (KeepBut.trans B7x3_ hk (.inl rfl)); replace HB := Aside0.mk (hb); replace HI0 := Aside0.mk (hi); (try clear hb hk hi)) | ((with_reducible refine gate_callee (f := 41) rfl ?_); refine goesL_ (some 60) rfl rfl Try.func41 B7x35_ rfl #[.pointer (some ⟨g, 0, none⟩), .int .i64 9] rfl B7x4_ ?_; (with_reducible refine (spec_l01Below.calls g s0_0 t243 t244 9 t248 t249 t250 w0 _ ?side1 ?side2 A86.out).mono ?_); (case side1 => exact B7x1_); (case side2 => exact B7x2_); rintro e w97 ⟨rfl, hi, hb, hk⟩; refine ⟨_, rfl, ?_⟩; replace BK219 := Aside0.mk (kb hk BK219.out NB219_0.out); replace BK220 := Aside0.mk (kb hk BK220.out NB220_0.out); replace BK232 := Aside0.mk (kb hk BK232.out NB232_0.out); replace BK234 := Aside0.mk (kb hk BK234.out NB234_0.out); replace HK := Aside0.mk (KeepBut.trans B7x3_ hk (.inl rfl)); replace HB := Aside0.mk (hb); replace HI0 := Aside0.mk (hi); (try clear hb hk hi); obtain ⟨hcz98_0, hcz98_1, hcz98_2, hcz98_3, hcz98_4, hcz98_5⟩ := cl6 BK232.out; obtain ⟨hfz98_0, hfz98_1, hfz98_2, hfz98_3, hfz98_4, hfz98_5⟩ := fr6 BK232.out; have hnb99 := NB220_219.out; have hnc99 := NB219_220.out; have hnb100 := NB220_0.out; have hnc100 := NB0_220.out; obtain ⟨hcz101_0, hcz101_1, hcz101_2, hcz101_3, hcz101_4, hcz101_5⟩ := cl6 BK220.out; obtain ⟨hfz101_0, hfz101_1, hfz101_2, hfz101_3, hfz101_4, hfz101_5⟩ := fr6 BK220.out))
         refine bodyPost_ret (results_cell_row rfl _ _ gb220 59 #[.int .i64 t224, .int .i64 t248, .int .i64 (wrap64 (x235001_23 + 1)), .string t227, .string t228, .int .i64 t229] (0, 0) _ rfl B7x7_ Try.underlying59 rfl B7x35_) rfl ?_
         exact ⟨B7x32_, B7x1_, B7x2_, B7x3_⟩
        ·rw [if_neg c85] at H
         have c85b0 := beq_eq_false_iff_ne.mpr c85
         have c85b1 := bne_iff_ne.mpr c85
         simp only [Option.some.injEq, Prod.mk.injEq] at H
         obtain ⟨rfl, rfl, rfl, rfl, rfl, rfl, rfl, rfl⟩ := H
         go_wp2_with (first | ((with_reducible refine gate_callee (f := 41) rfl ?_); refine goesL_ (some 46) rfl rfl Try.func41 B7x35_ rfl #[.pointer (some ⟨g, 0, none⟩), .int .i64 16] rfl B7x4_ ?_; (with_reducible refine (spec_l01Below.calls g s0_0 x1001_23 x1002_23 16 t242 t243 t244 w0 _ ?side1 ?side2 A51.out).mono ?_); (case side1 => exact B7x1_); (case side2 => exact B7x2_); rintro e w111 ⟨rfl, hi, hb, hk⟩; refine ⟨_, rfl, ?_⟩; replace BK219 := Aside0.mk (KeepBut.blk hk (g' := gb219) (o := .cells #[.slice (some ad233) l1_0.length c1_0, .slice A1_1 l1_1.length c1_1] 47 (0, 0)) B7x12_ NB219_0.out (by simp)); replace BK220 := Aside0.mk (KeepBut.blk hk (g' := gb220) (o := .cells #[.int .i64 0, .int .i64 0, .int .i64 0, .string (⟨#[]⟩ : ByteArray), .string (⟨#[]⟩ : ByteArray), .int .i64 0] 59 (0, 0)) B7x7_ NB220_0.out (by simp)); replace BK232 := Aside0.mk (KeepBut.blk hk (g' := gb232) (o := .cells #[.int .i64 t224, .int .i64 x235000_23, .int .i64 (wrap64 (x235001_23 + 1)), .string t227, .string t228, .int .i64 t229] 59 (0, 0)) B7x13_ NB232_0.out (by simp)); replace BK234 := Aside0.mk (KeepBut.blk hk (g' := gb234) (o := .cells #[.int .i64 x235000_23, .int .i64 x235001_23, .string x235002_23] 83 (0, 0)) B7x15_ NB234_0.out (by simp)); replace HK := Aside0.mk (KeepBut.trans B7x3_ hk (.inl rfl)); replace HB := Aside0.mk (hb); replace HI0 := Aside0.mk (hi); (try clear hb hk hi); obtain ⟨hcz112_0, hcz112_1, hcz112_2, hcz112_3, hcz112_4, hcz112_5⟩ := cl6 BK232.out; obtain ⟨hfz112_0, hfz112_1, hfz112_2, hfz112_3, hfz112_4, hfz112_5⟩ := fr6 BK232.out; have hnb113 := NB220_219.out; have hnc113 := NB219_220.out; have hnb114 := NB220_0.out; have hnc114 := NB0_220.out; obtain ⟨hcz115_0, hcz115_1, hcz115_2, hcz115_3, hcz115_4, hcz115_5⟩ := cl6 BK220.out; obtain ⟨hfz115_0, hfz115_1, hfz115_2, hfz115_3, hfz115_4, hfz115_5⟩ := fr6 BK220.out))
         refine bodyPost_ret (results_cell_row rfl _ _ gb220 59 #[.int .i64 t224, .int .i64 x235000_23, .int .i64 (wrap64 (x235001_23 + 1)), .string t227, .string t228, .int .i64 t229] (0, 0) _ rfl B7x43_ Try.underlying59 rfl B7x35_) rfl ?_
         exact ⟨B7x32_, B7x1_, B7x2_, B7x3_⟩

/-! ### spec_KeepNew: function 101 -/
def spec_KeepNew.f  : Option ((List (S83)) × (List (S81))) := some (([] : List (S83)), (([(⟨(⟨#[114, 111, 111, 116]⟩ : ByteArray), (⟨#[]⟩ : ByteArray), 1⟩ : S81)] : List (S81))))
set_option maxHeartbeats 8000000 in
set_option maxRecDepth 100000 in
theorem spec_KeepNew.calls  (r1 : List (S83)) (r2 : List (S81)) (w : World) (h : spec_KeepNew.f  = some (r1, r2)) :
  Calls Try.prog 101 #[] w fun e w' => ∃ v0_ v1_ : Value, e = .returned (.agg #[v0_, v1_]) ∧ Kd.R k83 83 w' w.heap.size (fun _ => True) v0_ r1 ∧ Kd.R k81 81 w' w.heap.size (fun _ => True) v1_ r2 ∧ Below w.heap.size w w' := by
 have hu47 := Try.underlying47
 have hu81 := Try.underlying81
 have HB := Aside0.mk (Below.refl w.heap.size w)
 have H : (some (([] : List (S83)), (([(⟨(⟨#[114, 111, 111, 116]⟩ : ByteArray), (⟨#[]⟩ : ByteArray), 1⟩ : S81)] : List (S81))))) = some (r1, r2) := h
 clear h
 obtain ⟨y252, hy252⟩ : ∃ y_ : List (S81), y_ = (([(⟨(⟨#[114, 111, 111, 116]⟩ : ByteArray), (⟨#[]⟩ : ByteArray), 1⟩ : S81)] : List (S81))) := ⟨_, rfl⟩
 replace H : (some (([] : List (S83)), y252)) = some (r1, r2) := by first | (rw [hy252]; with_reducible exact H) | (have H2_ := (Option.bind_some _ _).symm.trans H; rw [hy252]; with_reducible exact H2_) | (have H2_ := (Option.bind_some _ _).symm.trans H; with_reducible exact H2_) | with_reducible exact H | (rw [hy252]; exact H) | exact H
 have Ny252 := Aside0.mk hy252
 clear hy252
 simp only [Option.some.injEq, Prod.mk.injEq] at H
 obtain ⟨rfl, rfl⟩ := H
 go_enter Try.func101, Try.ntmps101
 go_wp2_with (first | ((with_reducible refine gate_dst (N := 0) rfl ?_); refine box_event ?hg (N := 0) ?hd (cs := #[.slice none 0 0, .slice none 0 0]) (t := 47) ?hr ?_; (case hd => rfl); (case hg => rfl); (case hr => exact B7x31_); intro gb251 hg w1 hbox hb; have BK251 := Aside0.mk (hbox); have GW251 := Aside0.mk ((bs hg (below_size HB.out))); have GE251 := Aside0.mk ((bs hg (below_size HB.out))); replace HB := Aside0.mk (below_step (by repeat (first | (with_reducible first | exact HB.out | apply below_alloc | apply pw_below_drewN | apply below_drew1) | exact HB.out)) hb); clear hb hbox hg) | ((with_reducible refine gate_dst (N := 2) rfl ?_); refine Kd.R_lit k81 _ 81 ?hg (N := 2) ?hd (xs := ([(⟨(⟨#[114, 111, 111, 116]⟩ : ByteArray), (⟨#[]⟩ : ByteArray), 1⟩ : S81)] : List (S81))) (inner := [.string (⟨#[114, 111, 111, 116]⟩ : ByteArray), .string (⟨#[]⟩ : ByteArray), .int .i64 1]) (ok := fun _ => True) (okp := fun _ => True) ?hr ?hp (fun _ hk => hk) trivial (Below.refl _ _) (Nat.le_refl _) (by simp) ?_; (case hd => rfl); (case hg => rfl); (case hr => exact B7x31_); (case hp => exact (Reps.c3 (show Kd.M k81 _ _ _ (⟨(⟨#[114, 111, 111, 116]⟩ : ByteArray), (⟨#[]⟩ : ByteArray), 1⟩ : S81) [.string (⟨#[114, 111, 111, 116]⟩ : ByteArray), .string (⟨#[]⟩ : ByteArray), .int .i64 1] from (k81_mkM _ _ _ (⟨(⟨#[114, 111, 111, 116]⟩ : ByteArray), (⟨#[]⟩ : ByteArray), 1⟩ : S81) )) (Reps.none _ _))); intro v253 w2 ho3 hb hg_ hnew_; clear hg_ hnew_; (first | rw [← Ny252.out] at ho3 | (simp only [Int.reduceToNat] at ho3; rw [← Ny252.out] at ho3)); have HO254 := Aside0.mk (Kd.R_lower ho3 (below_size B7x55_)); replace BK251 := Aside0.mk (bb BK251.out hb); replace HB := Aside0.mk (below_step B7x55_ hb); clear hb ho3; obtain ⟨Ao4, co4, eo4⟩ := Kd.R_slice HO254.out; subst eo4; obtain ⟨hcz5_0, hcz5_1⟩ := cl2 BK251.out; obtain ⟨hfz5_0, hfz5_1⟩ := fr2 BK251.out))
 refine bodyPost_ret (results_cell_row rfl _ _ gb251 47 #[.slice none 0 0, .slice Ao4 y252.length co4] (0, 0) _ rfl (by (repeat (with_reducible (first | exact BK251.out | apply blk_drewN | apply blk_drew | apply blk_alloc | apply blk_put))); repeat (first | exact BK251.out | (simp only [List.setIfInBounds_toArray, List.set_cons_zero, List.set_cons_succ]; with_reducible rfl) | rfl)) Try.underlying47 rfl B7x35_) rfl ?_
 exact ⟨_, _, by first | rfl | (simp [errW_none, errW_some] <;> rfl) | (simp [*, errW_none, errW_some] <;> rfl), by first | exact Kd.R_nil _ _ _ _ _ | exact Kd.N_nil _ _ _ _ _ | exact Kd.V_nil _ _ _ _ _ | exact Kd.Q_nil _ _ _ _ _ | exact Kd.S_nil _ _ _ _ _, by (with_reducible repeat (first | apply Kd.R_alloc | apply Kd.R_drewN | apply Kd.R_drew)); exact Kd.R_mono (Kd.R_far (p := ⟨gb251, 1, none⟩) (Kd.R_far (p := ⟨gb251, 0, none⟩) (Kd.R_types HO254.out BK251.out (by decide)) (fun _ hk => hk.2) (.slice none 0 0)) (fun _ hk => hk.2) (.slice Ao4 y252.length co4)) (fun _ hk => trivial), by repeat (first | (with_reducible first | exact HB.out | apply below_alloc | apply pw_below_drewN | apply below_drew1 | refine below_set ?_ GE251.out) | exact HB.out)⟩

/-! ### spec_l16Right: function 84 -/
def spec_l16Right.f (k : Nat) (s0_0 : List Int) (s0_1 : Int) (s0_2 : Int) : Option (Int × Int × Int × ByteArray × ByteArray × Int × Int × Int) := (spec_KeepNew.f).bind fun bt256 => ((spec_l01Below.f s0_0 s0_1 s0_2 5).bind fun bt263 => ((spec_l01Below.f s0_0 bt263.2.1 bt263.2.2 4).bind fun bt266 => ((spec_l15Command.f k s0_0 bt266.2.1 bt266.2.2 (([(⟨wrap64 (1 + bt263.1), bt266.1, (⟨#[]⟩ : ByteArray)⟩ : S83)] : List (S83))) bt256.2).bind fun bt272 => ((spec_CommandOk.f k bt272.1 bt272.2.1 bt272.2.2.1 bt272.2.2.2.1 bt272.2.2.2.2.1 bt272.2.2.2.2.2.1).bind fun t281 => (if t281 = true then (some (bt272.1, bt272.2.1, bt272.2.2.1, bt272.2.2.2.1, bt272.2.2.2.2.1, bt272.2.2.2.2.2.1, bt272.2.2.2.2.2.2.1, bt272.2.2.2.2.2.2.2)) else (some (3, 1, 1, (⟨#[97]⟩ : ByteArray), (⟨#[]⟩ : ByteArray), 0, bt272.2.2.2.2.2.2.1, bt272.2.2.2.2.2.2.2)))))))
theorem spec_l16Right.mono : ∀ a0 a1 a2 k, LeO (spec_l16Right.f k a0 a1 a2) (spec_l16Right.f (k + 1) a0 a1 a2) := by
 intro a0 a1 a2 k
 unfold spec_l16Right.f
 repeat' first
   | (with_reducible exact spec_CommandOk.mono _ _ _ _ _ _ _)
   | (with_reducible exact spec_l15Command.mono _ _ _ _ _ _)
   | (with_reducible first | exact LeO.refl _ | exact LeO.none _ | refine LeO.ite ?_ ?_ | refine LeO.bind ?_ (fun _ => ?_))
   | exact spec_CommandOk.mono _ _ _ _ _ _ _
   | exact spec_l15Command.mono _ _ _ _ _ _
set_option maxHeartbeats 8000000 in
set_option maxRecDepth 100000 in
theorem spec_l16Right.calls (k : Nat) (g : Nat) (s0_0 : List Int) (s0_1 : Int) (s0_2 : Int) (r1 : Int) (r2 : Int) (r3 : Int) (r4 : ByteArray) (r5 : ByteArray) (r6 : Int) (r7 : Int) (r8 : Int) (w0 w : World) (hI : IsS107 w0 w g s0_0 s0_1 s0_2) (hB : Below w0.heap.size w0 w) (h : spec_l16Right.f k s0_0 s0_1 s0_2 = some (r1, r2, r3, r4, r5, r6, r7, r8)) :
  Calls Try.prog 84 #[.pointer (some ⟨g, 0, none⟩)] w fun e w' => e = .returned (.agg #[.int .i64 r1, .int .i64 r2, .int .i64 r3, .string r4, .string r5, .int .i64 r6]) ∧ IsS107 w0 w' g s0_0 r7 r8 ∧ Below w0.heap.size w0 w' ∧ KeepBut w w' g none := by
 have hu59 := Try.underlying59
 have hu47 := Try.underlying47
 have hu83 := Try.underlying83
 have HI0 := Aside0.mk hI
 have HK := Aside0.mk (KeepBut.refl w g none)
 have HL := Aside0.mk hB.size
 clear hI
 have HW0 := Aside0.mk hB.size
 have HB := Aside0.mk hB
 clear hB
 have H : ((spec_KeepNew.f).bind fun bt256 => ((spec_l01Below.f s0_0 s0_1 s0_2 5).bind fun bt263 => ((spec_l01Below.f s0_0 bt263.2.1 bt263.2.2 4).bind fun bt266 => ((spec_l15Command.f k s0_0 bt266.2.1 bt266.2.2 (([(⟨wrap64 (1 + bt263.1), bt266.1, (⟨#[]⟩ : ByteArray)⟩ : S83)] : List (S83))) bt256.2).bind fun bt272 => ((spec_CommandOk.f k bt272.1 bt272.2.1 bt272.2.2.1 bt272.2.2.2.1 bt272.2.2.2.2.1 bt272.2.2.2.2.2.1).bind fun t281 => (if t281 = true then (some (bt272.1, bt272.2.1, bt272.2.2.1, bt272.2.2.2.1, bt272.2.2.2.2.1, bt272.2.2.2.2.2.1, bt272.2.2.2.2.2.2.1, bt272.2.2.2.2.2.2.2)) else (some (3, 1, 1, (⟨#[97]⟩ : ByteArray), (⟨#[]⟩ : ByteArray), 0, bt272.2.2.2.2.2.2.1, bt272.2.2.2.2.2.2.2)))))))) = some (r1, r2, r3, r4, r5, r6, r7, r8) := h
 clear h
 replace H := bsi H
 obtain ⟨⟨t256, t259⟩, A2, H⟩ := H
 (try dsimp only at H)
 replace H := bsi H
 obtain ⟨⟨t263, t264, t265⟩, A3, H⟩ := H
 (try dsimp only at H)
 replace H := bsi H
 obtain ⟨⟨t266, t267, t268⟩, A4, H⟩ := H
 (try dsimp only at H)
 obtain ⟨y269, hy269⟩ : ∃ y_ : List (S83), y_ = (([(⟨wrap64 (1 + t263), t266, (⟨#[]⟩ : ByteArray)⟩ : S83)] : List (S83))) := ⟨_, rfl⟩
 replace H : ((spec_l15Command.f k s0_0 t267 t268 y269 t259).bind fun bt272 => ((spec_CommandOk.f k bt272.1 bt272.2.1 bt272.2.2.1 bt272.2.2.2.1 bt272.2.2.2.2.1 bt272.2.2.2.2.2.1).bind fun t281 => (if t281 = true then (some (bt272.1, bt272.2.1, bt272.2.2.1, bt272.2.2.2.1, bt272.2.2.2.2.1, bt272.2.2.2.2.2.1, bt272.2.2.2.2.2.2.1, bt272.2.2.2.2.2.2.2)) else (some (3, 1, 1, (⟨#[97]⟩ : ByteArray), (⟨#[]⟩ : ByteArray), 0, bt272.2.2.2.2.2.2.1, bt272.2.2.2.2.2.2.2))))) = some (r1, r2, r3, r4, r5, r6, r7, r8) := by first | (rw [hy269]; with_reducible exact H) | (have H2_ := (Option.bind_some _ _).symm.trans H; rw [hy269]; with_reducible exact H2_) | (have H2_ := (Option.bind_some _ _).symm.trans H; with_reducible exact H2_) | with_reducible exact H | (rw [hy269]; exact H) | exact H
 have Ny269 := Aside0.mk hy269
 clear hy269
 replace H := bsi H
 obtain ⟨⟨t272, t273, t274, t275, t276, t277, t278, t279⟩, A5, H⟩ := H
 (try dsimp only at H)
 replace H := bsi H
 obtain ⟨t281, A6, H⟩ := H
 (try dsimp only at H)
 by_cases c7 : t281 = true
 ·subst c7
  rw [if_pos rfl] at H
  simp only [Option.some.injEq, Prod.mk.injEq] at H
  obtain ⟨rfl, rfl, rfl, rfl, rfl, rfl, rfl, rfl⟩ := H
  go_enter Try.func84, Try.ntmps84
  go_wp2_with (first | ((with_reducible refine gate_dst (N := 2) rfl ?_); refine box_event ?hg (N := 2) ?hd (cs := #[.int .i64 0, .int .i64 0, .int .i64 0, .string (⟨#[]⟩ : ByteArray), .string (⟨#[]⟩ : ByteArray), .int .i64 0]) (t := 59) ?hr ?_; (case hd => rfl); (case hg => rfl); (case hr => exact B7x31_); intro gb255 hg w8 hbox hb; replace HB := Aside0.mk (below_step B7x34_ hb); have BK255 := Aside0.mk (hbox); have GW255 := Aside0.mk ((bs hg (keep_size HK.out))); have GE255 := Aside0.mk ((Nat.le_trans HW0.out (bs hg (keep_size HK.out)) : w0.heap.size ≤ gb255)); replace HK := Aside0.mk (KeepBut.trans B7x36_ (KeepBut.of_below hb g none) (.inl rfl)); have NB0_255 := Aside0.mk ((nl hg (IsS107.lt HI0.out))); have NB255_0 := Aside0.mk ((ng hg (IsS107.lt HI0.out))); replace HI0 := Aside0.mk (IsS107.below B7x33_ hb); clear hb hbox hg) | ((with_reducible refine gate_callee (f := 101) rfl ?_); refine goesL_ (some 5) rfl rfl Try.func101 B7x35_ rfl #[] rfl B7x4_ ?_; (with_reducible refine (spec_KeepNew.calls  t256 t259 _ A2.out).mono ?_); rintro e w9 ⟨v257, v260, rfl, ho0, ho1, hb⟩; refine ⟨_, rfl, ?_⟩; have HO258 := Aside0.mk (Kd.R_lower ho0 (keep_size (w := w) (g := g) (row := none) B7x9_)); have HO261 := Aside0.mk (Kd.R_lower ho1 (keep_size (w := w) (g := g) (row := none) B7x9_)); replace BK255 := Aside0.mk (bb BK255.out hb); replace HK := Aside0.mk (KeepBut.trans B7x9_ (KeepBut.of_below hb g none) (.inl rfl)); replace HB := Aside0.mk (below_step B7x26_ hb); replace HI0 := Aside0.mk (IsS107.below B7x25_ hb); (try clear hb); (try clear ho0); (try clear ho1)) | ((with_reducible refine gate_dst (N := 3) rfl ?_); refine box_event ?hg (N := 3) ?hd (cs := #[.slice none 0 0, .slice none 0 0]) (t := 47) ?hr ?_; (case hd => rfl); (case hg => rfl); (case hr => exact B7x31_); intro gb262 hg w10 hbox hb; replace HO258 := Aside0.mk (Kd.R_below B7x14_ hb); replace HO261 := Aside0.mk (Kd.R_below B7x21_ hb); replace HB := Aside0.mk (below_step B7x26_ hb); have BK262 := Aside0.mk (hbox); have GW262 := Aside0.mk ((bs hg (keep_size HK.out))); have GE262 := Aside0.mk ((Nat.le_trans HW0.out (bs hg (keep_size HK.out)) : w0.heap.size ≤ gb262)); replace HK := Aside0.mk (KeepBut.trans B7x9_ (KeepBut.of_below hb g none) (.inl rfl)); have NB255_262 := Aside0.mk ((nl hg (blk_lt BK255.out))); have NB262_255 := Aside0.mk ((ng hg (blk_lt BK255.out))); replace BK255 := Aside0.mk (bb BK255.out hb); have NB0_262 := Aside0.mk ((nl hg (IsS107.lt HI0.out))); have NB262_0 := Aside0.mk ((ng hg (IsS107.lt HI0.out))); replace HI0 := Aside0.mk (IsS107.below B7x25_ hb); clear hb hbox hg; obtain ⟨Ao11, co11, eo11⟩ := Kd.R_slice HO258.out; subst eo11; have hnb12 := NB262_255.out; have hnc12 := NB255_262.out; have hnb13 := NB262_0.out; have hnc13 := NB0_262.out; obtain ⟨hcz14_0, hcz14_1⟩ := cl2 BK262.out; obtain ⟨hfz14_0, hfz14_1⟩ := fr2 BK262.out; obtain ⟨Ao15, co15, eo15⟩ := Kd.R_slice HO261.out; subst eo15) | ((with_reducible refine gate_callee (f := 41) rfl ?_); refine goesL_ (some 7) rfl rfl Try.func41 B7x35_ rfl #[.pointer (some ⟨g, 0, none⟩), .int .i64 5] rfl B7x4_ ?_; (with_reducible refine (spec_l01Below.calls g s0_0 s0_1 s0_2 5 t263 t264 t265 w0 _ ?side1 ?side2 A3.out).mono ?_); (case side1 => exact B7x0_); (case side2 => exact B7x6_); rintro e w16 ⟨rfl, hi, hb, hk⟩; refine ⟨_, rfl, ?_⟩; replace BK255 := Aside0.mk (KeepBut.blk hk (g' := gb255) (o := .cells #[.int .i64 0, .int .i64 0, .int .i64 0, .string (⟨#[]⟩ : ByteArray), .string (⟨#[]⟩ : ByteArray), .int .i64 0] 59 (0, 0)) B7x16_ NB255_0.out (by simp)); replace HO258 := Aside0.mk (Kd.R_mono (Kd.R_keep (IsS107.apart (show IsS107 w0 _ g s0_0 s0_1 s0_2 from B7x0_) (by (with_reducible repeat (first | apply Kd.R_alloc | apply Kd.R_drewN | apply Kd.R_drew)); exact (Kd.R_mono (Kd.R_far (p := ⟨gb262, 1, none⟩) (Kd.R_far (p := ⟨gb262, 0, none⟩) (Kd.R_types HO258.out BK262.out (by decide)) (fun _ hk => hk.2) (.slice Ao11 t256.length co11)) (fun _ hk => hk.2) (.slice Ao15 t259.length co15)) (fun _ h_ => h_.1))) (by decide)) hk (fun _ h => h.2)) (fun _ h => h.1)); replace HO261 := Aside0.mk (Kd.R_mono (Kd.R_keep (IsS107.apart (show IsS107 w0 _ g s0_0 s0_1 s0_2 from B7x0_) (by (with_reducible repeat (first | apply Kd.R_alloc | apply Kd.R_drewN | apply Kd.R_drew)); exact (Kd.R_mono (Kd.R_far (p := ⟨gb262, 1, none⟩) (Kd.R_far (p := ⟨gb262, 0, none⟩) (Kd.R_types HO261.out BK262.out (by decide)) (fun _ hk => hk.2) (.slice Ao11 t256.length co11)) (fun _ hk => hk.2) (.slice Ao15 t259.length co15)) (fun _ h_ => h_.1))) (by decide)) hk (fun _ h => h.2)) (fun _ h => h.1)); replace BK262 := Aside0.mk (KeepBut.blk hk (g' := gb262) (o := .cells #[.slice Ao11 t256.length co11, .slice Ao15 t259.length co15] 47 (0, 0)) B7x19_ NB262_0.out (by simp)); replace HK := Aside0.mk (KeepBut.trans B7x5_ hk (.inl rfl)); replace HB := Aside0.mk (hb); replace HI0 := Aside0.mk (hi); (try clear hb hk hi)) | ((with_reducible refine gate_callee (f := 41) rfl ?_); refine goesL_ (some 10) rfl rfl Try.func41 B7x35_ rfl #[.pointer (some ⟨g, 0, none⟩), .int .i64 4] rfl B7x4_ ?_; (with_reducible refine (spec_l01Below.calls g s0_0 t264 t265 4 t266 t267 t268 w0 _ ?side1 ?side2 A4.out).mono ?_); (case side1 => exact B7x0_); (case side2 => exact B7x6_); rintro e w17 ⟨rfl, hi, hb, hk⟩; refine ⟨_, rfl, ?_⟩; replace BK255 := Aside0.mk (kb hk BK255.out NB255_0.out); replace HO258 := Aside0.mk (Kd.R_mono (Kd.R_keep (IsS107.apart (show IsS107 w0 _ g s0_0 t264 t265 from B7x0_) B7x14_ (by decide)) hk (fun _ h => h.2)) (fun _ h => h.1)); replace HO261 := Aside0.mk (Kd.R_mono (Kd.R_keep (IsS107.apart (show IsS107 w0 _ g s0_0 t264 t265 from B7x0_) B7x21_ (by decide)) hk (fun _ h => h.2)) (fun _ h => h.1)); replace BK262 := Aside0.mk (kb hk BK262.out NB262_0.out); replace HK := Aside0.mk (KeepBut.trans B7x5_ hk (.inl rfl)); replace HB := Aside0.mk (hb); replace HI0 := Aside0.mk (hi); (try clear hb hk hi)) | ((with_reducible refine gate_dst (N := 12) rfl ?_); refine Kd.R_lit k83 _ 83 ?hg (N := 12) ?hd (xs := ([(⟨wrap64 (1 + t263), t266, (⟨#[]⟩ : ByteArray)⟩ : S83)] : List (S83))) (inner := [.int .i64 (wrap64 (1 + t263)), .int .i64 t266, .string (⟨#[]⟩ : ByteArray)]) (ok := fun _ => True) (okp := fun _ => True) ?hr ?hp (fun _ hk => hk) trivial (Below.refl _ _) (Nat.le_refl _) (by simp) ?_; (case hd => rfl); (case hg => rfl); (case hr => exact B7x31_); (case hp => exact B7x42_); intro v270 w18 ho19 hb hg_ hnew_; clear hg_ hnew_; (first | rw [← Ny269.out] at ho19 | (simp only [Int.reduceToNat] at ho19; rw [← Ny269.out] at ho19)); replace HO261 := Aside0.mk (Kd.R_below B7x21_ hb); have HO271 := Aside0.mk (Kd.R_lower (Kd.R_new' ho19 (Kd.R_lt B7x14_)) (keep_size (w := w) (g := g) (row := none) B7x5_)); replace HO258 := Aside0.mk (Kd.R_elder' B7x14_ (Kd.R_base ho19) hb); replace BK255 := Aside0.mk (bb BK255.out hb); replace BK262 := Aside0.mk (bb BK262.out hb); replace HK := Aside0.mk (KeepBut.trans B7x5_ (KeepBut.of_below hb g none) (.inl rfl)); replace HB := Aside0.mk (below_step B7x6_ hb); replace HI0 := Aside0.mk (IsS107.below B7x0_ hb); clear hb ho19; obtain ⟨Ao20, co20, eo20⟩ := Kd.R_slice HO271.out; subst eo20; obtain ⟨hcz21_0, hcz21_1⟩ := cl2 BK262.out; obtain ⟨hfz21_0, hfz21_1⟩ := fr2 BK262.out) | ((with_reducible refine gate_callee (f := 99) rfl ?_); refine goesL_ (some 16) rfl rfl Try.func99 B7x35_ rfl #[.pointer (some ⟨g, 0, none⟩), .agg #[.slice Ao20 y269.length co20, .slice Ao15 t259.length co15]] rfl B7x4_ ?_; (with_reducible refine (spec_l15Command.calls k g s0_0 t267 t268 _ _ y269 _ _ t259 t272 t273 t274 t275 t276 t277 t278 t279 w0 _ ?side1 ?side2 ?side3 ?side4 ?side5 ?side6 A5.out).mono ?_); (case side1 => exact B7x0_); (case side2 => exact B7x6_); (case side3 => exact Kd.C_foot_own (IsS107.apart (show IsS107 w0 _ g s0_0 t267 t268 from B7x0_) B7x49_ (by decide)) (fun _ h_ => h_.2)); (case side4 => exact (Kd.R_reads' HO271.out).2.1); (case side5 => exact Kd.C_foot_own (IsS107.apart (show IsS107 w0 _ g s0_0 t267 t268 from B7x0_) B7x47_ (by decide)) (fun _ h_ => h_.2)); (case side6 => exact (Kd.R_reads' HO261.out).2.1); rintro e w22 ⟨rfl, hi, hb, hk⟩; refine ⟨_, rfl, ?_⟩; replace BK255 := Aside0.mk (KeepBut.blk hk (g' := gb255) (o := .cells #[.int .i64 0, .int .i64 0, .int .i64 0, .string (⟨#[]⟩ : ByteArray), .string (⟨#[]⟩ : ByteArray), .int .i64 0] 59 (0, 0)) B7x16_ NB255_0.out (by simp)); replace HO258 := Aside0.mk (Kd.R_mono (Kd.R_keep (IsS107.apart (show IsS107 w0 _ g s0_0 t267 t268 from B7x0_) (by (with_reducible repeat (first | apply Kd.R_alloc | apply Kd.R_drewN | apply Kd.R_drew)); exact (Kd.R_mono (Kd.R_far (p := ⟨gb262, 0, none⟩) (Kd.R_types HO258.out BK262.out (by decide)) (fun _ hk => hk.2) (.slice Ao20 y269.length co20)) (fun _ h_ => h_.1))) (by decide)) hk (fun _ h => h.2)) (fun _ h => h.1)); replace HO261 := Aside0.mk (Kd.R_mono (Kd.R_keep (IsS107.apart (show IsS107 w0 _ g s0_0 t267 t268 from B7x0_) B7x47_ (by decide)) hk (fun _ h => h.2)) (fun _ h => h.1)); replace HO271 := Aside0.mk (Kd.R_mono (Kd.R_keep (IsS107.apart (show IsS107 w0 _ g s0_0 t267 t268 from B7x0_) B7x49_ (by decide)) hk (fun _ h => h.2)) (fun _ h => h.1)); replace BK262 := Aside0.mk (KeepBut.blk hk (g' := gb262) (o := .cells #[.slice Ao20 y269.length co20, .slice Ao15 t259.length co15] 47 (0, 0)) B7x19_ NB262_0.out (by simp)); replace HK := Aside0.mk (KeepBut.trans B7x5_ hk (.inl rfl)); replace HB := Aside0.mk (hb); replace HI0 := Aside0.mk (hi); (try clear hb hk hi)) | ((with_reducible refine gate_dst (N := 4) rfl ?_); refine box_event ?hg (N := 4) ?hd (cs := #[.int .i64 0, .int .i64 0, .int .i64 0, .string (⟨#[]⟩ : ByteArray), .string (⟨#[]⟩ : ByteArray), .int .i64 0]) (t := 59) ?hr ?_; (case hd => rfl); (case hg => rfl); (case hr => exact B7x31_); intro gb280 hg w23 hbox hb; replace HO258 := Aside0.mk (Kd.R_below B7x14_ hb); replace HO261 := Aside0.mk (Kd.R_below B7x21_ hb); replace HO271 := Aside0.mk (Kd.R_below B7x57_ hb); replace HB := Aside0.mk (below_step B7x6_ hb); have BK280 := Aside0.mk (hbox); have GW280 := Aside0.mk ((bs hg (keep_size HK.out))); have GE280 := Aside0.mk ((Nat.le_trans HW0.out (bs hg (keep_size HK.out)) : w0.heap.size ≤ gb280)); replace HK := Aside0.mk (KeepBut.trans B7x5_ (KeepBut.of_below hb g none) (.inl rfl)); have NB255_280 := Aside0.mk ((nl hg (blk_lt BK255.out))); have NB280_255 := Aside0.mk ((ng hg (blk_lt BK255.out))); replace BK255 := Aside0.mk (bb BK255.out hb); have NB262_280 := Aside0.mk ((nl hg (blk_lt BK262.out))); have NB280_262 := Aside0.mk ((ng hg (blk_lt BK262.out))); replace BK262 := Aside0.mk (bb BK262.out hb); have NB0_280 := Aside0.mk ((nl hg (IsS107.lt HI0.out))); have NB280_0 := Aside0.mk ((ng hg (IsS107.lt HI0.out))); replace HI0 := Aside0.mk (IsS107.below B7x0_ hb); clear hb hbox hg; have hnb24 := NB280_255.out; have hnc24 := NB255_280.out; have hnb25 := NB280_262.out; have hnc25 := NB262_280.out; have hnb26 := NB280_0.out; have hnc26 := NB0_280.out; obtain ⟨hcz27_0, hcz27_1, hcz27_2, hcz27_3, hcz27_4, hcz27_5⟩ := cl6 BK280.out; obtain ⟨hfz27_0, hfz27_1, hfz27_2, hfz27_3, hfz27_4, hfz27_5⟩ := fr6 BK280.out) | ((with_reducible refine gate_callee (f := 36) rfl ?_); refine goesL_ (some 18) rfl rfl Try.func36 B7x35_ rfl #[.agg #[.int .i64 t272, .int .i64 t273, .int .i64 t274, .string t275, .string t276, .int .i64 t277]] rfl B7x4_ ?_; (with_reducible refine (spec_CommandOk.calls k t272 t273 t274 t275 t276 t277 true _ A6.out).mono ?_); rintro e w28 ⟨rfl, hb⟩; refine ⟨_, rfl, ?_⟩; replace HO258 := Aside0.mk (Kd.R_below B7x27_ hb); replace HO261 := Aside0.mk (Kd.R_below B7x28_ hb); replace HO271 := Aside0.mk (Kd.R_below B7x29_ hb); replace BK255 := Aside0.mk (blk_below (g := gb255) (o := .cells #[.int .i64 0, .int .i64 0, .int .i64 0, .string (⟨#[]⟩ : ByteArray), .string (⟨#[]⟩ : ByteArray), .int .i64 0] 59 (0, 0)) B7x40_ hb); replace BK262 := Aside0.mk (blk_below (g := gb262) (o := .cells #[.slice Ao20 y269.length co20, .slice Ao15 t259.length co15] 47 (0, 0)) B7x41_ hb); replace BK280 := Aside0.mk (blk_below (g := gb280) (o := .cells #[.int .i64 t272, .int .i64 t273, .int .i64 t274, .string t275, .string t276, .int .i64 t277] 59 (0, 0)) B7x46_ hb); replace HK := Aside0.mk (KeepBut.trans B7x20_ (KeepBut.of_below hb g none) (.inl rfl)); replace HB := Aside0.mk (below_step B7x18_ hb); replace HI0 := Aside0.mk (IsS107.below (show IsS107 w0 ((((((w23.setCell ⟨gb280, 0, none⟩ (.int .i64 t272)).setCell ⟨gb280, 1, none⟩ (.int .i64 t273)).setCell ⟨gb280, 2, none⟩ (.int .i64 t274)).setCell ⟨gb280, 3, none⟩ (.string t275)).setCell ⟨gb280, 4, none⟩ (.string t276)).setCell ⟨gb280, 5, none⟩ (.int .i64 t277)) g s0_0 t278 t279 from B7x17_) hb); (try clear hb); obtain ⟨hcz29_0, hcz29_1, hcz29_2, hcz29_3, hcz29_4, hcz29_5⟩ := cl6 BK280.out; obtain ⟨hfz29_0, hfz29_1, hfz29_2, hfz29_3, hfz29_4, hfz29_5⟩ := fr6 BK280.out; have hnb30 := NB255_0.out; have hnc30 := NB0_255.out; obtain ⟨hcz31_0, hcz31_1, hcz31_2, hcz31_3, hcz31_4, hcz31_5⟩ := cl6 BK255.out; obtain ⟨hfz31_0, hfz31_1, hfz31_2, hfz31_3, hfz31_4, hfz31_5⟩ := fr6 BK255.out))
  refine bodyPost_ret (results_cell_row rfl _ _ gb255 59 #[.int .i64 t272, .int .i64 t273, .int .i64 t274, .string t275, .string t276, .int .i64 t277] (0, 0) _ rfl B7x45_ Try.underlying59 rfl B7x35_) rfl ?_
  exact ⟨B7x54_, B7x17_, B7x18_, B7x20_⟩
 ·replace c7 := Bool.eq_false_iff.mpr c7
  subst c7
  rw [if_neg (show ¬ (false = true) by decide)] at H
  simp only [Option.some.injEq, Prod.mk.injEq] at H
  obtain ⟨rfl, rfl, rfl, rfl, rfl, rfl, rfl, rfl⟩ := H
  go_enter Try.func84, Try.ntmps84
  go_wp2_with (first | ((with_reducible refine gate_dst (N := 2) rfl ?_); refine box_event ?hg (N := 2) ?hd (cs := #[.int .i64 0, .int .i64 0, .int .i64 0, .string (⟨#[]⟩ : ByteArray), .string (⟨#[]⟩ : ByteArray), .int .i64 0]) (t := 59) ?hr ?_; (case hd => rfl); (case hg => rfl); (case hr => exact B7x31_); intro gb255 hg w32 hbox hb; replace HB := Aside0.mk (below_step B7x34_ hb); have BK255 := Aside0.mk (hbox); have GW255 := Aside0.mk ((bs hg (keep_size HK.out))); have GE255 := Aside0.mk ((Nat.le_trans HW0.out (bs hg (keep_size HK.out)) : w0.heap.size ≤ gb255)); replace HK := Aside0.mk (KeepBut.trans B7x36_ (KeepBut.of_below hb g none) (.inl rfl)); have NB0_255 := Aside0.mk ((nl hg (IsS107.lt HI0.out))); have NB255_0 := Aside0.mk ((ng hg (IsS107.lt HI0.out))); replace HI0 := Aside0.mk (IsS107.below B7x33_ hb); clear hb hbox hg) | ((with_reducible refine gate_callee (f := 101) rfl ?_); refine goesL_ (some 5) rfl rfl Try.func101 B7x35_ rfl #[] rfl B7x4_ ?_; (with_reducible refine (spec_KeepNew.calls  t256 t259 _ A2.out).mono ?_); rintro e w33 ⟨v257, v260, rfl, ho0, ho1, hb⟩; refine ⟨_, rfl, ?_⟩; have HO258 := Aside0.mk (Kd.R_lower ho0 (keep_size (w := w) (g := g) (row := none) B7x9_)); have HO261 := Aside0.mk (Kd.R_lower ho1 (keep_size (w := w) (g := g) (row := none) B7x9_)); replace BK255 := Aside0.mk (bb BK255.out hb); replace HK := Aside0.mk (KeepBut.trans B7x9_ (KeepBut.of_below hb g none) (.inl rfl)); replace HB := Aside0.mk (below_step B7x26_ hb); replace HI0 := Aside0.mk (IsS107.below B7x25_ hb); (try clear hb); (try clear ho0); (try clear ho1)) | ((with_reducible refine gate_dst (N := 3) rfl ?_); refine box_event ?hg (N := 3) ?hd (cs := #[.slice none 0 0, .slice none 0 0]) (t := 47) ?hr ?_; (case hd => rfl); (case hg => rfl); (case hr => exact B7x31_); intro gb262 hg w34 hbox hb; replace HO258 := Aside0.mk (Kd.R_below B7x14_ hb); replace HO261 := Aside0.mk (Kd.R_below B7x21_ hb); replace HB := Aside0.mk (below_step B7x26_ hb); have BK262 := Aside0.mk (hbox); have GW262 := Aside0.mk ((bs hg (keep_size HK.out))); have GE262 := Aside0.mk ((Nat.le_trans HW0.out (bs hg (keep_size HK.out)) : w0.heap.size ≤ gb262)); replace HK := Aside0.mk (KeepBut.trans B7x9_ (KeepBut.of_below hb g none) (.inl rfl)); have NB255_262 := Aside0.mk ((nl hg (blk_lt BK255.out))); have NB262_255 := Aside0.mk ((ng hg (blk_lt BK255.out))); replace BK255 := Aside0.mk (bb BK255.out hb); have NB0_262 := Aside0.mk ((nl hg (IsS107.lt HI0.out))); have NB262_0 := Aside0.mk ((ng hg (IsS107.lt HI0.out))); replace HI0 := Aside0.mk (IsS107.below B7x25_ hb); clear hb hbox hg; obtain ⟨Ao35, co35, eo35⟩ := Kd.R_slice HO258.out; subst eo35; have hnb36 := NB262_255.out; have hnc36 := NB255_262.out; have hnb37 := NB262_0.out; have hnc37 := NB0_262.out; obtain ⟨hcz38_0, hcz38_1⟩ := cl2 BK262.out; obtain ⟨hfz38_0, hfz38_1⟩ := fr2 BK262.out; obtain ⟨Ao39, co39, eo39⟩ := Kd.R_slice HO261.out; subst eo39) | ((with_reducible refine gate_callee (f := 41) rfl ?_); refine goesL_ (some 7) rfl rfl Try.func41 B7x35_ rfl #[.pointer (some ⟨g, 0, none⟩), .int .i64 5] rfl B7x4_ ?_; (with_reducible refine (spec_l01Below.calls g s0_0 s0_1 s0_2 5 t263 t264 t265 w0 _ ?side1 ?side2 A3.out).mono ?_); (case side1 => exact B7x0_); (case side2 => exact B7x6_); rintro e w40 ⟨rfl, hi, hb, hk⟩; refine ⟨_, rfl, ?_⟩; replace BK255 := Aside0.mk (KeepBut.blk hk (g' := gb255) (o := .cells #[.int .i64 0, .int .i64 0, .int .i64 0, .string (⟨#[]⟩ : ByteArray), .string (⟨#[]⟩ : ByteArray), .int .i64 0] 59 (0, 0)) B7x16_ NB255_0.out (by simp)); replace HO258 := Aside0.mk (Kd.R_mono (Kd.R_keep (IsS107.apart (show IsS107 w0 _ g s0_0 s0_1 s0_2 from B7x0_) (by (with_reducible repeat (first | apply Kd.R_alloc | apply Kd.R_drewN | apply Kd.R_drew)); exact (Kd.R_mono (Kd.R_far (p := ⟨gb262, 1, none⟩) (Kd.R_far (p := ⟨gb262, 0, none⟩) (Kd.R_types HO258.out BK262.out (by decide)) (fun _ hk => hk.2) (.slice Ao35 t256.length co35)) (fun _ hk => hk.2) (.slice Ao39 t259.length co39)) (fun _ h_ => h_.1))) (by decide)) hk (fun _ h => h.2)) (fun _ h => h.1)); replace HO261 := Aside0.mk (Kd.R_mono (Kd.R_keep (IsS107.apart (show IsS107 w0 _ g s0_0 s0_1 s0_2 from B7x0_) (by (with_reducible repeat (first | apply Kd.R_alloc | apply Kd.R_drewN | apply Kd.R_drew)); exact (Kd.R_mono (Kd.R_far (p := ⟨gb262, 1, none⟩) (Kd.R_far (p := ⟨gb262, 0, none⟩) (Kd.R_types HO261.out BK262.out (by decide)) (fun _ hk => hk.2) (.slice Ao35 t256.length co35)) (fun _ hk => hk.2) (.slice Ao39 t259.length co39)) (fun _ h_ => h_.1))) (by decide)) hk (fun _ h => h.2)) (fun _ h => h.1)); replace BK262 := Aside0.mk (KeepBut.blk hk (g' := gb262) (o := .cells #[.slice Ao35 t256.length co35, .slice Ao39 t259.length co39] 47 (0, 0)) B7x19_ NB262_0.out (by simp)); replace HK := Aside0.mk (KeepBut.trans B7x5_ hk (.inl rfl)); replace HB := Aside0.mk (hb); replace HI0 := Aside0.mk (hi); (try clear hb hk hi)) | ((with_reducible refine gate_callee (f := 41) rfl ?_); refine goesL_ (some 10) rfl rfl Try.func41 B7x35_ rfl #[.pointer (some ⟨g, 0, none⟩), .int .i64 4] rfl B7x4_ ?_; (with_reducible refine (spec_l01Below.calls g s0_0 t264 t265 4 t266 t267 t268 w0 _ ?side1 ?side2 A4.out).mono ?_); (case side1 => exact B7x0_); (case side2 => exact B7x6_); rintro e w41 ⟨rfl, hi, hb, hk⟩; refine ⟨_, rfl, ?_⟩; replace BK255 := Aside0.mk (kb hk BK255.out NB255_0.out); replace HO258 := Aside0.mk (Kd.R_mono (Kd.R_keep (IsS107.apart (show IsS107 w0 _ g s0_0 t264 t265 from B7x0_) B7x14_ (by decide)) hk (fun _ h => h.2)) (fun _ h => h.1)); replace HO261 := Aside0.mk (Kd.R_mono (Kd.R_keep (IsS107.apart (show IsS107 w0 _ g s0_0 t264 t265 from B7x0_) B7x21_ (by decide)) hk (fun _ h => h.2)) (fun _ h => h.1)); replace BK262 := Aside0.mk (kb hk BK262.out NB262_0.out); replace HK := Aside0.mk (KeepBut.trans B7x5_ hk (.inl rfl)); replace HB := Aside0.mk (hb); replace HI0 := Aside0.mk (hi); (try clear hb hk hi)) | ((with_reducible refine gate_dst (N := 12) rfl ?_); refine Kd.R_lit k83 _ 83 ?hg (N := 12) ?hd (xs := ([(⟨wrap64 (1 + t263), t266, (⟨#[]⟩ : ByteArray)⟩ : S83)] : List (S83))) (inner := [.int .i64 (wrap64 (1 + t263)), .int .i64 t266, .string (⟨#[]⟩ : ByteArray)]) (ok := fun _ => True) (okp := fun _ => True) ?hr ?hp (fun _ hk => hk) trivial (Below.refl _ _) (Nat.le_refl _) (by simp) ?_; (case hd => rfl); (case hg => rfl); (case hr => exact B7x31_); (case hp => exact B7x42_); intro v270 w42 ho43 hb hg_ hnew_; clear hg_ hnew_; (first | rw [← Ny269.out] at ho43 | (simp only [Int.reduceToNat] at ho43; rw [← Ny269.out] at ho43)); replace HO261 := Aside0.mk (Kd.R_below B7x21_ hb); have HO271 := Aside0.mk (Kd.R_lower (Kd.R_new' ho43 (Kd.R_lt B7x14_)) (keep_size (w := w) (g := g) (row := none) B7x5_)); replace HO258 := Aside0.mk (Kd.R_elder' B7x14_ (Kd.R_base ho43) hb); replace BK255 := Aside0.mk (bb BK255.out hb); replace BK262 := Aside0.mk (bb BK262.out hb); replace HK := Aside0.mk (KeepBut.trans B7x5_ (KeepBut.of_below hb g none) (.inl rfl)); replace HB := Aside0.mk (below_step B7x6_ hb); replace HI0 := Aside0.mk (IsS107.below B7x0_ hb); clear hb ho43; obtain ⟨Ao44, co44, eo44⟩ := Kd.R_slice HO271.out; subst eo44; obtain ⟨hcz45_0, hcz45_1⟩ := cl2 BK262.out; obtain ⟨hfz45_0, hfz45_1⟩ := fr2 BK262.out) | ((with_reducible refine gate_callee (f := 99) rfl ?_); refine goesL_ (some 16) rfl rfl Try.func99 B7x35_ rfl #[.pointer (some ⟨g, 0, none⟩), .agg #[.slice Ao44 y269.length co44, .slice Ao39 t259.length co39]] rfl B7x4_ ?_; (with_reducible refine (spec_l15Command.calls k g s0_0 t267 t268 _ _ y269 _ _ t259 t272 t273 t274 t275 t276 t277 t278 t279 w0 _ ?side1 ?side2 ?side3 ?side4 ?side5 ?side6 A5.out).mono ?_); (case side1 => exact B7x0_); (case side2 => exact B7x6_); (case side3 => exact Kd.C_foot_own (IsS107.apart (show IsS107 w0 _ g s0_0 t267 t268 from B7x0_) B7x50_ (by decide)) (fun _ h_ => h_.2)); (case side4 => exact (Kd.R_reads' HO271.out).2.1); (case side5 => exact Kd.C_foot_own (IsS107.apart (show IsS107 w0 _ g s0_0 t267 t268 from B7x0_) B7x48_ (by decide)) (fun _ h_ => h_.2)); (case side6 => exact (Kd.R_reads' HO261.out).2.1); rintro e w46 ⟨rfl, hi, hb, hk⟩; refine ⟨_, rfl, ?_⟩; replace BK255 := Aside0.mk (KeepBut.blk hk (g' := gb255) (o := .cells #[.int .i64 0, .int .i64 0, .int .i64 0, .string (⟨#[]⟩ : ByteArray), .string (⟨#[]⟩ : ByteArray), .int .i64 0] 59 (0, 0)) B7x16_ NB255_0.out (by simp)); replace HO258 := Aside0.mk (Kd.R_mono (Kd.R_keep (IsS107.apart (show IsS107 w0 _ g s0_0 t267 t268 from B7x0_) (by (with_reducible repeat (first | apply Kd.R_alloc | apply Kd.R_drewN | apply Kd.R_drew)); exact (Kd.R_mono (Kd.R_far (p := ⟨gb262, 0, none⟩) (Kd.R_types HO258.out BK262.out (by decide)) (fun _ hk => hk.2) (.slice Ao44 y269.length co44)) (fun _ h_ => h_.1))) (by decide)) hk (fun _ h => h.2)) (fun _ h => h.1)); replace HO261 := Aside0.mk (Kd.R_mono (Kd.R_keep (IsS107.apart (show IsS107 w0 _ g s0_0 t267 t268 from B7x0_) B7x48_ (by decide)) hk (fun _ h => h.2)) (fun _ h => h.1)); replace HO271 := Aside0.mk (Kd.R_mono (Kd.R_keep (IsS107.apart (show IsS107 w0 _ g s0_0 t267 t268 from B7x0_) B7x50_ (by decide)) hk (fun _ h => h.2)) (fun _ h => h.1)); replace BK262 := Aside0.mk (KeepBut.blk hk (g' := gb262) (o := .cells #[.slice Ao44 y269.length co44, .slice Ao39 t259.length co39] 47 (0, 0)) B7x19_ NB262_0.out (by simp)); replace HK := Aside0.mk (KeepBut.trans B7x5_ hk (.inl rfl)); replace HB := Aside0.mk (hb); replace HI0 := Aside0.mk (hi); (try clear hb hk hi)) | ((with_reducible refine gate_dst (N := 4) rfl ?_); refine box_event ?hg (N := 4) ?hd (cs := #[.int .i64 0, .int .i64 0, .int .i64 0, .string (⟨#[]⟩ : ByteArray), .string (⟨#[]⟩ : ByteArray), .int .i64 0]) (t := 59) ?hr ?_; (case hd => rfl); (case hg => rfl); (case hr => exact B7x31_); intro gb280 hg w47 hbox hb; replace HO258 := Aside0.mk (Kd.R_below B7x14_ hb); replace HO261 := Aside0.mk (Kd.R_below B7x21_ hb); replace HO271 := Aside0.mk (Kd.R_below B7x57_ hb); replace HB := Aside0.mk (below_step B7x6_ hb); have BK280 := Aside0.mk (hbox); have GW280 := Aside0.mk ((bs hg (keep_size HK.out))); have GE280 := Aside0.mk ((Nat.le_trans HW0.out (bs hg (keep_size HK.out)) : w0.heap.size ≤ gb280)); replace HK := Aside0.mk (KeepBut.trans B7x5_ (KeepBut.of_below hb g none) (.inl rfl)); have NB255_280 := Aside0.mk ((nl hg (blk_lt BK255.out))); have NB280_255 := Aside0.mk ((ng hg (blk_lt BK255.out))); replace BK255 := Aside0.mk (bb BK255.out hb); have NB262_280 := Aside0.mk ((nl hg (blk_lt BK262.out))); have NB280_262 := Aside0.mk ((ng hg (blk_lt BK262.out))); replace BK262 := Aside0.mk (bb BK262.out hb); have NB0_280 := Aside0.mk ((nl hg (IsS107.lt HI0.out))); have NB280_0 := Aside0.mk ((ng hg (IsS107.lt HI0.out))); replace HI0 := Aside0.mk (IsS107.below B7x0_ hb); clear hb hbox hg; have hnb48 := NB280_255.out; have hnc48 := NB255_280.out; have hnb49 := NB280_262.out; have hnc49 := NB262_280.out; have hnb50 := NB280_0.out; have hnc50 := NB0_280.out; obtain ⟨hcz51_0, hcz51_1, hcz51_2, hcz51_3, hcz51_4, hcz51_5⟩ := cl6 BK280.out; obtain ⟨hfz51_0, hfz51_1, hfz51_2, hfz51_3, hfz51_4, hfz51_5⟩ := fr6 BK280.out) | ((with_reducible refine gate_callee (f := 36) rfl ?_); refine goesL_ (some 18) rfl rfl Try.func36 B7x35_ rfl #[.agg #[.int .i64 t272, .int .i64 t273, .int .i64 t274, .string t275, .string t276, .int .i64 t277]] rfl B7x4_ ?_; (with_reducible refine (spec_CommandOk.calls k t272 t273 t274 t275 t276 t277 false _ A6.out).mono ?_); rintro e w52 ⟨rfl, hb⟩; refine ⟨_, rfl, ?_⟩; replace HO258 := Aside0.mk (Kd.R_below B7x27_ hb); replace HO261 := Aside0.mk (Kd.R_below B7x28_ hb); replace HO271 := Aside0.mk (Kd.R_below B7x29_ hb); replace BK255 := Aside0.mk (blk_below (g := gb255) (o := .cells #[.int .i64 0, .int .i64 0, .int .i64 0, .string (⟨#[]⟩ : ByteArray), .string (⟨#[]⟩ : ByteArray), .int .i64 0] 59 (0, 0)) B7x40_ hb); replace BK262 := Aside0.mk (blk_below (g := gb262) (o := .cells #[.slice Ao44 y269.length co44, .slice Ao39 t259.length co39] 47 (0, 0)) B7x41_ hb); replace BK280 := Aside0.mk (blk_below (g := gb280) (o := .cells #[.int .i64 t272, .int .i64 t273, .int .i64 t274, .string t275, .string t276, .int .i64 t277] 59 (0, 0)) B7x46_ hb); replace HK := Aside0.mk (KeepBut.trans B7x20_ (KeepBut.of_below hb g none) (.inl rfl)); replace HB := Aside0.mk (below_step B7x18_ hb); replace HI0 := Aside0.mk (IsS107.below (show IsS107 w0 ((((((w47.setCell ⟨gb280, 0, none⟩ (.int .i64 t272)).setCell ⟨gb280, 1, none⟩ (.int .i64 t273)).setCell ⟨gb280, 2, none⟩ (.int .i64 t274)).setCell ⟨gb280, 3, none⟩ (.string t275)).setCell ⟨gb280, 4, none⟩ (.string t276)).setCell ⟨gb280, 5, none⟩ (.int .i64 t277)) g s0_0 t278 t279 from B7x17_) hb); (try clear hb); have hnb53 := NB255_0.out; have hnc53 := NB0_255.out; obtain ⟨hcz54_0, hcz54_1, hcz54_2, hcz54_3, hcz54_4, hcz54_5⟩ := cl6 BK255.out; obtain ⟨hfz54_0, hfz54_1, hfz54_2, hfz54_3, hfz54_4, hfz54_5⟩ := fr6 BK255.out))
  refine bodyPost_ret (results_cell_row rfl _ _ gb255 59 #[.int .i64 3, .int .i64 1, .int .i64 1, .string (⟨#[97]⟩ : ByteArray), .string (⟨#[]⟩ : ByteArray), .int .i64 0] (0, 0) _ rfl B7x45_ Try.underlying59 rfl B7x35_) rfl ?_
  exact ⟨B7x54_, B7x17_, B7x18_, B7x20_⟩

end Go.Proofs.Ytgffdijodnpolaa.QFnPuts
