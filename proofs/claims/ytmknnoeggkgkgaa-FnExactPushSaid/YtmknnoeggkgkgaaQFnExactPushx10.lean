/- Functions that a law reaches, as functions of Lean, and the walks that show that the calls come to their answers: written by a program of this project out of the translation. No condition. -/
import Derived.Test.YtmknnoeggkgkgaaQFnExactPushx0
import Derived.Test.YtmknnoeggkgkgaaQFnExactPushx3
import Derived.Test.YtmknnoeggkgkgaaQFnExactPushx6
import Derived.Test.YtmknnoeggkgkgaaQFnExactPushx7
import Derived.Test.YtmknnoeggkgkgaaQFnExactPushx8
import Derived.Test.YtmknnoeggkgkgaaQFnExactPushx9
import Derived.Test.YtmknnoeggkgkgaaVFnExactPushShort4
import Derived.Test.YtmknnoeggkgkgaaVFnExactPushhort3
import Derived.Test.YtmknnoeggkgkgaaVFnExactPushShort2
import Derived.Test.YtmknnoeggkgkgaaVFnExactPushShort
namespace Go.Proofs.Ytmknnoeggkgkgaa.QFnExactPush
open Go.RowKit Go.Proofs.YtmknnoeggkgkgaaW.PrintWords Go.Proofs.YtmknnoeggkgkgaaW.PrintLast Go.Proofs.YtmknnoeggkgkgaaW.PrintMore Go.Proofs.Ytmknnoeggkgkgaa.Short
attribute [local go_sem] max2_int min2_int max_two min_two max_three min_three max_four min_four   -- for this text's walks alone
set_option linter.unusedVariables false
set_option linter.unusedSimpArgs false

theorem B10x0_ {p : Prop} (h : p := by repeat (first | (with_reducible first | exact HB.out | apply below_alloc | apply pw_below_drewN | apply below_drew1 | refine below_set ?_ GE324.out | refine below_set ?_ GE325.out | refine below_set ?_ GE341.out) | exact HB.out)) : p := h
theorem B10x1_ {p : Prop} (h : p := by rw [hw]; exact (by (with_reducible repeat (first | apply Kd.R_alloc | apply Kd.R_drewN | apply Kd.R_drew)); exact Kd.R_mono (Kd.R_far (p := ⟨gb325, 12, none⟩) (Kd.R_far (p := ⟨gb325, 11, none⟩) (Kd.R_far (p := ⟨gb325, 10, none⟩) (Kd.R_far (p := ⟨gb325, 9, none⟩) (Kd.R_far (p := ⟨gb325, 8, none⟩) (Kd.R_far (p := ⟨gb325, 7, none⟩) (Kd.R_far (p := ⟨gb325, 6, none⟩) (Kd.R_far (p := ⟨gb325, 5, none⟩) (Kd.R_far (p := ⟨gb325, 4, none⟩) (Kd.R_far (p := ⟨gb325, 3, none⟩) (Kd.R_far (p := ⟨gb325, 2, none⟩) (Kd.R_far (p := ⟨gb325, 1, none⟩) (Kd.R_far (p := ⟨gb325, 0, none⟩) (Kd.R_types HO_342009.out BK325.out (by decide)) (fun _ hk => hk.2) (.int .i64 t326)) (fun _ hk => hk.2) (.int .i64 t327)) (fun _ hk => hk.2) (.int .i64 t328)) (fun _ hk => hk.2) (.int .i64 t329)) (fun _ hk => hk.2) (.string t330)) (fun _ hk => hk.2) (.int .i64 t331)) (fun _ hk => hk.2) (.int .i64 t332)) (fun _ hk => hk.2) (.bool t333)) (fun _ hk => hk.2) (.string t334)) (fun _ hk => hk.2) (.slice Ao14 t335.length co14)) (fun _ hk => hk.2) (.bool t338)) (fun _ hk => hk.2) (.int .i64 t339)) (fun _ hk => hk.2) (.int .i64 t340)) (fun _ hk => trivial))) : p := h
theorem B10x2_ {p : Prop} (h : p := by (with_reducible repeat (first | refine blk_drewN ?_ _ | refine blk_drew ?_ | refine blk_alloc ?_ _)); exact BK341.out) : p := h
theorem B10x3_ {p : Prop} (h : p := by (repeat (with_reducible (first | exact BK324.out | apply blk_drewN | apply blk_drew | apply blk_alloc | apply blk_put | apply bf NB324_325.out))); repeat (first | exact BK324.out | (simp only [List.setIfInBounds_toArray, List.set_cons_zero, List.set_cons_succ]; with_reducible rfl) | rfl)) : p := h
theorem B10x4_ {p : Prop} (h : p := by (repeat (with_reducible (first | exact BK341.out | apply blk_drewN | apply blk_drew | apply blk_alloc | apply blk_put | apply bf NB341_325.out))); repeat (first | exact BK341.out | (simp only [List.setIfInBounds_toArray, List.set_cons_zero, List.set_cons_succ]; with_reducible rfl) | rfl)) : p := h
theorem B10x5_ {p : Prop} (h : p := by (repeat (with_reducible (first | exact BK325.out | apply blk_drewN | apply blk_drew | apply blk_alloc | apply blk_put))); repeat (first | exact BK325.out | (simp only [List.setIfInBounds_toArray, List.set_cons_zero, List.set_cons_succ]; with_reducible rfl) | rfl)) : p := h
theorem B10x6_ {p : Prop} (h : p := by (with_reducible repeat (first | refine blk_drewN ?_ _ | refine blk_drew ?_ | refine blk_alloc ?_ _)); exact BK325.out) : p := h
theorem B10x7_ {p : Prop} (h : p := by (with_reducible repeat (first | apply Kd.R_alloc | apply Kd.R_drewN | apply Kd.R_drew)); exact Kd.R_mono (Kd.R_far (p := ⟨gb325, 12, none⟩) (Kd.R_far (p := ⟨gb325, 11, none⟩) (Kd.R_far (p := ⟨gb325, 10, none⟩) (Kd.R_far (p := ⟨gb325, 9, none⟩) (Kd.R_far (p := ⟨gb325, 8, none⟩) (Kd.R_far (p := ⟨gb325, 7, none⟩) (Kd.R_far (p := ⟨gb325, 6, none⟩) (Kd.R_far (p := ⟨gb325, 5, none⟩) (Kd.R_far (p := ⟨gb325, 4, none⟩) (Kd.R_far (p := ⟨gb325, 3, none⟩) (Kd.R_far (p := ⟨gb325, 2, none⟩) (Kd.R_far (p := ⟨gb325, 1, none⟩) (Kd.R_far (p := ⟨gb325, 0, none⟩) (Kd.R_types HO_342009.out BK325.out (by decide)) (fun _ hk => hk.2) (.int .i64 t344)) (fun _ hk => hk.2) (.int .i64 t345)) (fun _ hk => hk.2) (.int .i64 t346)) (fun _ hk => hk.2) (.int .i64 t347)) (fun _ hk => hk.2) (.string t348)) (fun _ hk => hk.2) (.int .i64 t349)) (fun _ hk => hk.2) (.int .i64 t350)) (fun _ hk => hk.2) (.bool t351)) (fun _ hk => hk.2) (.string t352)) (fun _ hk => hk.2) (.slice Ao14 t335.length co14)) (fun _ hk => hk.2) (.bool t353)) (fun _ hk => hk.2) (.int .i64 t354)) (fun _ hk => hk.2) (.int .i64 t355)) (fun _ hk => trivial)) : p := h
theorem B10x8_ {p : Prop} (h : p := by (with_reducible repeat (first | apply Kd.R_alloc | apply Kd.R_drewN | apply Kd.R_drew)); exact HO_342009.out) : p := h
theorem B10x9_ {p : Prop} (h : p := by (with_reducible repeat (first | refine blk_drewN ?_ _ | refine blk_drew ?_ | refine blk_alloc ?_ _)); exact BK324.out) : p := h
theorem B10x10_ {p : Prop} (h : p := by kernel_rfl) : p := h
theorem B10x11_ {p : Prop} (h : p := by (try simp only [List.map_toArray, List.map_cons, List.map_nil]); first | done | rfl | (simp only [List.length_drop, List.length_take]; rfl)) : p := h
theorem B10x12_ {p : Prop} (h : p := by (with_reducible repeat (first | apply Kd.R_alloc | apply Kd.R_drewN | apply Kd.R_drew)); exact HO337.out) : p := h
theorem B10x13_ {p : Prop} (h : p := by first | exact (blk_below (g := gb325) (o := .cells #[.int .i64 0, .int .i64 0, .int .i64 0, .int .i64 0, .string (⟨#[]⟩ : ByteArray), .int .i64 0, .int .i64 0, .bool false, .string (⟨#[]⟩ : ByteArray), .slice none 0 0, .bool false, .int .i64 0, .int .i64 0] 39 (0, 0)) (by (with_reducible repeat (first | refine blk_drewN ?_ _ | refine blk_drew ?_ | refine blk_alloc ?_ _)); exact (Q_BK325 h0_)) hb)) : p := h
theorem B10x14_ {p : Prop} (h : p := by repeat (first | (with_reducible first | exact HB.out | apply below_alloc | apply pw_below_drewN | apply below_drew1 | refine below_set ?_ GE324.out | refine below_set ?_ GE325.out) | exact HB.out)) : p := h
theorem B10x15_ {p : Prop} (h : p := by first | (go_simp; done) | (go_simp; rfl)) : p := h
theorem B10x16_ {p : Prop} (h : p := by repeat (first | exact (Kd.C_below HR0_9.out HB.out) | (with_reducible refine Kd.C_alloc ?_ _) | (with_reducible refine Kd.C_drewN ?_ _) | (with_reducible refine Kd.C_drew ?_))) : p := h
theorem B10x17_ {p : Prop} (h : p := by rw [hw]; exact B10x0_) : p := h
theorem B10x18_ {p : Prop} (h : p := by have := HJ3.out; have := HJ33.out; first | omega | exact Nat.le_refl _) : p := h
theorem B10x19_ {p : Prop} (h : p := by rw [hw]; exact B10x3_) : p := h
theorem B10x20_ {p : Prop} (h : p := by rw [hw]; exact B10x4_) : p := h
theorem B10x21_ {p : Prop} (h : p := by rw [hw]; exact B10x5_) : p := h
theorem B10x22_ {p : Prop} (h : p := by exact ⟨B10x2_, GE341.out⟩) : p := h
theorem B10x23_ {p : Prop} (h : p := by have := HJ3.out; first | omega | exact Nat.le_refl _) : p := h
theorem B10x24_ {p : Prop} (h : p := by rw [ha.out]; exact putSel_none (v := undef) rfl) : p := h
theorem B10x25_ {p : Prop} (h : p := by rw [ha.out]; exact putSel_upk 0 hb_ rfl rfl rfl) : p := h
theorem B10x26_ {p : Prop} (h : p := by rw [ha.out]; exact putSel_upk 1 hb_ rfl rfl rfl) : p := h
theorem B10x27_ {p : Prop} (h : p := by rw [ha.out]; exact putSel_upk 2 hb_ rfl rfl rfl) : p := h
theorem B10x28_ {p : Prop} (h : p := by rw [ha.out]; exact putSel_upk 3 hb_ rfl rfl rfl) : p := h
theorem B10x29_ {p : Prop} (h : p := by rw [ha.out]; exact putSel_upk 4 hb_ rfl rfl rfl) : p := h
/-! ### impl_Push: function 21 -/
mutual
def impl_Push.j0 : Nat → Int → Bool → Int → Int → Int → Int → ByteArray → Int → Int → Bool → ByteArray → List (S143) → Bool → Int → Int → Int → Int → Int → Int → ByteArray → Int → Int → Bool → ByteArray → List (S143) → Bool → Int → Int → Option (Int × Int × Int × Int × ByteArray × Int × Int × Bool × ByteArray × (List (S143)) × Bool × Int × Int × (List (S28)))
 | 0, _, _, _, _, _, _, _, _, _, _, _, _, _, _, _, _, _, _, _, _, _, _, _, _, _, _, _, _ => none
 | k + 1, x1, x18, x325000, x325001, x325002, x325003, x325004, x325005, x325006, x325007, x325008, x325009, x325010, x325011, x325012, x342000, x342001, x342002, x342003, x342004, x342005, x342006, x342007, x342008, x342009, x342010, x342011, x342012 => if x18 = true then (some (x342000, x342001, x342002, x342003, x342004, x342005, x342006, x342007, x342008, x342009, x342010, x342011, x342012, ([] : List (S28)))) else (if x325011 ≤ x1 then (impl_Push.j1 k x1 (decide (x325012 < 12)) x325000 x325001 x325002 x325003 x325004 x325005 x325006 x325007 x325008 x325009 x325010 x325011 x325012 x342000 x342001 x342002 x342003 x342004 x342005 x342006 x342007 x342008 x342009 x342010 x342011 x342012) else (impl_Push.j1 k x1 false x325000 x325001 x325002 x325003 x325004 x325005 x325006 x325007 x325008 x325009 x325010 x325011 x325012 x342000 x342001 x342002 x342003 x342004 x342005 x342006 x342007 x342008 x342009 x342010 x342011 x342012))
def impl_Push.j1 : Nat → Int → Bool → Int → Int → Int → Int → ByteArray → Int → Int → Bool → ByteArray → List (S143) → Bool → Int → Int → Int → Int → Int → Int → ByteArray → Int → Int → Bool → ByteArray → List (S143) → Bool → Int → Int → Option (Int × Int × Int × Int × ByteArray × Int × Int × Bool × ByteArray × (List (S143)) × Bool × Int × Int × (List (S28)))
 | 0, _, _, _, _, _, _, _, _, _, _, _, _, _, _, _, _, _, _, _, _, _, _, _, _, _, _, _, _ => none
 | k + 1, x1, x7, x325000, x325001, x325002, x325003, x325004, x325005, x325006, x325007, x325008, x325009, x325010, x325011, x325012, x342000, x342001, x342002, x342003, x342004, x342005, x342006, x342007, x342008, x342009, x342010, x342011, x342012 => if x325000 = 2 then (impl_Push.j2 k x1 x7 x325000 (x325000 == 2) x325000 x325001 x325002 x325003 x325004 x325005 x325006 x325007 x325008 x325009 x325010 x325011 x325012 x342000 x342001 x342002 x342003 x342004 x342005 x342006 x342007 x342008 x342009 x342010 x342011 x342012) else (impl_Push.j2 k x1 x7 x325000 (x325000 == 3) x325000 x325001 x325002 x325003 x325004 x325005 x325006 x325007 x325008 x325009 x325010 x325011 x325012 x342000 x342001 x342002 x342003 x342004 x342005 x342006 x342007 x342008 x342009 x342010 x342011 x342012)
def impl_Push.j2 : Nat → Int → Bool → Int → Bool → Int → Int → Int → Int → ByteArray → Int → Int → Bool → ByteArray → List (S143) → Bool → Int → Int → Int → Int → Int → Int → ByteArray → Int → Int → Bool → ByteArray → List (S143) → Bool → Int → Int → Option (Int × Int × Int × Int × ByteArray × Int × Int × Bool × ByteArray × (List (S143)) × Bool × Int × Int × (List (S28)))
 | 0, _, _, _, _, _, _, _, _, _, _, _, _, _, _, _, _, _, _, _, _, _, _, _, _, _, _, _, _, _, _ => none
 | k + 1, x1, x7, x30, x31, x325000, x325001, x325002, x325003, x325004, x325005, x325006, x325007, x325008, x325009, x325010, x325011, x325012, x342000, x342001, x342002, x342003, x342004, x342005, x342006, x342007, x342008, x342009, x342010, x342011, x342012 => if x31 = true then (if x7 = true then ((impl_Stream_again.f x342000 x342001 x342002 x342003 x342004 x342005 x342006 x342007 x342008 x342009 x342010 x342011 x342012 x1).bind fun bt344 => (if x325000 = 2 then (some (bt344.1, bt344.2.1, bt344.2.2.1, bt344.2.2.2.1, bt344.2.2.2.2.1, bt344.2.2.2.2.2.1, bt344.2.2.2.2.2.2.1, bt344.2.2.2.2.2.2.2.1, bt344.2.2.2.2.2.2.2.2.1, x342009, bt344.2.2.2.2.2.2.2.2.2.1, bt344.2.2.2.2.2.2.2.2.2.2.1, bt344.2.2.2.2.2.2.2.2.2.2.2, (([(⟨x325001, 0, 1, (⟨#[]⟩ : ByteArray)⟩ : S28)] : List (S28))))) else (some (bt344.1, bt344.2.1, bt344.2.2.1, bt344.2.2.2.1, bt344.2.2.2.2.1, bt344.2.2.2.2.2.1, bt344.2.2.2.2.2.2.1, bt344.2.2.2.2.2.2.2.1, bt344.2.2.2.2.2.2.2.2.1, x342009, bt344.2.2.2.2.2.2.2.2.2.1, bt344.2.2.2.2.2.2.2.2.2.2.1, bt344.2.2.2.2.2.2.2.2.2.2.2, (([(⟨x325001, x325003, 3, (⟨#[]⟩ : ByteArray)⟩ : S28)] : List (S28))))))) else (some (x342000, x342001, x342002, x342003, x342004, x342005, x342006, x342007, x342008, x342009, x342010, x342011, x342012, ([] : List (S28))))) else (if x30 = 4 then ((impl_Stream_pushOpen.f k x342000 x342001 x342002 x342003 x342004 x342005 x342006 x342007 x342008 x342009 x342010 x342011 x342012 x1 x7).bind fun bt362 => (some (bt362.2.1, bt362.2.2.1, bt362.2.2.2.1, bt362.2.2.2.2.1, bt362.2.2.2.2.2.1, bt362.2.2.2.2.2.2.1, bt362.2.2.2.2.2.2.2.1, bt362.2.2.2.2.2.2.2.2.1, bt362.2.2.2.2.2.2.2.2.2.1, x342009, bt362.2.2.2.2.2.2.2.2.2.2.1, bt362.2.2.2.2.2.2.2.2.2.2.2.1, bt362.2.2.2.2.2.2.2.2.2.2.2.2, bt362.1))) else (some (x342000, x342001, x342002, x342003, x342004, x342005, x342006, x342007, x342008, x342009, x342010, x342011, x342012, ([] : List (S28)))))
end
def impl_Push.f (k : Nat) (a0_0 : Int) (a0_1 : Int) (a0_2 : Int) (a0_3 : Int) (a0_4 : ByteArray) (a0_5 : Int) (a0_6 : Int) (a0_7 : Bool) (a0_8 : ByteArray) (l0_9 : List (S143)) (a0_10 : Bool) (a0_11 : Int) (a0_12 : Int) (a1 : Int) : Option (Int × Int × Int × Int × ByteArray × Int × Int × Bool × ByteArray × (List (S143)) × Bool × Int × Int × (List (S28))) := (impl_copyStream.f a0_0 a0_1 a0_2 a0_3 a0_4 a0_5 a0_6 a0_7 a0_8 l0_9 a0_10 a0_11 a0_12).bind fun bt326 => ((impl_StreamOk.f k a0_0 a0_1 a0_2 a0_3 a0_4 a0_5 a0_6 a0_7 a0_8 l0_9 a0_10 a0_11 a0_12).bind fun t342 => (if t342 = true then ((impl_within.f a1 0 999999900).bind fun t343 => (impl_Push.j0 k a1 (!t343) a0_0 a0_1 a0_2 a0_3 a0_4 a0_5 a0_6 a0_7 a0_8 l0_9 a0_10 a0_11 a0_12 bt326.1 bt326.2.1 bt326.2.2.1 bt326.2.2.2.1 bt326.2.2.2.2.1 bt326.2.2.2.2.2.1 bt326.2.2.2.2.2.2.1 bt326.2.2.2.2.2.2.2.1 bt326.2.2.2.2.2.2.2.2.1 bt326.2.2.2.2.2.2.2.2.2.1 bt326.2.2.2.2.2.2.2.2.2.2.1 bt326.2.2.2.2.2.2.2.2.2.2.2.1 bt326.2.2.2.2.2.2.2.2.2.2.2.2)) else (impl_Push.j0 k a1 true a0_0 a0_1 a0_2 a0_3 a0_4 a0_5 a0_6 a0_7 a0_8 l0_9 a0_10 a0_11 a0_12 bt326.1 bt326.2.1 bt326.2.2.1 bt326.2.2.2.1 bt326.2.2.2.2.1 bt326.2.2.2.2.2.1 bt326.2.2.2.2.2.2.1 bt326.2.2.2.2.2.2.2.1 bt326.2.2.2.2.2.2.2.2.1 bt326.2.2.2.2.2.2.2.2.2.1 bt326.2.2.2.2.2.2.2.2.2.2.1 bt326.2.2.2.2.2.2.2.2.2.2.2.1 bt326.2.2.2.2.2.2.2.2.2.2.2.2)))
theorem impl_Push.mono_l : ∀ k, (∀ y0 y1 y2 y3 y4 y5 y6 y7 y8 y9 y10 y11 y12 y13 y14 y15 y16 y17 y18 y19 y20 y21 y22 y23 y24 y25 y26 y27, LeO (impl_Push.j0 k y0 y1 y2 y3 y4 y5 y6 y7 y8 y9 y10 y11 y12 y13 y14 y15 y16 y17 y18 y19 y20 y21 y22 y23 y24 y25 y26 y27) (impl_Push.j0 (k + 1) y0 y1 y2 y3 y4 y5 y6 y7 y8 y9 y10 y11 y12 y13 y14 y15 y16 y17 y18 y19 y20 y21 y22 y23 y24 y25 y26 y27)) ∧ (∀ y0 y1 y2 y3 y4 y5 y6 y7 y8 y9 y10 y11 y12 y13 y14 y15 y16 y17 y18 y19 y20 y21 y22 y23 y24 y25 y26 y27, LeO (impl_Push.j1 k y0 y1 y2 y3 y4 y5 y6 y7 y8 y9 y10 y11 y12 y13 y14 y15 y16 y17 y18 y19 y20 y21 y22 y23 y24 y25 y26 y27) (impl_Push.j1 (k + 1) y0 y1 y2 y3 y4 y5 y6 y7 y8 y9 y10 y11 y12 y13 y14 y15 y16 y17 y18 y19 y20 y21 y22 y23 y24 y25 y26 y27)) ∧ (∀ y0 y1 y2 y3 y4 y5 y6 y7 y8 y9 y10 y11 y12 y13 y14 y15 y16 y17 y18 y19 y20 y21 y22 y23 y24 y25 y26 y27 y28 y29, LeO (impl_Push.j2 k y0 y1 y2 y3 y4 y5 y6 y7 y8 y9 y10 y11 y12 y13 y14 y15 y16 y17 y18 y19 y20 y21 y22 y23 y24 y25 y26 y27 y28 y29) (impl_Push.j2 (k + 1) y0 y1 y2 y3 y4 y5 y6 y7 y8 y9 y10 y11 y12 y13 y14 y15 y16 y17 y18 y19 y20 y21 y22 y23 y24 y25 y26 y27 y28 y29))
 | 0 => ⟨fun _ _ _ _ _ _ _ _ _ _ _ _ _ _ _ _ _ _ _ _ _ _ _ _ _ _ _ _ r h => by simp [impl_Push.j0] at h, fun _ _ _ _ _ _ _ _ _ _ _ _ _ _ _ _ _ _ _ _ _ _ _ _ _ _ _ _ r h => by simp [impl_Push.j1] at h, fun _ _ _ _ _ _ _ _ _ _ _ _ _ _ _ _ _ _ _ _ _ _ _ _ _ _ _ _ _ _ r h => by simp [impl_Push.j2] at h⟩
 | k + 1 => by
  obtain ⟨ih0, ih1, ih2⟩ := impl_Push.mono_l k
  refine ⟨?_, ?_, ?_⟩
  ·intro y0 y1 y2 y3 y4 y5 y6 y7 y8 y9 y10 y11 y12 y13 y14 y15 y16 y17 y18 y19 y20 y21 y22 y23 y24 y25 y26 y27
   unfold impl_Push.j0
   repeat' first
   | (with_reducible exact ih0 _ _ _ _ _ _ _ _ _ _ _ _ _ _ _ _ _ _ _ _ _ _ _ _ _ _ _ _)
   | (with_reducible exact ih1 _ _ _ _ _ _ _ _ _ _ _ _ _ _ _ _ _ _ _ _ _ _ _ _ _ _ _ _)
   | (with_reducible exact ih2 _ _ _ _ _ _ _ _ _ _ _ _ _ _ _ _ _ _ _ _ _ _ _ _ _ _ _ _ _ _)
   | (with_reducible exact impl_StreamOk.mono _ _ _ _ _ _ _ _ _ _ _ _ _ _)
   | (with_reducible exact impl_Stream_pushOpen.mono _ _ _ _ _ _ _ _ _ _ _ _ _ _ _ _)
   | (with_reducible first | exact LeO.refl _ | exact LeO.none _ | refine LeO.ite ?_ ?_ | refine LeO.bind ?_ (fun _ => ?_))
   | exact ih0 _ _ _ _ _ _ _ _ _ _ _ _ _ _ _ _ _ _ _ _ _ _ _ _ _ _ _ _
   | exact ih1 _ _ _ _ _ _ _ _ _ _ _ _ _ _ _ _ _ _ _ _ _ _ _ _ _ _ _ _
   | exact ih2 _ _ _ _ _ _ _ _ _ _ _ _ _ _ _ _ _ _ _ _ _ _ _ _ _ _ _ _ _ _
   | exact impl_StreamOk.mono _ _ _ _ _ _ _ _ _ _ _ _ _ _
   | exact impl_Stream_pushOpen.mono _ _ _ _ _ _ _ _ _ _ _ _ _ _ _ _
  ·intro y0 y1 y2 y3 y4 y5 y6 y7 y8 y9 y10 y11 y12 y13 y14 y15 y16 y17 y18 y19 y20 y21 y22 y23 y24 y25 y26 y27
   unfold impl_Push.j1
   repeat' first
   | (with_reducible exact ih0 _ _ _ _ _ _ _ _ _ _ _ _ _ _ _ _ _ _ _ _ _ _ _ _ _ _ _ _)
   | (with_reducible exact ih1 _ _ _ _ _ _ _ _ _ _ _ _ _ _ _ _ _ _ _ _ _ _ _ _ _ _ _ _)
   | (with_reducible exact ih2 _ _ _ _ _ _ _ _ _ _ _ _ _ _ _ _ _ _ _ _ _ _ _ _ _ _ _ _ _ _)
   | (with_reducible exact impl_StreamOk.mono _ _ _ _ _ _ _ _ _ _ _ _ _ _)
   | (with_reducible exact impl_Stream_pushOpen.mono _ _ _ _ _ _ _ _ _ _ _ _ _ _ _ _)
   | (with_reducible first | exact LeO.refl _ | exact LeO.none _ | refine LeO.ite ?_ ?_ | refine LeO.bind ?_ (fun _ => ?_))
   | exact ih0 _ _ _ _ _ _ _ _ _ _ _ _ _ _ _ _ _ _ _ _ _ _ _ _ _ _ _ _
   | exact ih1 _ _ _ _ _ _ _ _ _ _ _ _ _ _ _ _ _ _ _ _ _ _ _ _ _ _ _ _
   | exact ih2 _ _ _ _ _ _ _ _ _ _ _ _ _ _ _ _ _ _ _ _ _ _ _ _ _ _ _ _ _ _
   | exact impl_StreamOk.mono _ _ _ _ _ _ _ _ _ _ _ _ _ _
   | exact impl_Stream_pushOpen.mono _ _ _ _ _ _ _ _ _ _ _ _ _ _ _ _
  ·intro y0 y1 y2 y3 y4 y5 y6 y7 y8 y9 y10 y11 y12 y13 y14 y15 y16 y17 y18 y19 y20 y21 y22 y23 y24 y25 y26 y27 y28 y29
   unfold impl_Push.j2
   repeat' first
   | (with_reducible exact ih0 _ _ _ _ _ _ _ _ _ _ _ _ _ _ _ _ _ _ _ _ _ _ _ _ _ _ _ _)
   | (with_reducible exact ih1 _ _ _ _ _ _ _ _ _ _ _ _ _ _ _ _ _ _ _ _ _ _ _ _ _ _ _ _)
   | (with_reducible exact ih2 _ _ _ _ _ _ _ _ _ _ _ _ _ _ _ _ _ _ _ _ _ _ _ _ _ _ _ _ _ _)
   | (with_reducible exact impl_StreamOk.mono _ _ _ _ _ _ _ _ _ _ _ _ _ _)
   | (with_reducible exact impl_Stream_pushOpen.mono _ _ _ _ _ _ _ _ _ _ _ _ _ _ _ _)
   | (with_reducible first | exact LeO.refl _ | exact LeO.none _ | refine LeO.ite ?_ ?_ | refine LeO.bind ?_ (fun _ => ?_))
   | exact ih0 _ _ _ _ _ _ _ _ _ _ _ _ _ _ _ _ _ _ _ _ _ _ _ _ _ _ _ _
   | exact ih1 _ _ _ _ _ _ _ _ _ _ _ _ _ _ _ _ _ _ _ _ _ _ _ _ _ _ _ _
   | exact ih2 _ _ _ _ _ _ _ _ _ _ _ _ _ _ _ _ _ _ _ _ _ _ _ _ _ _ _ _ _ _
   | exact impl_StreamOk.mono _ _ _ _ _ _ _ _ _ _ _ _ _ _
   | exact impl_Stream_pushOpen.mono _ _ _ _ _ _ _ _ _ _ _ _ _ _ _ _
theorem impl_Push.mono : ∀ a0 a1 a2 a3 a4 a5 a6 a7 a8 a9 a10 a11 a12 a13 k, LeO (impl_Push.f k a0 a1 a2 a3 a4 a5 a6 a7 a8 a9 a10 a11 a12 a13) (impl_Push.f (k + 1) a0 a1 a2 a3 a4 a5 a6 a7 a8 a9 a10 a11 a12 a13) := by
 intro a0 a1 a2 a3 a4 a5 a6 a7 a8 a9 a10 a11 a12 a13 k
 obtain ⟨ih0, ih1, ih2⟩ := impl_Push.mono_l k
 unfold impl_Push.f
 repeat' first
   | (with_reducible exact ih0 _ _ _ _ _ _ _ _ _ _ _ _ _ _ _ _ _ _ _ _ _ _ _ _ _ _ _ _)
   | (with_reducible exact ih1 _ _ _ _ _ _ _ _ _ _ _ _ _ _ _ _ _ _ _ _ _ _ _ _ _ _ _ _)
   | (with_reducible exact ih2 _ _ _ _ _ _ _ _ _ _ _ _ _ _ _ _ _ _ _ _ _ _ _ _ _ _ _ _ _ _)
   | (with_reducible exact impl_StreamOk.mono _ _ _ _ _ _ _ _ _ _ _ _ _ _)
   | (with_reducible exact impl_Stream_pushOpen.mono _ _ _ _ _ _ _ _ _ _ _ _ _ _ _ _)
   | (with_reducible first | exact LeO.refl _ | exact LeO.none _ | refine LeO.ite ?_ ?_ | refine LeO.bind ?_ (fun _ => ?_))
   | exact ih0 _ _ _ _ _ _ _ _ _ _ _ _ _ _ _ _ _ _ _ _ _ _ _ _ _ _ _ _
   | exact ih1 _ _ _ _ _ _ _ _ _ _ _ _ _ _ _ _ _ _ _ _ _ _ _ _ _ _ _ _
   | exact ih2 _ _ _ _ _ _ _ _ _ _ _ _ _ _ _ _ _ _ _ _ _ _ _ _ _ _ _ _ _ _
   | exact impl_StreamOk.mono _ _ _ _ _ _ _ _ _ _ _ _ _ _
   | exact impl_Stream_pushOpen.mono _ _ _ _ _ _ _ _ _ _ _ _ _ _ _ _
def impl_Push.T12 : Bool × List (List Nat × List Nat) := (true, [([], []), ([], []), ([1], [1]), ([2], [2]), ([3], [3]), ([0, 0], [0]), ([4, 5, 0, 1, 2, 3, 4, 5], [4])])
def impl_Push.B12 : List Nat := [0, 0, 2, 6, 14, 1, 63]
theorem impl_Push.tab12 : rtab .any (opsOf Try.f21 12) = impl_Push.T12 := by kernel_rfl
theorem impl_Push.bits12 : waitsOk impl_Push.T12.2 impl_Push.B12 = true := by kernel_rfl
def impl_Push.T13 : Bool × List (List Nat × List Nat) := (true, [([], []), ([], []), ([1], [1]), ([], []), ([3], [3]), ([2, 4], [2, 4]), ([5], [5]), ([0, 0], [0]), ([6, 7, 0, 1, 2, 3, 4, 5, 6, 7], [6])])
def impl_Push.B13 : List Nat := [0, 0, 2, 0, 8, 30, 62, 1, 255]
theorem impl_Push.tab13 : rtab .any (opsOf Try.f21 13) = impl_Push.T13 := by kernel_rfl
theorem impl_Push.bits13 : waitsOk impl_Push.T13.2 impl_Push.B13 = true := by kernel_rfl
set_option maxHeartbeats 8000000 in
set_option maxRecDepth 100000 in
theorem impl_Push.calls (k : Nat) (a0_0 : Int) (a0_1 : Int) (a0_2 : Int) (a0_3 : Int) (a0_4 : ByteArray) (a0_5 : Int) (a0_6 : Int) (a0_7 : Bool) (a0_8 : ByteArray) (A0_9 : Option Addr) (c0_9 : Nat) (l0_9 : List (S143)) (a0_10 : Bool) (a0_11 : Int) (a0_12 : Int) (a1 : Int) (r1 : Int) (r2 : Int) (r3 : Int) (r4 : Int) (r5 : ByteArray) (r6 : Int) (r7 : Int) (r8 : Bool) (r9 : ByteArray) (r10 : List (S143)) (r11 : Bool) (r12 : Int) (r13 : Int) (r14 : List (S28)) (w : World) (hr0_9 : Kd.C k143 w A0_9 l0_9.length l0_9) (hc0_9 : l0_9.length ≤ c0_9) (h : impl_Push.f k a0_0 a0_1 a0_2 a0_3 a0_4 a0_5 a0_6 a0_7 a0_8 l0_9 a0_10 a0_11 a0_12 a1 = some (r1, r2, r3, r4, r5, r6, r7, r8, r9, r10, r11, r12, r13, r14)) :
  Calls Try.prog 21 #[.agg #[.int .i64 a0_0, .int .i64 a0_1, .int .i64 a0_2, .int .i64 a0_3, .string a0_4, .int .i64 a0_5, .int .i64 a0_6, .bool a0_7, .string a0_8, .slice A0_9 l0_9.length c0_9, .bool a0_10, .int .i64 a0_11, .int .i64 a0_12], .int .i64 a1] w fun e w' => ∃ v9_ v13_ : Value, e = .returned (.tuple #[.agg #[.int .i64 r1, .int .i64 r2, .int .i64 r3, .int .i64 r4, .string r5, .int .i64 r6, .int .i64 r7, .bool r8, .string r9, v9_, .bool r11, .int .i64 r12, .int .i64 r13], v13_]) ∧ Kd.R k143 143 w' w.heap.size (fun _ => True) v9_ r10 ∧ Kd.R k28 28 w' w.heap.size (fun _ => True) v13_ r14 ∧ Below w.heap.size w w' := by
 have hu39 := Try.underlying39
 have hu28 := Try.underlying28
 have HR0_9 := Aside0.mk hr0_9
 have HC0_9 := Aside0.mk hc0_9
 clear hr0_9 hc0_9
 have HB := Aside0.mk (Below.refl w.heap.size w)
 have H : ((impl_copyStream.f a0_0 a0_1 a0_2 a0_3 a0_4 a0_5 a0_6 a0_7 a0_8 l0_9 a0_10 a0_11 a0_12).bind fun bt326 => ((impl_StreamOk.f k a0_0 a0_1 a0_2 a0_3 a0_4 a0_5 a0_6 a0_7 a0_8 l0_9 a0_10 a0_11 a0_12).bind fun t342 => (if t342 = true then ((impl_within.f a1 0 999999900).bind fun t343 => (impl_Push.j0 k a1 (!t343) a0_0 a0_1 a0_2 a0_3 a0_4 a0_5 a0_6 a0_7 a0_8 l0_9 a0_10 a0_11 a0_12 bt326.1 bt326.2.1 bt326.2.2.1 bt326.2.2.2.1 bt326.2.2.2.2.1 bt326.2.2.2.2.2.1 bt326.2.2.2.2.2.2.1 bt326.2.2.2.2.2.2.2.1 bt326.2.2.2.2.2.2.2.2.1 bt326.2.2.2.2.2.2.2.2.2.1 bt326.2.2.2.2.2.2.2.2.2.2.1 bt326.2.2.2.2.2.2.2.2.2.2.2.1 bt326.2.2.2.2.2.2.2.2.2.2.2.2)) else (impl_Push.j0 k a1 true a0_0 a0_1 a0_2 a0_3 a0_4 a0_5 a0_6 a0_7 a0_8 l0_9 a0_10 a0_11 a0_12 bt326.1 bt326.2.1 bt326.2.2.1 bt326.2.2.2.1 bt326.2.2.2.2.1 bt326.2.2.2.2.2.1 bt326.2.2.2.2.2.2.1 bt326.2.2.2.2.2.2.2.1 bt326.2.2.2.2.2.2.2.2.1 bt326.2.2.2.2.2.2.2.2.2.1 bt326.2.2.2.2.2.2.2.2.2.2.1 bt326.2.2.2.2.2.2.2.2.2.2.2.1 bt326.2.2.2.2.2.2.2.2.2.2.2.2)))) = some (r1, r2, r3, r4, r5, r6, r7, r8, r9, r10, r11, r12, r13, r14) := h
 clear h
 replace H := bsi H
 obtain ⟨⟨t326, t327, t328, t329, t330, t331, t332, t333, t334, t335, t338, t339, t340⟩, A3, H⟩ := H
 (try dsimp only at H)
 have HC4 := Aside0.mk H
 clear H
 go_enter Try.func21, Try.ntmps21
 go_upto_region 2 with (first | ((with_reducible refine gate_dst (N := 2) rfl ?_); refine box_event ?hg (N := 2) ?hd (cs := #[.int .i64 a0_0, .int .i64 a0_1, .int .i64 a0_2, .int .i64 a0_3, .string a0_4, .int .i64 a0_5, .int .i64 a0_6, .bool a0_7, .string a0_8, .slice A0_9 l0_9.length c0_9, .bool a0_10, .int .i64 a0_11, .int .i64 a0_12]) (t := 39) ?hr ?_; (case hd => rfl); (case hg => rfl); (case hr => exact B10x15_); intro gb324 hg w5 hbox hb; have BK324 := Aside0.mk (hbox); have GW324 := Aside0.mk ((bs hg (below_size HB.out))); have GE324 := Aside0.mk ((bs hg (below_size HB.out))); replace HB := Aside0.mk (below_step (by repeat (first | (with_reducible first | exact HB.out | apply below_alloc | apply pw_below_drewN | apply below_drew1) | exact HB.out)) hb); clear hb hbox hg) | ((with_reducible refine gate_dst (N := 4) rfl ?_); refine box_event ?hg (N := 4) ?hd (cs := #[.int .i64 0, .int .i64 0, .int .i64 0, .int .i64 0, .string (⟨#[]⟩ : ByteArray), .int .i64 0, .int .i64 0, .bool false, .string (⟨#[]⟩ : ByteArray), .slice none 0 0, .bool false, .int .i64 0, .int .i64 0]) (t := 39) ?hr ?_; (case hd => rfl); (case hg => rfl); (case hr => exact B10x15_); intro gb325 hg w6 hbox hb; have BK325 := Aside0.mk (hbox); have GW325 := Aside0.mk ((bs hg (below_size HB.out))); have GE325 := Aside0.mk ((bs hg (below_size HB.out))); replace HB := Aside0.mk (below_step (by repeat (first | (with_reducible first | exact HB.out | apply below_alloc | apply pw_below_drewN | apply below_drew1 | refine below_set ?_ GE324.out) | exact HB.out)) hb); have NB324_325 := Aside0.mk ((nl hg (blk_lt BK324.out))); have NB325_324 := Aside0.mk ((ng hg (blk_lt BK324.out))); replace BK324 := Aside0.mk (bb BK324.out hb); clear hb hbox hg; have hnb7 := NB324_325.out; have hnc7 := NB325_324.out; obtain ⟨hcz8_0, hcz8_1, hcz8_2, hcz8_3, hcz8_4, hcz8_5, hcz8_6, hcz8_7, hcz8_8, hcz8_9, hcz8_10, hcz8_11, hcz8_12⟩ := cl13 BK324.out; obtain ⟨hfz8_0, hfz8_1, hfz8_2, hfz8_3, hfz8_4, hfz8_5, hfz8_6, hfz8_7, hfz8_8, hfz8_9, hfz8_10, hfz8_11, hfz8_12⟩ := fr13 BK324.out) | ((with_reducible refine gate_callee (f := 73) rfl ?_); refine goesL_ (some 10) rfl rfl Try.func73 B10x10_ rfl #[.agg #[.int .i64 a0_0, .int .i64 a0_1, .int .i64 a0_2, .int .i64 a0_3, .string a0_4, .int .i64 a0_5, .int .i64 a0_6, .bool a0_7, .string a0_8, .slice A0_9 l0_9.length c0_9, .bool a0_10, .int .i64 a0_11, .int .i64 a0_12]] rfl B10x11_ ?_; (with_reducible refine (impl_copyStream.calls a0_0 a0_1 a0_2 a0_3 a0_4 a0_5 a0_6 a0_7 a0_8 _ _ l0_9 a0_10 a0_11 a0_12 t326 t327 t328 t329 t330 t331 t332 t333 t334 t335 t338 t339 t340 _ ?side1 ?side2 A3.out).mono ?_); (case side1 => exact B10x16_); (case side2 => exact HC0_9.out); rintro e w9 ⟨v336, rfl, ho0, hb⟩; refine ⟨_, rfl, ?_⟩; have HO337 := Aside0.mk (Kd.R_lower ho0 (below_size B10x14_)); replace BK324 := Aside0.mk (bb BK324.out hb); replace BK325 := Aside0.mk (bb BK325.out hb); replace HB := Aside0.mk (below_step B10x14_ hb); (try clear hb); (try clear ho0)) | ((with_reducible refine gate_dst (N := 6) rfl ?_); refine box_event ?hg (N := 6) ?hd (cs := #[.int .i64 0, .int .i64 0, .int .i64 0, .int .i64 0, .string (⟨#[]⟩ : ByteArray), .int .i64 0, .int .i64 0, .bool false, .string (⟨#[]⟩ : ByteArray), .slice none 0 0, .bool false, .int .i64 0, .int .i64 0]) (t := 39) ?hr ?_; (case hd => rfl); (case hg => rfl); (case hr => exact B10x15_); intro gb341 hg w10 hbox hb; replace HO337 := Aside0.mk (Kd.R_below B10x12_ hb); have BK341 := Aside0.mk (hbox); have GW341 := Aside0.mk ((bs hg (below_size HB.out))); have GE341 := Aside0.mk ((bs hg (below_size HB.out))); replace HB := Aside0.mk (below_step B10x14_ hb); have NB324_341 := Aside0.mk ((nl hg (blk_lt BK324.out))); have NB341_324 := Aside0.mk ((ng hg (blk_lt BK324.out))); replace BK324 := Aside0.mk (bb BK324.out hb); have NB325_341 := Aside0.mk ((nl hg (blk_lt BK325.out))); have NB341_325 := Aside0.mk ((ng hg (blk_lt BK325.out))); replace BK325 := Aside0.mk (bb BK325.out hb); clear hb hbox hg; have hnb11 := NB341_324.out; have hnc11 := NB324_341.out; have hnb12 := NB341_325.out; have hnc12 := NB325_341.out; obtain ⟨hcz13_0, hcz13_1, hcz13_2, hcz13_3, hcz13_4, hcz13_5, hcz13_6, hcz13_7, hcz13_8, hcz13_9, hcz13_10, hcz13_11, hcz13_12⟩ := cl13 BK341.out; obtain ⟨hfz13_0, hfz13_1, hfz13_2, hfz13_3, hfz13_4, hfz13_5, hfz13_6, hfz13_7, hfz13_8, hfz13_9, hfz13_10, hfz13_11, hfz13_12⟩ := fr13 BK341.out; obtain ⟨Ao14, co14, eo14⟩ := Kd.R_slice HO337.out; subst eo14) | ((with_reducible refine gate_store (t := 39) (p := 6) rfl ?_); refine store_event (t := 39) (p := 6) (v := ?vo_w15) (w1 := (((((((((((((w10.setCell ⟨gb341, 0, none⟩ (.int .i64 t326)).setCell ⟨gb341, 1, none⟩ (.int .i64 t327)).setCell ⟨gb341, 2, none⟩ (.int .i64 t328)).setCell ⟨gb341, 3, none⟩ (.int .i64 t329)).setCell ⟨gb341, 4, none⟩ (.string t330)).setCell ⟨gb341, 5, none⟩ (.int .i64 t331)).setCell ⟨gb341, 6, none⟩ (.int .i64 t332)).setCell ⟨gb341, 7, none⟩ (.bool t333)).setCell ⟨gb341, 8, none⟩ (.string t334)).setCell ⟨gb341, 9, none⟩ (.slice Ao14 t335.length co14)).setCell ⟨gb341, 10, none⟩ (.bool t338)).setCell ⟨gb341, 11, none⟩ (.int .i64 t339)).setCell ⟨gb341, 12, none⟩ (.int .i64 t340))) ?hg ?ho ?hn ?hr ?_; (case ho => rfl); (case hg => rfl); (case hn => rfl); (case hr => exact B10x15_); intro w15 hw; replace HO337 : Aside0 (Kd.R k143 143 w15 w.heap.size (fun _ => True) (.slice Ao14 t335.length co14) t335) := ⟨(by rw [hw]; exact (by (with_reducible repeat (first | apply Kd.R_alloc | apply Kd.R_drewN | apply Kd.R_drew)); exact Kd.R_mono (Kd.R_far (p := ⟨gb341, 12, none⟩) (Kd.R_far (p := ⟨gb341, 11, none⟩) (Kd.R_far (p := ⟨gb341, 10, none⟩) (Kd.R_far (p := ⟨gb341, 9, none⟩) (Kd.R_far (p := ⟨gb341, 8, none⟩) (Kd.R_far (p := ⟨gb341, 7, none⟩) (Kd.R_far (p := ⟨gb341, 6, none⟩) (Kd.R_far (p := ⟨gb341, 5, none⟩) (Kd.R_far (p := ⟨gb341, 4, none⟩) (Kd.R_far (p := ⟨gb341, 3, none⟩) (Kd.R_far (p := ⟨gb341, 2, none⟩) (Kd.R_far (p := ⟨gb341, 1, none⟩) (Kd.R_far (p := ⟨gb341, 0, none⟩) (Kd.R_types HO337.out BK341.out (by decide)) (fun _ hk => hk.2) (.int .i64 t326)) (fun _ hk => hk.2) (.int .i64 t327)) (fun _ hk => hk.2) (.int .i64 t328)) (fun _ hk => hk.2) (.int .i64 t329)) (fun _ hk => hk.2) (.string t330)) (fun _ hk => hk.2) (.int .i64 t331)) (fun _ hk => hk.2) (.int .i64 t332)) (fun _ hk => hk.2) (.bool t333)) (fun _ hk => hk.2) (.string t334)) (fun _ hk => hk.2) (.slice Ao14 t335.length co14)) (fun _ hk => hk.2) (.bool t338)) (fun _ hk => hk.2) (.int .i64 t339)) (fun _ hk => hk.2) (.int .i64 t340)) (fun _ hk => trivial)))⟩; replace BK324 : Aside0 (w15.heap[gb324]? = some (.cells #[.int .i64 a0_0, .int .i64 a0_1, .int .i64 a0_2, .int .i64 a0_3, .string a0_4, .int .i64 a0_5, .int .i64 a0_6, .bool a0_7, .string a0_8, .slice A0_9 l0_9.length c0_9, .bool a0_10, .int .i64 a0_11, .int .i64 a0_12] 39 (0, 0))) := ⟨(by rw [hw]; exact (by (repeat (with_reducible (first | exact BK324.out | apply blk_drewN | apply blk_drew | apply blk_alloc | apply blk_put | apply bf NB324_341.out))); repeat (first | exact BK324.out | (simp only [List.setIfInBounds_toArray, List.set_cons_zero, List.set_cons_succ]; with_reducible rfl) | rfl)))⟩; replace BK325 : Aside0 (w15.heap[gb325]? = some (.cells #[.int .i64 0, .int .i64 0, .int .i64 0, .int .i64 0, .string (⟨#[]⟩ : ByteArray), .int .i64 0, .int .i64 0, .bool false, .string (⟨#[]⟩ : ByteArray), .slice none 0 0, .bool false, .int .i64 0, .int .i64 0] 39 (0, 0))) := ⟨(by rw [hw]; exact (by (repeat (with_reducible (first | exact BK325.out | apply blk_drewN | apply blk_drew | apply blk_alloc | apply blk_put | apply bf NB325_341.out))); repeat (first | exact BK325.out | (simp only [List.setIfInBounds_toArray, List.set_cons_zero, List.set_cons_succ]; with_reducible rfl) | rfl)))⟩; replace BK341 : Aside0 (w15.heap[gb341]? = some (.cells #[.int .i64 t326, .int .i64 t327, .int .i64 t328, .int .i64 t329, .string t330, .int .i64 t331, .int .i64 t332, .bool t333, .string t334, .slice Ao14 t335.length co14, .bool t338, .int .i64 t339, .int .i64 t340] 39 (0, 0))) := ⟨(by rw [hw]; exact (by (repeat (with_reducible (first | exact BK341.out | apply blk_drewN | apply blk_drew | apply blk_alloc | apply blk_put))); repeat (first | exact BK341.out | (simp only [List.setIfInBounds_toArray, List.set_cons_zero, List.set_cons_succ]; with_reducible rfl) | rfl)))⟩; replace HB : Aside0 (Below w.heap.size w w15) := ⟨B10x17_⟩; clear hw))
 (try simp only [Act.put, List.setIfInBounds_toArray, List.set_cons_zero, List.set_cons_succ])
 go_cut [18] (fun v18 wc => ∃ (kq : Nat) (x18_3 : Bool), v18 = .bool x18_3 ∧ Aside0 (impl_Push.j0 kq a1 x18_3 a0_0 a0_1 a0_2 a0_3 a0_4 a0_5 a0_6 a0_7 a0_8 l0_9 a0_10 a0_11 a0_12 t326 t327 t328 t329 t330 t331 t332 t333 t334 t335 t338 t339 t340 = some (r1, r2, r3, r4, r5, r6, r7, r8, r9, r10, r11, r12, r13, r14)) ∧ Aside0 (kq ≤ k) ∧ Aside0 (Kd.R k143 143 wc w.heap.size (fun _ => True) (.slice Ao14 t335.length co14) t335) ∧ Aside0 (wc.heap[gb324]? = some (.cells #[.int .i64 a0_0, .int .i64 a0_1, .int .i64 a0_2, .int .i64 a0_3, .string a0_4, .int .i64 a0_5, .int .i64 a0_6, .bool a0_7, .string a0_8, (.slice A0_9 l0_9.length c0_9), .bool a0_10, .int .i64 a0_11, .int .i64 a0_12] 39 (0, 0))) ∧ Aside0 (wc.heap[gb325]? = some (.cells #[.int .i64 0, .int .i64 0, .int .i64 0, .int .i64 0, .string (⟨#[]⟩ : ByteArray), .int .i64 0, .int .i64 0, .bool false, .string (⟨#[]⟩ : ByteArray), (.slice none 0 0), .bool false, .int .i64 0, .int .i64 0] 39 (0, 0))) ∧ Aside0 (wc.heap[gb341]? = some (.cells #[.int .i64 t326, .int .i64 t327, .int .i64 t328, .int .i64 t329, .string t330, .int .i64 t331, .int .i64 t332, .bool t333, .string t334, (.slice Ao14 t335.length co14), .bool t338, .int .i64 t339, .int .i64 t340] 39 (0, 0))) ∧ Aside0 (Below w.heap.size w wc))
 case first =>
  have H := HC4.out
  clear HC4
  replace H := bsi H
  obtain ⟨t342, A16, H⟩ := H
  (try dsimp only at H)
  by_cases c17 : t342 = true
  ·subst c17
   rw [if_pos rfl] at H
   replace H := bsi H
   obtain ⟨t343, A18, H⟩ := H
   (try dsimp only at H)
   have H' := Aside0.mk H
   clear H
   have hnb19 := NB324_325.out
   have hnc19 := NB325_324.out
   have hnb20 := NB324_341.out
   have hnc20 := NB341_324.out
   obtain ⟨hcz21_0, hcz21_1, hcz21_2, hcz21_3, hcz21_4, hcz21_5, hcz21_6, hcz21_7, hcz21_8, hcz21_9, hcz21_10, hcz21_11, hcz21_12⟩ := cl13 BK324.out
   obtain ⟨hfz21_0, hfz21_1, hfz21_2, hfz21_3, hfz21_4, hfz21_5, hfz21_6, hfz21_7, hfz21_8, hfz21_9, hfz21_10, hfz21_11, hfz21_12⟩ := fr13 BK324.out
   go_wp2_with (first | ((with_reducible refine gate_callee (f := 58) rfl ?_); refine goesL_ (some 12) rfl rfl Try.func58 B10x10_ rfl #[.agg #[.int .i64 a0_0, .int .i64 a0_1, .int .i64 a0_2, .int .i64 a0_3, .string a0_4, .int .i64 a0_5, .int .i64 a0_6, .bool a0_7, .string a0_8, .slice A0_9 l0_9.length c0_9, .bool a0_10, .int .i64 a0_11, .int .i64 a0_12]] rfl B10x11_ ?_; (with_reducible refine (impl_StreamOk.calls k a0_0 a0_1 a0_2 a0_3 a0_4 a0_5 a0_6 a0_7 a0_8 _ _ l0_9 a0_10 a0_11 a0_12 true _ ?side1 ?side2 A16.out).mono ?_); (case side1 => exact B10x16_); (case side2 => exact HC0_9.out); rintro e w22 ⟨rfl, hb⟩; refine ⟨_, rfl, ?_⟩; replace HO337 := Aside0.mk (Kd.R_below B10x12_ hb); replace BK324 := Aside0.mk (bb BK324.out hb); replace BK325 := Aside0.mk (bb BK325.out hb); replace BK341 := Aside0.mk (bb BK341.out hb); replace HB := Aside0.mk (below_step B10x0_ hb); (try clear hb)) | (go_at_call 74; (with_reducible refine (impl_within.calls a1 0 999999900 t343 _ A18.out).mono ?_); rintro e w' ⟨rfl, ⟨nd, rfl⟩⟩))
   go_meet
   case rel => exact ⟨_, (!t343), (be_), H', ⟨(by first | omega | exact Nat.le_refl _)⟩, ⟨B10x12_⟩, ⟨B10x9_⟩, ⟨B10x6_⟩, ⟨B10x2_⟩, ⟨B10x0_⟩⟩
  ·replace c17 := Bool.eq_false_iff.mpr c17
   subst c17
   rw [if_neg (show ¬ (false = true) by decide)] at H
   have H' := Aside0.mk H
   clear H
   have hnb23 := NB324_325.out
   have hnc23 := NB325_324.out
   have hnb24 := NB324_341.out
   have hnc24 := NB341_324.out
   obtain ⟨hcz25_0, hcz25_1, hcz25_2, hcz25_3, hcz25_4, hcz25_5, hcz25_6, hcz25_7, hcz25_8, hcz25_9, hcz25_10, hcz25_11, hcz25_12⟩ := cl13 BK324.out
   obtain ⟨hfz25_0, hfz25_1, hfz25_2, hfz25_3, hfz25_4, hfz25_5, hfz25_6, hfz25_7, hfz25_8, hfz25_9, hfz25_10, hfz25_11, hfz25_12⟩ := fr13 BK324.out
   go_wp2_with (first | ((with_reducible refine gate_callee (f := 58) rfl ?_); refine goesL_ (some 12) rfl rfl Try.func58 B10x10_ rfl #[.agg #[.int .i64 a0_0, .int .i64 a0_1, .int .i64 a0_2, .int .i64 a0_3, .string a0_4, .int .i64 a0_5, .int .i64 a0_6, .bool a0_7, .string a0_8, .slice A0_9 l0_9.length c0_9, .bool a0_10, .int .i64 a0_11, .int .i64 a0_12]] rfl B10x11_ ?_; (with_reducible refine (impl_StreamOk.calls k a0_0 a0_1 a0_2 a0_3 a0_4 a0_5 a0_6 a0_7 a0_8 _ _ l0_9 a0_10 a0_11 a0_12 false _ ?side1 ?side2 A16.out).mono ?_); (case side1 => exact B10x16_); (case side2 => exact HC0_9.out); rintro e w26 ⟨rfl, hb⟩; refine ⟨_, rfl, ?_⟩; replace HO337 := Aside0.mk (Kd.R_below B10x12_ hb); replace BK324 := Aside0.mk (bb BK324.out hb); replace BK325 := Aside0.mk (bb BK325.out hb); replace BK341 := Aside0.mk (bb BK341.out hb); replace HB := Aside0.mk (below_step B10x0_ hb); (try clear hb)))
   go_meet
   case rel => exact ⟨_, (true), (be_), H', ⟨(by first | omega | exact Nat.le_refl _)⟩, ⟨B10x12_⟩, ⟨B10x9_⟩, ⟨B10x6_⟩, ⟨B10x2_⟩, ⟨B10x0_⟩⟩
 case rest =>
  clear HC4
  try clear hcz13_0
  try clear hcz13_1
  try clear hcz13_10
  try clear hcz13_11
  try clear hcz13_12
  try clear hcz13_2
  try clear hcz13_3
  try clear hcz13_4
  try clear hcz13_5
  try clear hcz13_6
  try clear hcz13_7
  try clear hcz13_8
  try clear hcz13_9
  try clear hcz8_0
  try clear hcz8_1
  try clear hcz8_10
  try clear hcz8_11
  try clear hcz8_12
  try clear hcz8_2
  try clear hcz8_3
  try clear hcz8_4
  try clear hcz8_5
  try clear hcz8_6
  try clear hcz8_7
  try clear hcz8_8
  try clear hcz8_9
  try clear hfz13_0
  try clear hfz13_1
  try clear hfz13_10
  try clear hfz13_11
  try clear hfz13_12
  try clear hfz13_2
  try clear hfz13_3
  try clear hfz13_4
  try clear hfz13_5
  try clear hfz13_6
  try clear hfz13_7
  try clear hfz13_8
  try clear hfz13_9
  try clear hfz8_0
  try clear hfz8_1
  try clear hfz8_10
  try clear hfz8_11
  try clear hfz8_12
  try clear hfz8_2
  try clear hfz8_3
  try clear hfz8_4
  try clear hfz8_5
  try clear hfz8_6
  try clear hfz8_7
  try clear hfz8_8
  try clear hfz8_9
  obtain ⟨kq, x18_3, rfl, HA, HJ3, HO_342009, BK324, BK325, BK341, HB⟩ := hcut
  cases kq with
  | zero => exact absurd HA.out (by simp [impl_Push.j0])
  | succ kj3 =>
   have H := HA.out
   clear HA
   simp only [impl_Push.j0] at H
   by_cases c27 : x18_3 = true
   ·subst c27
    rw [if_pos rfl] at H
    simp only [Option.some.injEq, Prod.mk.injEq] at H
    obtain ⟨rfl, rfl, rfl, rfl, rfl, rfl, rfl, rfl, rfl, rfl, rfl, rfl, rfl, rfl⟩ := H
    have hnb28 := NB341_324.out
    have hnc28 := NB324_341.out
    have hnb29 := NB341_325.out
    have hnc29 := NB325_341.out
    obtain ⟨hcz30_0, hcz30_1, hcz30_2, hcz30_3, hcz30_4, hcz30_5, hcz30_6, hcz30_7, hcz30_8, hcz30_9, hcz30_10, hcz30_11, hcz30_12⟩ := cl13 BK341.out
    obtain ⟨hfz30_0, hfz30_1, hfz30_2, hfz30_3, hfz30_4, hfz30_5, hfz30_6, hfz30_7, hfz30_8, hfz30_9, hfz30_10, hfz30_11, hfz30_12⟩ := fr13 BK341.out
    have hnb31 := NB325_324.out
    have hnc31 := NB324_325.out
    obtain ⟨hcz32_0, hcz32_1, hcz32_2, hcz32_3, hcz32_4, hcz32_5, hcz32_6, hcz32_7, hcz32_8, hcz32_9, hcz32_10, hcz32_11, hcz32_12⟩ := cl13 BK325.out
    obtain ⟨hfz32_0, hfz32_1, hfz32_2, hfz32_3, hfz32_4, hfz32_5, hfz32_6, hfz32_7, hfz32_8, hfz32_9, hfz32_10, hfz32_11, hfz32_12⟩ := fr13 BK325.out
    go_wp2_with (first | ((with_reducible refine gate_store (t := 39) (p := 4) rfl ?_); refine store_event (t := 39) (p := 4) (v := ?vo_w33) (w1 := (((((((((((((wc.setCell ⟨gb325, 0, none⟩ (.int .i64 t326)).setCell ⟨gb325, 1, none⟩ (.int .i64 t327)).setCell ⟨gb325, 2, none⟩ (.int .i64 t328)).setCell ⟨gb325, 3, none⟩ (.int .i64 t329)).setCell ⟨gb325, 4, none⟩ (.string t330)).setCell ⟨gb325, 5, none⟩ (.int .i64 t331)).setCell ⟨gb325, 6, none⟩ (.int .i64 t332)).setCell ⟨gb325, 7, none⟩ (.bool t333)).setCell ⟨gb325, 8, none⟩ (.string t334)).setCell ⟨gb325, 9, none⟩ (.slice Ao14 t335.length co14)).setCell ⟨gb325, 10, none⟩ (.bool t338)).setCell ⟨gb325, 11, none⟩ (.int .i64 t339)).setCell ⟨gb325, 12, none⟩ (.int .i64 t340))) ?hg ?ho ?hn ?hr ?_; (case ho => rfl); (case hg => rfl); (case hn => rfl); (case hr => exact B10x15_); intro w33 hw; replace HO_342009 : Aside0 (Kd.R k143 143 w33 w.heap.size (fun _ => True) (.slice Ao14 t335.length co14) t335) := ⟨B10x1_⟩; replace BK324 : Aside0 (w33.heap[gb324]? = some (.cells #[.int .i64 a0_0, .int .i64 a0_1, .int .i64 a0_2, .int .i64 a0_3, .string a0_4, .int .i64 a0_5, .int .i64 a0_6, .bool a0_7, .string a0_8, .slice A0_9 l0_9.length c0_9, .bool a0_10, .int .i64 a0_11, .int .i64 a0_12] 39 (0, 0))) := ⟨B10x19_⟩; replace BK325 : Aside0 (w33.heap[gb325]? = some (.cells #[.int .i64 t326, .int .i64 t327, .int .i64 t328, .int .i64 t329, .string t330, .int .i64 t331, .int .i64 t332, .bool t333, .string t334, .slice Ao14 t335.length co14, .bool t338, .int .i64 t339, .int .i64 t340] 39 (0, 0))) := ⟨B10x21_⟩; replace BK341 : Aside0 (w33.heap[gb341]? = some (.cells #[.int .i64 t326, .int .i64 t327, .int .i64 t328, .int .i64 t329, .string t330, .int .i64 t331, .int .i64 t332, .bool t333, .string t334, .slice Ao14 t335.length co14, .bool t338, .int .i64 t339, .int .i64 t340] 39 (0, 0))) := ⟨B10x20_⟩; replace HB : Aside0 (Below w.heap.size w w33) := ⟨B10x17_⟩; clear hw))
    refine bodyPost_ret (results_ct rfl _ _ gb325 39 #[.int .i64 t326, .int .i64 t327, .int .i64 t328, .int .i64 t329, .string t330, .int .i64 t331, .int .i64 t332, .bool t333, .string t334, .slice Ao14 t335.length co14, .bool t338, .int .i64 t339, .int .i64 t340] (0, 0) _ rfl B10x6_ Try.underlying39 rfl B10x10_) rfl ?_
    exact ⟨_, _, by first | rfl | (simp [errW_none, errW_some] <;> rfl) | (simp [*, errW_none, errW_some] <;> rfl), by (with_reducible repeat (first | apply Kd.R_alloc | apply Kd.R_drewN | apply Kd.R_drew)); exact HO_342009.out, by first | exact Kd.R_nil _ _ _ _ _ | exact Kd.N_nil _ _ _ _ _ | exact Kd.V_nil _ _ _ _ _ | exact Kd.Q_nil _ _ _ _ _ | exact Kd.S_nil _ _ _ _ _, by repeat (first | (with_reducible first | exact HB.out | apply below_alloc | apply pw_below_drewN | apply below_drew1 | refine below_set ?_ GE324.out | refine below_set ?_ GE325.out | refine below_set ?_ GE341.out) | exact HB.out)⟩
   ·replace c27 := Bool.eq_false_iff.mpr c27
    subst c27
    rw [if_neg (show ¬ (false = true) by decide)] at H
    have HC34 := Aside0.mk H
    clear H
    go_upto_region 4 with (fail)
    go_cut [7] (fun v7 wc => ∃ (kq : Nat) (x7_33 : Bool), v7 = .bool x7_33 ∧ Aside0 (impl_Push.j1 kq a1 x7_33 a0_0 a0_1 a0_2 a0_3 a0_4 a0_5 a0_6 a0_7 a0_8 l0_9 a0_10 a0_11 a0_12 t326 t327 t328 t329 t330 t331 t332 t333 t334 t335 t338 t339 t340 = some (r1, r2, r3, r4, r5, r6, r7, r8, r9, r10, r11, r12, r13, r14)) ∧ Aside0 (kq ≤ kj3) ∧ Aside0 (Kd.R k143 143 wc w.heap.size (fun _ => True) (.slice Ao14 t335.length co14) t335) ∧ Aside0 (wc.heap[gb324]? = some (.cells #[.int .i64 a0_0, .int .i64 a0_1, .int .i64 a0_2, .int .i64 a0_3, .string a0_4, .int .i64 a0_5, .int .i64 a0_6, .bool a0_7, .string a0_8, (.slice A0_9 l0_9.length c0_9), .bool a0_10, .int .i64 a0_11, .int .i64 a0_12] 39 (0, 0))) ∧ Aside0 (wc.heap[gb325]? = some (.cells #[.int .i64 0, .int .i64 0, .int .i64 0, .int .i64 0, .string (⟨#[]⟩ : ByteArray), .int .i64 0, .int .i64 0, .bool false, .string (⟨#[]⟩ : ByteArray), (.slice none 0 0), .bool false, .int .i64 0, .int .i64 0] 39 (0, 0))) ∧ Aside0 (wc.heap[gb341]? = some (.cells #[.int .i64 t326, .int .i64 t327, .int .i64 t328, .int .i64 t329, .string t330, .int .i64 t331, .int .i64 t332, .bool t333, .string t334, (.slice Ao14 t335.length co14), .bool t338, .int .i64 t339, .int .i64 t340] 39 (0, 0))) ∧ Aside0 (Below w.heap.size w wc))
    case first =>
     have H := HC34.out
     clear HC34
     by_cases c35 : a0_11 ≤ a1
     ·rw [if_pos c35] at H
      have c35b0 : decide (a0_11 ≤ a1) = true := decide_eq_true c35
      clear c35
      (first | rw [c35b0] | (simp only [i64_w, i32_w]; rw [c35b0]) | skip)
      have H' := Aside0.mk H
      clear H
      have hnb36 := NB324_325.out
      have hnc36 := NB325_324.out
      have hnb37 := NB324_341.out
      have hnc37 := NB341_324.out
      obtain ⟨hcz38_0, hcz38_1, hcz38_2, hcz38_3, hcz38_4, hcz38_5, hcz38_6, hcz38_7, hcz38_8, hcz38_9, hcz38_10, hcz38_11, hcz38_12⟩ := cl13 BK324.out
      obtain ⟨hfz38_0, hfz38_1, hfz38_2, hfz38_3, hfz38_4, hfz38_5, hfz38_6, hfz38_7, hfz38_8, hfz38_9, hfz38_10, hfz38_11, hfz38_12⟩ := fr13 BK324.out
      go_wp2
      go_meet
      case rel => exact ⟨_, (decide (a0_12 < 12)), (be_), H', ⟨B10x23_⟩, ⟨B10x8_⟩, ⟨B10x9_⟩, ⟨B10x6_⟩, ⟨B10x2_⟩, ⟨B10x0_⟩⟩
     ·rw [if_neg c35] at H
      have c35b0 : decide (a0_11 ≤ a1) = false := decide_eq_false c35
      clear c35
      (first | rw [c35b0] | (simp only [i64_w, i32_w]; rw [c35b0]) | skip)
      have H' := Aside0.mk H
      clear H
      have hnb39 := NB324_325.out
      have hnc39 := NB325_324.out
      have hnb40 := NB324_341.out
      have hnc40 := NB341_324.out
      obtain ⟨hcz41_0, hcz41_1, hcz41_2, hcz41_3, hcz41_4, hcz41_5, hcz41_6, hcz41_7, hcz41_8, hcz41_9, hcz41_10, hcz41_11, hcz41_12⟩ := cl13 BK324.out
      obtain ⟨hfz41_0, hfz41_1, hfz41_2, hfz41_3, hfz41_4, hfz41_5, hfz41_6, hfz41_7, hfz41_8, hfz41_9, hfz41_10, hfz41_11, hfz41_12⟩ := fr13 BK324.out
      go_wp2
      go_meet
      case rel => exact ⟨_, (false), (be_), H', ⟨B10x23_⟩, ⟨B10x8_⟩, ⟨B10x9_⟩, ⟨B10x6_⟩, ⟨B10x2_⟩, ⟨B10x0_⟩⟩
    case rest =>
     clear HC34
     try clear c27
     try clear hcz13_0
     try clear hcz13_1
     try clear hcz13_10
     try clear hcz13_11
     try clear hcz13_12
     try clear hcz13_2
     try clear hcz13_3
     try clear hcz13_4
     try clear hcz13_5
     try clear hcz13_6
     try clear hcz13_7
     try clear hcz13_8
     try clear hcz13_9
     try clear hcz8_0
     try clear hcz8_1
     try clear hcz8_10
     try clear hcz8_11
     try clear hcz8_12
     try clear hcz8_2
     try clear hcz8_3
     try clear hcz8_4
     try clear hcz8_5
     try clear hcz8_6
     try clear hcz8_7
     try clear hcz8_8
     try clear hcz8_9
     try clear hfz13_0
     try clear hfz13_1
     try clear hfz13_10
     try clear hfz13_11
     try clear hfz13_12
     try clear hfz13_2
     try clear hfz13_3
     try clear hfz13_4
     try clear hfz13_5
     try clear hfz13_6
     try clear hfz13_7
     try clear hfz13_8
     try clear hfz13_9
     try clear hfz8_0
     try clear hfz8_1
     try clear hfz8_10
     try clear hfz8_11
     try clear hfz8_12
     try clear hfz8_2
     try clear hfz8_3
     try clear hfz8_4
     try clear hfz8_5
     try clear hfz8_6
     try clear hfz8_7
     try clear hfz8_8
     try clear hfz8_9
     obtain ⟨kq, x7_33, rfl, HA, HJ33, HO_342009, BK324, BK325, BK341, HB⟩ := hcut
     cases kq with
     | zero => exact absurd HA.out (by simp [impl_Push.j1])
     | succ kj33 =>
      have H := HA.out
      clear HA
      simp only [impl_Push.j1] at H
      have HC42 := Aside0.mk H
      clear H
      have hnb43 := NB324_325.out
      have hnc43 := NB325_324.out
      have hnb44 := NB324_341.out
      have hnc44 := NB341_324.out
      obtain ⟨hcz45_0, hcz45_1, hcz45_2, hcz45_3, hcz45_4, hcz45_5, hcz45_6, hcz45_7, hcz45_8, hcz45_9, hcz45_10, hcz45_11, hcz45_12⟩ := cl13 BK324.out
      obtain ⟨hfz45_0, hfz45_1, hfz45_2, hfz45_3, hfz45_4, hfz45_5, hfz45_6, hfz45_7, hfz45_8, hfz45_9, hfz45_10, hfz45_11, hfz45_12⟩ := fr13 BK324.out
      go_upto_if 31 with (fail)
      go_cut [31] (fun v31 wc => ∃ (kq : Nat) (x31_41 : Bool), v31 = .bool x31_41 ∧ Aside0 (impl_Push.j2 kq a1 x7_33 a0_0 x31_41 a0_0 a0_1 a0_2 a0_3 a0_4 a0_5 a0_6 a0_7 a0_8 l0_9 a0_10 a0_11 a0_12 t326 t327 t328 t329 t330 t331 t332 t333 t334 t335 t338 t339 t340 = some (r1, r2, r3, r4, r5, r6, r7, r8, r9, r10, r11, r12, r13, r14)) ∧ Aside0 (kq ≤ kj33) ∧ Aside0 (Kd.R k143 143 wc w.heap.size (fun _ => True) (.slice Ao14 t335.length co14) t335) ∧ Aside0 (wc.heap[gb324]? = some (.cells #[.int .i64 a0_0, .int .i64 a0_1, .int .i64 a0_2, .int .i64 a0_3, .string a0_4, .int .i64 a0_5, .int .i64 a0_6, .bool a0_7, .string a0_8, (.slice A0_9 l0_9.length c0_9), .bool a0_10, .int .i64 a0_11, .int .i64 a0_12] 39 (0, 0))) ∧ Aside0 (wc.heap[gb325]? = some (.cells #[.int .i64 0, .int .i64 0, .int .i64 0, .int .i64 0, .string (⟨#[]⟩ : ByteArray), .int .i64 0, .int .i64 0, .bool false, .string (⟨#[]⟩ : ByteArray), (.slice none 0 0), .bool false, .int .i64 0, .int .i64 0] 39 (0, 0))) ∧ Aside0 (wc.heap[gb341]? = some (.cells #[.int .i64 t326, .int .i64 t327, .int .i64 t328, .int .i64 t329, .string t330, .int .i64 t331, .int .i64 t332, .bool t333, .string t334, (.slice Ao14 t335.length co14), .bool t338, .int .i64 t339, .int .i64 t340] 39 (0, 0))) ∧ Aside0 (Below w.heap.size w wc))
      case first =>
       have H := HC42.out
       clear HC42
       by_cases c46 : a0_0 = 2
       ·rw [if_pos c46] at H
        have c46b0 := beq_iff_eq.mpr c46
        have c46b1 := bne_eq_false_iff_eq.mpr c46
        clear c46
        (first | rw [c46b0] | (simp only [i64_w, i32_w]; rw [c46b0]) | skip)
        have H' := Aside0.mk H
        clear H
        go_wp2
        go_meet
        case rel => exact ⟨_, ((a0_0 == 2)), (be_), H', ⟨B10x18_⟩, ⟨B10x8_⟩, ⟨B10x9_⟩, ⟨B10x6_⟩, ⟨B10x2_⟩, ⟨B10x0_⟩⟩
       ·rw [if_neg c46] at H
        have c46b0 := beq_eq_false_iff_ne.mpr c46
        have c46b1 := bne_iff_ne.mpr c46
        (first | rw [c46b0] | (simp only [i64_w, i32_w]; rw [c46b0]) | skip)
        have H' := Aside0.mk H
        clear H
        go_wp2
        go_meet
        case rel => exact ⟨_, ((a0_0 == 3)), (be_), H', ⟨B10x18_⟩, ⟨B10x8_⟩, ⟨B10x9_⟩, ⟨B10x6_⟩, ⟨B10x2_⟩, ⟨B10x0_⟩⟩
      case rest =>
       clear HC42
       try clear c27
       try clear hcz13_0
       try clear hcz13_1
       try clear hcz13_10
       try clear hcz13_11
       try clear hcz13_12
       try clear hcz13_2
       try clear hcz13_3
       try clear hcz13_4
       try clear hcz13_5
       try clear hcz13_6
       try clear hcz13_7
       try clear hcz13_8
       try clear hcz13_9
       try clear hcz45_0
       try clear hcz45_1
       try clear hcz45_10
       try clear hcz45_11
       try clear hcz45_12
       try clear hcz45_2
       try clear hcz45_3
       try clear hcz45_4
       try clear hcz45_5
       try clear hcz45_6
       try clear hcz45_7
       try clear hcz45_8
       try clear hcz45_9
       try clear hcz8_0
       try clear hcz8_1
       try clear hcz8_10
       try clear hcz8_11
       try clear hcz8_12
       try clear hcz8_2
       try clear hcz8_3
       try clear hcz8_4
       try clear hcz8_5
       try clear hcz8_6
       try clear hcz8_7
       try clear hcz8_8
       try clear hcz8_9
       try clear hfz13_0
       try clear hfz13_1
       try clear hfz13_10
       try clear hfz13_11
       try clear hfz13_12
       try clear hfz13_2
       try clear hfz13_3
       try clear hfz13_4
       try clear hfz13_5
       try clear hfz13_6
       try clear hfz13_7
       try clear hfz13_8
       try clear hfz13_9
       try clear hfz45_0
       try clear hfz45_1
       try clear hfz45_10
       try clear hfz45_11
       try clear hfz45_12
       try clear hfz45_2
       try clear hfz45_3
       try clear hfz45_4
       try clear hfz45_5
       try clear hfz45_6
       try clear hfz45_7
       try clear hfz45_8
       try clear hfz45_9
       try clear hfz8_0
       try clear hfz8_1
       try clear hfz8_10
       try clear hfz8_11
       try clear hfz8_12
       try clear hfz8_2
       try clear hfz8_3
       try clear hfz8_4
       try clear hfz8_5
       try clear hfz8_6
       try clear hfz8_7
       try clear hfz8_8
       try clear hfz8_9
       obtain ⟨kq, x31_41, rfl, HA, HJ41, HO_342009, BK324, BK325, BK341, HB⟩ := hcut
       cases kq with
       | zero => exact absurd HA.out (by simp [impl_Push.j2])
       | succ kj41 =>
        have H := HA.out
        clear HA
        simp only [impl_Push.j2] at H
        by_cases c47 : x31_41 = true
        ·subst c47
         rw [if_pos rfl] at H
         by_cases c48 : x7_33 = true
         ·subst c48
          rw [if_pos rfl] at H
          replace H := bsi H
          obtain ⟨⟨t344, t345, t346, t347, t348, t349, t350, t351, t352, t353, t354, t355⟩, A49, H⟩ := H
          (try dsimp only at H)
          by_cases c50 : a0_0 = 2
          ·rw [if_pos c50] at H
           have c50b0 := beq_iff_eq.mpr c50
           have c50b1 := bne_eq_false_iff_eq.mpr c50
           clear c50
           obtain ⟨y356, hy356⟩ : ∃ y_ : List (S28), y_ = (([(⟨a0_1, 0, 1, (⟨#[]⟩ : ByteArray)⟩ : S28)] : List (S28))) := ⟨_, rfl⟩
           replace H : (some (t344, t345, t346, t347, t348, t349, t350, t351, t352, t335, t353, t354, t355, y356)) = some (r1, r2, r3, r4, r5, r6, r7, r8, r9, r10, r11, r12, r13, r14) := by first | (rw [hy356]; with_reducible exact H) | (have H2_ := (Option.bind_some _ _).symm.trans H; rw [hy356]; with_reducible exact H2_) | (have H2_ := (Option.bind_some _ _).symm.trans H; with_reducible exact H2_) | with_reducible exact H | (rw [hy356]; exact H) | exact H
           have Ny356 := Aside0.mk hy356
           clear hy356
           simp only [Option.some.injEq, Prod.mk.injEq] at H
           obtain ⟨rfl, rfl, rfl, rfl, rfl, rfl, rfl, rfl, rfl, rfl, rfl, rfl, rfl, rfl⟩ := H
           try go_wp2_with (first | ((with_reducible refine gate_callee (f := 75) rfl ?_); refine goesL_ (some 38) rfl rfl Try.func75 B10x10_ rfl #[.pointer (some ⟨gb341, 0, none⟩), .int .i64 a1] rfl B10x11_ ?_; (with_reducible refine (impl_Stream_again.calls gb341 t326 t327 t328 t329 t330 t331 t332 t333 t334 t335 (.slice Ao14 t335.length co14) t338 t339 t340 a1 t344 t345 t346 t347 t348 t349 t350 t351 t352 t353 t354 t355 w _ ?side1 ?side2 A49.out).mono ?_); (case side1 => exact B10x22_); (case side2 => exact B10x0_); rintro e w51 ⟨rfl, hi, hb, hk⟩; refine ⟨_, rfl, ?_⟩; replace HO_342009 := Aside0.mk (Kd.R_mono (Kd.R_keep (Kd.R_types B10x8_ B10x2_ (by decide)) hk (fun _ h => h.2)) (fun _ h => h.1)); replace BK324 := Aside0.mk (kb hk BK324.out NB324_341.out); replace BK325 := Aside0.mk (kb hk BK325.out NB325_341.out); replace HB := Aside0.mk (hb); replace BK341 := Aside0.mk (hi.1); (try clear hb hk hi); have hnb52 := NB324_325.out; have hnc52 := NB325_324.out; have hnb53 := NB324_341.out; have hnc53 := NB341_324.out; obtain ⟨hcz54_0, hcz54_1, hcz54_2, hcz54_3, hcz54_4, hcz54_5, hcz54_6, hcz54_7, hcz54_8, hcz54_9, hcz54_10, hcz54_11, hcz54_12⟩ := cl13 BK324.out; obtain ⟨hfz54_0, hfz54_1, hfz54_2, hfz54_3, hfz54_4, hfz54_5, hfz54_6, hfz54_7, hfz54_8, hfz54_9, hfz54_10, hfz54_11, hfz54_12⟩ := fr13 BK324.out))
           replace HO_342009 := Aside0.mk (Kd.R_drew HO_342009.out)
           replace BK324 := Aside0.mk (blk_drew BK324.out)
           replace BK325 := Aside0.mk (blk_drew BK325.out)
           replace BK341 := Aside0.mk (blk_drew BK341.out)
           replace HB := Aside0.mk (below_drew1 HB.out)
           refine start_ (n := 7) (S := fun w' => True) (ds := []) #[false, false, false, false, false, false, false] B10x10_ rfl rfl trivial (fun hHeld => ?_); refine with_tabW impl_Push.tab12 impl_Push.bits12 (fun HT_ HW_ => ?_)
           generalize w51.drew = w55 at HO_342009 BK324 BK325 BK341 HB hHeld ⊢
           refine pu_ 1 43 HT_ ?_
           refine inv_at [0, 2, 3, 4, 5, 6] (fun a0_ b a w' => ∃ (v357 : Value) (m6_ : Value), a = putSel a0_ b [(0, 42, .agg #[.int .i64 t344, .int .i64 t345, .int .i64 t346, .int .i64 t347, .string t348, .int .i64 t349, .int .i64 t350, .bool t351, .string t352, .slice Ao14 t335.length co14, .bool t353, .int .i64 t354, .int .i64 t355]), (2, 44, .int .i64 a0_1), (3, 45, .agg #[.int .i64 a0_1, .int .i64 0, .int .i64 1, .string (⟨#[]⟩ : ByteArray)]), (4, 46, v357), (6, 5, m6_)] ∧ (Kd.R k143 143 w' w.heap.size (fun _ => True) (.slice Ao14 t335.length co14) t335) ∧ (w'.heap[gb324]? = some (.cells #[.int .i64 a0_0, .int .i64 a0_1, .int .i64 a0_2, .int .i64 a0_3, .string a0_4, .int .i64 a0_5, .int .i64 a0_6, .bool a0_7, .string a0_8, .slice A0_9 l0_9.length c0_9, .bool a0_10, .int .i64 a0_11, .int .i64 a0_12] 39 (0, 0))) ∧ (b 5 = false → w'.heap[gb325]? = some (.cells #[.int .i64 0, .int .i64 0, .int .i64 0, .int .i64 0, .string (⟨#[]⟩ : ByteArray), .int .i64 0, .int .i64 0, .bool false, .string (⟨#[]⟩ : ByteArray), .slice none 0 0, .bool false, .int .i64 0, .int .i64 0] 39 (0, 0))) ∧ (w'.heap[gb341]? = some (.cells #[.int .i64 t344, .int .i64 t345, .int .i64 t346, .int .i64 t347, .string t348, .int .i64 t349, .int .i64 t350, .bool t351, .string t352, .slice Ao14 t335.length co14, .bool t353, .int .i64 t354, .int .i64 t355] 39 (0, 0))) ∧ (Below w.heap.size w w') ∧ (b 4 = true → Kd.R k28 28 w' w.heap.size (fun _ => True) v357 y356) ∧ (b 5 = true → w'.heap[gb325]? = some (.cells #[.int .i64 t344, .int .i64 t345, .int .i64 t346, .int .i64 t347, .string t348, .int .i64 t349, .int .i64 t350, .bool t351, .string t352, .slice Ao14 t335.length co14, .bool t353, .int .i64 t354, .int .i64 t355] 39 (0, 0))) ∧ (b 6 = true → (m6_ : Value) = v357)) HT_.out HW_.out B10x10_ B10x10_ ?_ ?_ ?_
           ·exact ⟨.bool false, .bool false, by simp only [putSel, Bool.false_eq_true, if_false], HO_342009.out, BK324.out, fun _ => BK325.out, BK341.out, HB.out, fun h_ => absurd h_ (by decide), fun h_ => absurd h_ (by decide), fun h_ => absurd h_ (by decide)⟩
           ·skip
            clear BK324 BK325 BK341 HB HO_342009
            refine steps_cons ?_ ?_
            ·rintro b a w' ⟨v357, m6_, ha, Q_HO_342009, Q_BK324, Q_BK325, Q_BK341, Q_HB, Q_HO358, Q_BK325_e5, Q_X6_⟩ hb_ hon hoff
             refine ⟨_, rfl, fun K hK => ?_⟩
             have e6 : a.tmps[6]? = some (.pointer (some ⟨gb341, 0, none⟩)) := by rw [ha]; exact (putSel_off rfl).trans rfl
             replace ha := Aside0.mk ha
             have HO_342009 := Aside0.mk Q_HO_342009
             have BK324 := Aside0.mk Q_BK324
             have BK325 := Aside0.mk (Q_BK325 (hoff 5 B10x10_))
             have BK341 := Aside0.mk Q_BK341
             have HB := Aside0.mk Q_HB
             have hc0_ : w'.cell? ⟨gb341, 0, none⟩ = some (.int .i64 t344) := (blk_cell BK341.out 0).trans rfl
             have hc1_ : w'.cell? ⟨gb341, 1, none⟩ = some (.int .i64 t345) := (blk_cell BK341.out 1).trans rfl
             have hc2_ : w'.cell? ⟨gb341, 2, none⟩ = some (.int .i64 t346) := (blk_cell BK341.out 2).trans rfl
             have hc3_ : w'.cell? ⟨gb341, 3, none⟩ = some (.int .i64 t347) := (blk_cell BK341.out 3).trans rfl
             have hc4_ : w'.cell? ⟨gb341, 4, none⟩ = some (.string t348) := (blk_cell BK341.out 4).trans rfl
             have hc5_ : w'.cell? ⟨gb341, 5, none⟩ = some (.int .i64 t349) := (blk_cell BK341.out 5).trans rfl
             have hc6_ : w'.cell? ⟨gb341, 6, none⟩ = some (.int .i64 t350) := (blk_cell BK341.out 6).trans rfl
             have hc7_ : w'.cell? ⟨gb341, 7, none⟩ = some (.bool t351) := (blk_cell BK341.out 7).trans rfl
             have hc8_ : w'.cell? ⟨gb341, 8, none⟩ = some (.string t352) := (blk_cell BK341.out 8).trans rfl
             have hc9_ : w'.cell? ⟨gb341, 9, none⟩ = some (.slice Ao14 t335.length co14) := (blk_cell BK341.out 9).trans rfl
             have hc10_ : w'.cell? ⟨gb341, 10, none⟩ = some (.bool t353) := (blk_cell BK341.out 10).trans rfl
             have hc11_ : w'.cell? ⟨gb341, 11, none⟩ = some (.int .i64 t354) := (blk_cell BK341.out 11).trans rfl
             have hc12_ : w'.cell? ⟨gb341, 12, none⟩ = some (.int .i64 t355) := (blk_cell BK341.out 12).trans rfl
             refine value_ (w1 := w') (v := .agg #[.int .i64 t344, .int .i64 t345, .int .i64 t346, .int .i64 t347, .string t348, .int .i64 t349, .int .i64 t350, .bool t351, .string t352, .slice Ao14 t335.length co14, .bool t353, .int .i64 t354, .int .i64 t355]) (by rfl) rfl ?_ ?_
             ·go_simp
              (try simp only [i64_w])
              try rfl
             refine hK.out _ _ ⟨v357, m6_, B10x25_, Q_HO_342009, Q_BK324, Q_BK325, Q_BK341, Q_HB, Q_HO358, fun h0_ => absurd ((hoff 5 B10x10_).symm.trans h0_) (by decide), fun h0_ => absurd ((hoff 6 B10x10_).symm.trans h0_) (by decide)⟩
            refine steps_cons ?_ ?_
            ·rintro b a w' ⟨v357, m6_, ha, Q_HO_342009, Q_BK324, Q_BK325, Q_BK341, Q_HB, Q_HO358, Q_BK325_e5, Q_X6_⟩ hb_ hon hoff
             refine ⟨_, rfl, fun K hK => ?_⟩
             have e43 : a.tmps[43]? = some (.pointer (some ⟨gb324, 1, none⟩)) := by rw [ha]; exact (putSel_off rfl).trans rfl
             replace ha := Aside0.mk ha
             have HO_342009 := Aside0.mk Q_HO_342009
             have BK324 := Aside0.mk Q_BK324
             have BK341 := Aside0.mk Q_BK341
             have HB := Aside0.mk Q_HB
             have hc0_ : w'.cell? ⟨gb324, 0, none⟩ = some (.int .i64 a0_0) := (blk_cell BK324.out 0).trans rfl
             have hc1_ : w'.cell? ⟨gb324, 1, none⟩ = some (.int .i64 a0_1) := (blk_cell BK324.out 1).trans rfl
             have hc2_ : w'.cell? ⟨gb324, 2, none⟩ = some (.int .i64 a0_2) := (blk_cell BK324.out 2).trans rfl
             have hc3_ : w'.cell? ⟨gb324, 3, none⟩ = some (.int .i64 a0_3) := (blk_cell BK324.out 3).trans rfl
             have hc4_ : w'.cell? ⟨gb324, 4, none⟩ = some (.string a0_4) := (blk_cell BK324.out 4).trans rfl
             have hc5_ : w'.cell? ⟨gb324, 5, none⟩ = some (.int .i64 a0_5) := (blk_cell BK324.out 5).trans rfl
             have hc6_ : w'.cell? ⟨gb324, 6, none⟩ = some (.int .i64 a0_6) := (blk_cell BK324.out 6).trans rfl
             have hc7_ : w'.cell? ⟨gb324, 7, none⟩ = some (.bool a0_7) := (blk_cell BK324.out 7).trans rfl
             have hc8_ : w'.cell? ⟨gb324, 8, none⟩ = some (.string a0_8) := (blk_cell BK324.out 8).trans rfl
             have hc9_ : w'.cell? ⟨gb324, 9, none⟩ = some (.slice A0_9 l0_9.length c0_9) := (blk_cell BK324.out 9).trans rfl
             have hc10_ : w'.cell? ⟨gb324, 10, none⟩ = some (.bool a0_10) := (blk_cell BK324.out 10).trans rfl
             have hc11_ : w'.cell? ⟨gb324, 11, none⟩ = some (.int .i64 a0_11) := (blk_cell BK324.out 11).trans rfl
             have hc12_ : w'.cell? ⟨gb324, 12, none⟩ = some (.int .i64 a0_12) := (blk_cell BK324.out 12).trans rfl
             refine value_ (w1 := w') (v := .int .i64 a0_1) (by rfl) rfl ?_ ?_
             ·go_simp
              (try simp only [i64_w])
              try rfl
             refine hK.out _ _ ⟨v357, m6_, B10x26_, Q_HO_342009, Q_BK324, Q_BK325, Q_BK341, Q_HB, fun h0_ => absurd ((hoff 4 B10x10_).symm.trans h0_) (by decide), Q_BK325_e5, fun h0_ => absurd ((hoff 6 B10x10_).symm.trans h0_) (by decide)⟩
            refine steps_cons ?_ ?_
            ·rintro b a w' ⟨v357, m6_, ha, Q_HO_342009, Q_BK324, Q_BK325, Q_BK341, Q_HB, Q_HO358, Q_BK325_e5, Q_X6_⟩ hb_ hon hoff
             refine ⟨_, rfl, fun K hK => ?_⟩
             have e44 : a.tmps[44]? = some (.int .i64 a0_1) := by rw [ha]; exact putSel_on (e := (2, 44, .int .i64 a0_1)) 1 rfl rfl (hon 2 B10x10_) rfl
             replace ha := Aside0.mk ha
             have HO_342009 := Aside0.mk Q_HO_342009
             have BK324 := Aside0.mk Q_BK324
             have BK341 := Aside0.mk Q_BK341
             have HB := Aside0.mk Q_HB
             refine value_ (w1 := w') (v := .agg #[.int .i64 a0_1, .int .i64 0, .int .i64 1, .string (⟨#[]⟩ : ByteArray)]) (by rfl) rfl ?_ ?_
             ·go_simp
              (try simp only [i64_w])
              try rfl
             refine hK.out _ _ ⟨v357, m6_, B10x27_, Q_HO_342009, Q_BK324, Q_BK325, Q_BK341, Q_HB, fun h0_ => absurd ((hoff 4 B10x10_).symm.trans h0_) (by decide), Q_BK325_e5, fun h0_ => absurd ((hoff 6 B10x10_).symm.trans h0_) (by decide)⟩
            refine steps_cons ?_ ?_
            ·rintro b a w' ⟨v357, m6_, ha, Q_HO_342009, Q_BK324, Q_BK325, Q_BK341, Q_HB, Q_HO358, Q_BK325_e5, Q_X6_⟩ hb_ hon hoff
             refine ⟨_, rfl, fun K hK => ?_⟩
             have e45 : a.tmps[45]? = some (.agg #[.int .i64 a0_1, .int .i64 0, .int .i64 1, .string (⟨#[]⟩ : ByteArray)]) := by rw [ha]; exact putSel_on (e := (3, 45, .agg #[.int .i64 a0_1, .int .i64 0, .int .i64 1, .string (⟨#[]⟩ : ByteArray)])) 2 rfl rfl (hon 3 B10x10_) rfl
             replace ha := Aside0.mk ha
             have HO_342009 := Aside0.mk Q_HO_342009
             have BK324 := Aside0.mk Q_BK324
             have BK341 := Aside0.mk Q_BK341
             have HB := Aside0.mk Q_HB
             refine Kd.R_lit_step k28 _ 28 ?hg (N := 46) ?hd (xs := ([(⟨a0_1, 0, 1, (⟨#[]⟩ : ByteArray)⟩ : S28)] : List (S28))) (inner := [.int .i64 a0_1, .int .i64 0, .int .i64 1, .string (⟨#[]⟩ : ByteArray)]) (ok := fun _ => True) (okp := fun _ => True) ?hr ?hp (fun _ hk => hk) trivial (Below.refl _ _) (Nat.le_refl _) (by simp) ?_; (case hd => rfl); (case hg => rfl); (case hr => exact B10x15_); (case hp => exact (Reps.c4 (show Kd.M k28 _ _ _ (⟨a0_1, 0, 1, (⟨#[]⟩ : ByteArray)⟩ : S28) [.int .i64 a0_1, .int .i64 0, .int .i64 1, .string (⟨#[]⟩ : ByteArray)] from (k28_mkM _ _ _ (⟨a0_1, 0, 1, (⟨#[]⟩ : ByteArray)⟩ : S28) )) (Reps.none _ _)))
             intro v357 w56 ho57 hb hg_ hnew_
             clear hg_ hnew_
             (first | rw [← Ny356.out] at ho57 | (simp only [Int.reduceToNat] at ho57; rw [← Ny356.out] at ho57))
             have n0_ := Aside0.mk (Kd.R_below B10x8_ hb)
             have n1_ := Aside0.mk (Kd.R_lower ho57 (below_size B10x0_))
             have n2_ := Aside0.mk (bb BK324.out hb)
             have n4_ := Aside0.mk (bb BK341.out hb)
             have n5_ := Aside0.mk (below_step B10x0_ hb)
             have z_BK325 := fun (h0_ : b 5 = false) => (show w56.heap[gb325]? = some (.cells #[.int .i64 0, .int .i64 0, .int .i64 0, .int .i64 0, .string (⟨#[]⟩ : ByteArray), .int .i64 0, .int .i64 0, .bool false, .string (⟨#[]⟩ : ByteArray), .slice none 0 0, .bool false, .int .i64 0, .int .i64 0] 39 (0, 0)) from B10x13_)
             have z_BK325_e5 := fun (h0_ : b 5 = true) => (show w56.heap[gb325]? = some (.cells #[.int .i64 t344, .int .i64 t345, .int .i64 t346, .int .i64 t347, .string t348, .int .i64 t349, .int .i64 t350, .bool t351, .string t352, .slice Ao14 t335.length co14, .bool t353, .int .i64 t354, .int .i64 t355] 39 (0, 0)) from (by first | exact (blk_below (g := gb325) (o := .cells #[.int .i64 t344, .int .i64 t345, .int .i64 t346, .int .i64 t347, .string t348, .int .i64 t349, .int .i64 t350, .bool t351, .string t352, .slice Ao14 t335.length co14, .bool t353, .int .i64 t354, .int .i64 t355] 39 (0, 0)) (by (with_reducible repeat (first | refine blk_drewN ?_ _ | refine blk_drew ?_ | refine blk_alloc ?_ _)); exact (Q_BK325_e5 h0_)) hb)))
             clear HO_342009
             clear BK324
             clear BK341
             clear HB
             have HO_342009 := n0_
             have HO358 := n1_
             have BK324 := n2_
             have BK341 := n4_
             have HB := n5_
             clear n0_ n1_ n2_ n4_ n5_
             clear hb ho57
             refine hK.out _ _ ⟨v357, m6_, B10x28_, B10x8_, B10x9_, z_BK325, B10x2_, B10x0_, fun _ => (by (with_reducible repeat (first | apply Kd.R_alloc | apply Kd.R_drewN | apply Kd.R_drew)); exact HO358.out), z_BK325_e5, fun h0_ => absurd ((hoff 6 B10x10_).symm.trans h0_) (by decide)⟩
            refine steps_cons ?_ ?_
            ·rintro b a w' ⟨v357, m6_, ha, Q_HO_342009, Q_BK324, Q_BK325, Q_BK341, Q_HB, Q_HO358, Q_BK325_e5, Q_X6_⟩ hb_ hon hoff
             refine ⟨_, rfl, fun K hK => ?_⟩
             have e4 : a.tmps[4]? = some (.pointer (some ⟨gb325, 0, none⟩)) := by rw [ha]; exact (putSel_off rfl).trans rfl
             have e42 : a.tmps[42]? = some (.agg #[.int .i64 t344, .int .i64 t345, .int .i64 t346, .int .i64 t347, .string t348, .int .i64 t349, .int .i64 t350, .bool t351, .string t352, .slice Ao14 t335.length co14, .bool t353, .int .i64 t354, .int .i64 t355]) := by rw [ha]; exact putSel_on (e := (0, 42, .agg #[.int .i64 t344, .int .i64 t345, .int .i64 t346, .int .i64 t347, .string t348, .int .i64 t349, .int .i64 t350, .bool t351, .string t352, .slice Ao14 t335.length co14, .bool t353, .int .i64 t354, .int .i64 t355])) 0 rfl rfl (hon 0 B10x10_) rfl
             replace ha := Aside0.mk ha
             have HO_342009 := Aside0.mk Q_HO_342009
             have BK324 := Aside0.mk Q_BK324
             have BK325 := Aside0.mk (Q_BK325 hb_)
             have BK341 := Aside0.mk Q_BK341
             have HB := Aside0.mk Q_HB
             have hs56 : w'.cell? ⟨gb325, 0, none⟩ = some (.int .i64 0) := (blk_cell BK325.out 0).trans rfl
             have hfs56 := blk_frozen BK325.out 0
             have hns56_0 := NB324_325.out
             have hns56_2 := NB341_325.out
             have hms56_0 := NB325_324.out
             have hms56_2 := NB325_341.out
             have hs57 : w'.cell? ⟨gb325, 1, none⟩ = some (.int .i64 0) := (blk_cell BK325.out 1).trans rfl
             have hfs57 := blk_frozen BK325.out 1
             have hns57_0 := NB324_325.out
             have hns57_2 := NB341_325.out
             have hms57_0 := NB325_324.out
             have hms57_2 := NB325_341.out
             have hs58 : w'.cell? ⟨gb325, 2, none⟩ = some (.int .i64 0) := (blk_cell BK325.out 2).trans rfl
             have hfs58 := blk_frozen BK325.out 2
             have hns58_0 := NB324_325.out
             have hns58_2 := NB341_325.out
             have hms58_0 := NB325_324.out
             have hms58_2 := NB325_341.out
             have hs59 : w'.cell? ⟨gb325, 3, none⟩ = some (.int .i64 0) := (blk_cell BK325.out 3).trans rfl
             have hfs59 := blk_frozen BK325.out 3
             have hns59_0 := NB324_325.out
             have hns59_2 := NB341_325.out
             have hms59_0 := NB325_324.out
             have hms59_2 := NB325_341.out
             have hs60 : w'.cell? ⟨gb325, 4, none⟩ = some (.string (⟨#[]⟩ : ByteArray)) := (blk_cell BK325.out 4).trans rfl
             have hfs60 := blk_frozen BK325.out 4
             have hns60_0 := NB324_325.out
             have hns60_2 := NB341_325.out
             have hms60_0 := NB325_324.out
             have hms60_2 := NB325_341.out
             have hs61 : w'.cell? ⟨gb325, 5, none⟩ = some (.int .i64 0) := (blk_cell BK325.out 5).trans rfl
             have hfs61 := blk_frozen BK325.out 5
             have hns61_0 := NB324_325.out
             have hns61_2 := NB341_325.out
             have hms61_0 := NB325_324.out
             have hms61_2 := NB325_341.out
             have hs62 : w'.cell? ⟨gb325, 6, none⟩ = some (.int .i64 0) := (blk_cell BK325.out 6).trans rfl
             have hfs62 := blk_frozen BK325.out 6
             have hns62_0 := NB324_325.out
             have hns62_2 := NB341_325.out
             have hms62_0 := NB325_324.out
             have hms62_2 := NB325_341.out
             have hs63 : w'.cell? ⟨gb325, 7, none⟩ = some (.bool false) := (blk_cell BK325.out 7).trans rfl
             have hfs63 := blk_frozen BK325.out 7
             have hns63_0 := NB324_325.out
             have hns63_2 := NB341_325.out
             have hms63_0 := NB325_324.out
             have hms63_2 := NB325_341.out
             have hs64 : w'.cell? ⟨gb325, 8, none⟩ = some (.string (⟨#[]⟩ : ByteArray)) := (blk_cell BK325.out 8).trans rfl
             have hfs64 := blk_frozen BK325.out 8
             have hns64_0 := NB324_325.out
             have hns64_2 := NB341_325.out
             have hms64_0 := NB325_324.out
             have hms64_2 := NB325_341.out
             have hs65 : w'.cell? ⟨gb325, 9, none⟩ = some (.slice none 0 0) := (blk_cell BK325.out 9).trans rfl
             have hfs65 := blk_frozen BK325.out 9
             have hns65_0 := NB324_325.out
             have hns65_2 := NB341_325.out
             have hms65_0 := NB325_324.out
             have hms65_2 := NB325_341.out
             have hs66 : w'.cell? ⟨gb325, 10, none⟩ = some (.bool false) := (blk_cell BK325.out 10).trans rfl
             have hfs66 := blk_frozen BK325.out 10
             have hns66_0 := NB324_325.out
             have hns66_2 := NB341_325.out
             have hms66_0 := NB325_324.out
             have hms66_2 := NB325_341.out
             have hs67 : w'.cell? ⟨gb325, 11, none⟩ = some (.int .i64 0) := (blk_cell BK325.out 11).trans rfl
             have hfs67 := blk_frozen BK325.out 11
             have hns67_0 := NB324_325.out
             have hns67_2 := NB341_325.out
             have hms67_0 := NB325_324.out
             have hms67_2 := NB325_341.out
             have hs68 : w'.cell? ⟨gb325, 12, none⟩ = some (.int .i64 0) := (blk_cell BK325.out 12).trans rfl
             have hfs68 := blk_frozen BK325.out 12
             have hns68_0 := NB324_325.out
             have hns68_2 := NB341_325.out
             have hms68_0 := NB325_324.out
             have hms68_2 := NB325_341.out
             refine skip_ (w1 := ?_) (by rfl) rfl ?_ ?_
             rotate_left
             ·go_simp
              rfl
             refine hK.out _ _ ⟨v357, m6_, B10x24_, B10x7_, B10x3_, fun h0_ => absurd ((up_self b 5).symm.trans h0_) (by decide), B10x4_, B10x0_, fun h0_ => (by (with_reducible repeat (first | apply Kd.R_alloc | apply Kd.R_drewN | apply Kd.R_drew)); exact Kd.R_mono (Kd.R_far (p := ⟨gb325, 12, none⟩) (Kd.R_far (p := ⟨gb325, 11, none⟩) (Kd.R_far (p := ⟨gb325, 10, none⟩) (Kd.R_far (p := ⟨gb325, 9, none⟩) (Kd.R_far (p := ⟨gb325, 8, none⟩) (Kd.R_far (p := ⟨gb325, 7, none⟩) (Kd.R_far (p := ⟨gb325, 6, none⟩) (Kd.R_far (p := ⟨gb325, 5, none⟩) (Kd.R_far (p := ⟨gb325, 4, none⟩) (Kd.R_far (p := ⟨gb325, 3, none⟩) (Kd.R_far (p := ⟨gb325, 2, none⟩) (Kd.R_far (p := ⟨gb325, 1, none⟩) (Kd.R_far (p := ⟨gb325, 0, none⟩) (Kd.R_types (Q_HO358 h0_) BK325.out (by decide)) (fun _ hk => hk.2) (.int .i64 t344)) (fun _ hk => hk.2) (.int .i64 t345)) (fun _ hk => hk.2) (.int .i64 t346)) (fun _ hk => hk.2) (.int .i64 t347)) (fun _ hk => hk.2) (.string t348)) (fun _ hk => hk.2) (.int .i64 t349)) (fun _ hk => hk.2) (.int .i64 t350)) (fun _ hk => hk.2) (.bool t351)) (fun _ hk => hk.2) (.string t352)) (fun _ hk => hk.2) (.slice Ao14 t335.length co14)) (fun _ hk => hk.2) (.bool t353)) (fun _ hk => hk.2) (.int .i64 t354)) (fun _ hk => hk.2) (.int .i64 t355)) (fun _ hk => trivial)), fun _ => B10x5_, fun h0_ => absurd ((hoff 6 B10x10_).symm.trans h0_) (by decide)⟩
            refine steps_cons ?_ ?_
            ·rintro b a w' ⟨v357, m6_, ha, Q_HO_342009, Q_BK324, Q_BK325, Q_BK341, Q_HB, Q_HO358, Q_BK325_e5, Q_X6_⟩ hb_ hon hoff
             refine ⟨_, rfl, fun K hK => ?_⟩
             have e46 : a.tmps[46]? = some (v357) := by rw [ha]; exact putSel_on (e := (4, 46, v357)) 3 rfl rfl (hon 4 B10x10_) rfl
             replace ha := Aside0.mk ha
             have HO_342009 := Aside0.mk Q_HO_342009
             have BK324 := Aside0.mk Q_BK324
             have BK341 := Aside0.mk Q_BK341
             have HB := Aside0.mk Q_HB
             have HO358 := Aside0.mk (Q_HO358 (hon 4 B10x10_))
             have BK325 := Aside0.mk (Q_BK325_e5 (hon 5 B10x10_))
             refine value_ (w1 := w') (v := v357) (by rfl) rfl ?_ ?_
             ·go_simp
              (try simp only [i64_w])
              try rfl
             refine hK.out _ _ ⟨v357, (v357), B10x29_, Q_HO_342009, Q_BK324, fun h0_ => absurd ((hon 5 B10x10_).symm.trans h0_) (by decide), Q_BK341, Q_HB, Q_HO358, Q_BK325_e5, fun _ => rfl⟩
            exact steps_nil
           rintro b a w71 hall ⟨v357, m6_, ha, Q_HO_342009, Q_BK324, Q_BK325, Q_BK341, Q_HB, Q_HO358, Q_BK325_e5, Q_X6_⟩
           clear BK324 BK325 BK341 HB HO_342009
           have hb0_ := hall 0 B10x10_
           have hb2_ := hall 2 B10x10_
           have hb3_ := hall 3 B10x10_
           have hb4_ := hall 4 B10x10_
           have hb5_ := hall 5 B10x10_
           have hb6_ := hall 6 B10x10_
           subst ha
           obtain rfl := Q_X6_ hb6_
           simp only [putSel, hb0_, hb2_, hb3_, hb4_, hb5_, hb6_, if_true, Act.put, List.setIfInBounds_toArray, List.set_cons_zero, List.set_cons_succ]
           have HO_342009 := Aside0.mk Q_HO_342009
           clear Q_HO_342009
           have BK324 := Aside0.mk Q_BK324
           clear Q_BK324
           clear Q_BK325
           have BK341 := Aside0.mk Q_BK341
           clear Q_BK341
           have HB := Aside0.mk Q_HB
           clear Q_HB
           have HO358 := Aside0.mk (Q_HO358 hb4_)
           clear Q_HO358
           have BK325 := Aside0.mk (Q_BK325_e5 hb5_)
           clear Q_BK325_e5
           clear hall hb0_ hb2_ hb3_ hb4_ hb5_ hb6_
           try go_wp2
           refine bodyPost_ret (results_ct rfl _ _ gb325 39 #[.int .i64 t344, .int .i64 t345, .int .i64 t346, .int .i64 t347, .string t348, .int .i64 t349, .int .i64 t350, .bool t351, .string t352, .slice Ao14 t335.length co14, .bool t353, .int .i64 t354, .int .i64 t355] (0, 0) _ rfl B10x6_ Try.underlying39 rfl B10x10_) rfl ?_
           exact ⟨_, _, by first | rfl | (simp [errW_none, errW_some] <;> rfl) | (simp [*, errW_none, errW_some] <;> rfl), by (with_reducible repeat (first | apply Kd.R_alloc | apply Kd.R_drewN | apply Kd.R_drew)); exact HO_342009.out, by (with_reducible repeat (first | apply Kd.R_alloc | apply Kd.R_drewN | apply Kd.R_drew)); exact HO358.out, by repeat (first | (with_reducible first | exact HB.out | apply below_alloc | apply pw_below_drewN | apply below_drew1 | refine below_set ?_ GE324.out | refine below_set ?_ GE325.out | refine below_set ?_ GE341.out) | exact HB.out)⟩
          ·rw [if_neg c50] at H
           have c50b0 := beq_eq_false_iff_ne.mpr c50
           have c50b1 := bne_iff_ne.mpr c50
           obtain ⟨y359, hy359⟩ : ∃ y_ : List (S28), y_ = (([(⟨a0_1, a0_3, 3, (⟨#[]⟩ : ByteArray)⟩ : S28)] : List (S28))) := ⟨_, rfl⟩
           replace H : (some (t344, t345, t346, t347, t348, t349, t350, t351, t352, t335, t353, t354, t355, y359)) = some (r1, r2, r3, r4, r5, r6, r7, r8, r9, r10, r11, r12, r13, r14) := by first | (rw [hy359]; with_reducible exact H) | (have H2_ := (Option.bind_some _ _).symm.trans H; rw [hy359]; with_reducible exact H2_) | (have H2_ := (Option.bind_some _ _).symm.trans H; with_reducible exact H2_) | with_reducible exact H | (rw [hy359]; exact H) | exact H
           have Ny359 := Aside0.mk hy359
           clear hy359
           simp only [Option.some.injEq, Prod.mk.injEq] at H
           obtain ⟨rfl, rfl, rfl, rfl, rfl, rfl, rfl, rfl, rfl, rfl, rfl, rfl, rfl, rfl⟩ := H
           try go_wp2_with (first | ((with_reducible refine gate_callee (f := 75) rfl ?_); refine goesL_ (some 38) rfl rfl Try.func75 B10x10_ rfl #[.pointer (some ⟨gb341, 0, none⟩), .int .i64 a1] rfl B10x11_ ?_; (with_reducible refine (impl_Stream_again.calls gb341 t326 t327 t328 t329 t330 t331 t332 t333 t334 t335 (.slice Ao14 t335.length co14) t338 t339 t340 a1 t344 t345 t346 t347 t348 t349 t350 t351 t352 t353 t354 t355 w _ ?side1 ?side2 A49.out).mono ?_); (case side1 => exact B10x22_); (case side2 => exact B10x0_); rintro e w72 ⟨rfl, hi, hb, hk⟩; refine ⟨_, rfl, ?_⟩; replace HO_342009 := Aside0.mk (Kd.R_mono (Kd.R_keep (Kd.R_types B10x8_ B10x2_ (by decide)) hk (fun _ h => h.2)) (fun _ h => h.1)); replace BK324 := Aside0.mk (kb hk BK324.out NB324_341.out); replace BK325 := Aside0.mk (kb hk BK325.out NB325_341.out); replace HB := Aside0.mk (hb); replace BK341 := Aside0.mk (hi.1); (try clear hb hk hi); have hnb73 := NB324_325.out; have hnc73 := NB325_324.out; have hnb74 := NB324_341.out; have hnc74 := NB341_324.out; obtain ⟨hcz75_0, hcz75_1, hcz75_2, hcz75_3, hcz75_4, hcz75_5, hcz75_6, hcz75_7, hcz75_8, hcz75_9, hcz75_10, hcz75_11, hcz75_12⟩ := cl13 BK324.out; obtain ⟨hfz75_0, hfz75_1, hfz75_2, hfz75_3, hfz75_4, hfz75_5, hfz75_6, hfz75_7, hfz75_8, hfz75_9, hfz75_10, hfz75_11, hfz75_12⟩ := fr13 BK324.out))
           replace HO_342009 := Aside0.mk (Kd.R_drew HO_342009.out)
           replace BK324 := Aside0.mk (blk_drew BK324.out)
           replace BK325 := Aside0.mk (blk_drew BK325.out)
           replace BK341 := Aside0.mk (blk_drew BK341.out)
           replace HB := Aside0.mk (below_drew1 HB.out)
           refine start_ (n := 9) (S := fun w' => True) (ds := []) #[false, false, false, false, false, false, false, false, false] B10x10_ rfl rfl trivial (fun hHeld => ?_); refine with_tabW impl_Push.tab13 impl_Push.bits13 (fun HT_ HW_ => ?_)
           generalize w72.drew = w76 at HO_342009 BK324 BK325 BK341 HB hHeld ⊢
           refine pu_ 1 48 HT_ ?_
           refine pu_ 3 50 HT_ ?_
           refine inv_at [0, 2, 4, 5, 6, 7, 8] (fun a0_ b a w' => ∃ (v360 : Value) (m8_ : Value), a = putSel a0_ b [(0, 47, .agg #[.int .i64 t344, .int .i64 t345, .int .i64 t346, .int .i64 t347, .string t348, .int .i64 t349, .int .i64 t350, .bool t351, .string t352, .slice Ao14 t335.length co14, .bool t353, .int .i64 t354, .int .i64 t355]), (2, 49, .int .i64 a0_1), (4, 51, .int .i64 a0_3), (5, 52, .agg #[.int .i64 a0_1, .int .i64 a0_3, .int .i64 3, .string (⟨#[]⟩ : ByteArray)]), (6, 53, v360), (8, 5, m8_)] ∧ (Kd.R k143 143 w' w.heap.size (fun _ => True) (.slice Ao14 t335.length co14) t335) ∧ (w'.heap[gb324]? = some (.cells #[.int .i64 a0_0, .int .i64 a0_1, .int .i64 a0_2, .int .i64 a0_3, .string a0_4, .int .i64 a0_5, .int .i64 a0_6, .bool a0_7, .string a0_8, .slice A0_9 l0_9.length c0_9, .bool a0_10, .int .i64 a0_11, .int .i64 a0_12] 39 (0, 0))) ∧ (b 7 = false → w'.heap[gb325]? = some (.cells #[.int .i64 0, .int .i64 0, .int .i64 0, .int .i64 0, .string (⟨#[]⟩ : ByteArray), .int .i64 0, .int .i64 0, .bool false, .string (⟨#[]⟩ : ByteArray), .slice none 0 0, .bool false, .int .i64 0, .int .i64 0] 39 (0, 0))) ∧ (w'.heap[gb341]? = some (.cells #[.int .i64 t344, .int .i64 t345, .int .i64 t346, .int .i64 t347, .string t348, .int .i64 t349, .int .i64 t350, .bool t351, .string t352, .slice Ao14 t335.length co14, .bool t353, .int .i64 t354, .int .i64 t355] 39 (0, 0))) ∧ (Below w.heap.size w w') ∧ (b 6 = true → Kd.R k28 28 w' w.heap.size (fun _ => True) v360 y359) ∧ (b 7 = true → w'.heap[gb325]? = some (.cells #[.int .i64 t344, .int .i64 t345, .int .i64 t346, .int .i64 t347, .string t348, .int .i64 t349, .int .i64 t350, .bool t351, .string t352, .slice Ao14 t335.length co14, .bool t353, .int .i64 t354, .int .i64 t355] 39 (0, 0))) ∧ (b 8 = true → (m8_ : Value) = v360)) HT_.out HW_.out B10x10_ B10x10_ ?_ ?_ ?_
           ·exact ⟨.bool false, .bool false, by simp only [putSel, Bool.false_eq_true, if_false], HO_342009.out, BK324.out, fun _ => BK325.out, BK341.out, HB.out, fun h_ => absurd h_ (by decide), fun h_ => absurd h_ (by decide), fun h_ => absurd h_ (by decide)⟩
           ·skip
            clear BK324 BK325 BK341 HB HO_342009
            refine steps_cons ?_ ?_
            ·rintro b a w' ⟨v360, m8_, ha, Q_HO_342009, Q_BK324, Q_BK325, Q_BK341, Q_HB, Q_HO361, Q_BK325_e7, Q_X8_⟩ hb_ hon hoff
             refine ⟨_, rfl, fun K hK => ?_⟩
             have e6 : a.tmps[6]? = some (.pointer (some ⟨gb341, 0, none⟩)) := by rw [ha]; exact (putSel_off rfl).trans rfl
             replace ha := Aside0.mk ha
             have HO_342009 := Aside0.mk Q_HO_342009
             have BK324 := Aside0.mk Q_BK324
             have BK325 := Aside0.mk (Q_BK325 (hoff 7 B10x10_))
             have BK341 := Aside0.mk Q_BK341
             have HB := Aside0.mk Q_HB
             have hc0_ : w'.cell? ⟨gb341, 0, none⟩ = some (.int .i64 t344) := (blk_cell BK341.out 0).trans rfl
             have hc1_ : w'.cell? ⟨gb341, 1, none⟩ = some (.int .i64 t345) := (blk_cell BK341.out 1).trans rfl
             have hc2_ : w'.cell? ⟨gb341, 2, none⟩ = some (.int .i64 t346) := (blk_cell BK341.out 2).trans rfl
             have hc3_ : w'.cell? ⟨gb341, 3, none⟩ = some (.int .i64 t347) := (blk_cell BK341.out 3).trans rfl
             have hc4_ : w'.cell? ⟨gb341, 4, none⟩ = some (.string t348) := (blk_cell BK341.out 4).trans rfl
             have hc5_ : w'.cell? ⟨gb341, 5, none⟩ = some (.int .i64 t349) := (blk_cell BK341.out 5).trans rfl
             have hc6_ : w'.cell? ⟨gb341, 6, none⟩ = some (.int .i64 t350) := (blk_cell BK341.out 6).trans rfl
             have hc7_ : w'.cell? ⟨gb341, 7, none⟩ = some (.bool t351) := (blk_cell BK341.out 7).trans rfl
             have hc8_ : w'.cell? ⟨gb341, 8, none⟩ = some (.string t352) := (blk_cell BK341.out 8).trans rfl
             have hc9_ : w'.cell? ⟨gb341, 9, none⟩ = some (.slice Ao14 t335.length co14) := (blk_cell BK341.out 9).trans rfl
             have hc10_ : w'.cell? ⟨gb341, 10, none⟩ = some (.bool t353) := (blk_cell BK341.out 10).trans rfl
             have hc11_ : w'.cell? ⟨gb341, 11, none⟩ = some (.int .i64 t354) := (blk_cell BK341.out 11).trans rfl
             have hc12_ : w'.cell? ⟨gb341, 12, none⟩ = some (.int .i64 t355) := (blk_cell BK341.out 12).trans rfl
             refine value_ (w1 := w') (v := .agg #[.int .i64 t344, .int .i64 t345, .int .i64 t346, .int .i64 t347, .string t348, .int .i64 t349, .int .i64 t350, .bool t351, .string t352, .slice Ao14 t335.length co14, .bool t353, .int .i64 t354, .int .i64 t355]) (by rfl) rfl ?_ ?_
             ·go_simp
              (try simp only [i64_w])
              try rfl
             refine hK.out _ _ ⟨v360, m8_, B10x25_, Q_HO_342009, Q_BK324, Q_BK325, Q_BK341, Q_HB, Q_HO361, fun h0_ => absurd ((hoff 7 B10x10_).symm.trans h0_) (by decide), fun h0_ => absurd ((hoff 8 B10x10_).symm.trans h0_) (by decide)⟩
            refine steps_cons ?_ ?_
            ·rintro b a w' ⟨v360, m8_, ha, Q_HO_342009, Q_BK324, Q_BK325, Q_BK341, Q_HB, Q_HO361, Q_BK325_e7, Q_X8_⟩ hb_ hon hoff
             refine ⟨_, rfl, fun K hK => ?_⟩
             have e48 : a.tmps[48]? = some (.pointer (some ⟨gb324, 1, none⟩)) := by rw [ha]; exact (putSel_off rfl).trans rfl
             replace ha := Aside0.mk ha
             have HO_342009 := Aside0.mk Q_HO_342009
             have BK324 := Aside0.mk Q_BK324
             have BK341 := Aside0.mk Q_BK341
             have HB := Aside0.mk Q_HB
             have hc0_ : w'.cell? ⟨gb324, 0, none⟩ = some (.int .i64 a0_0) := (blk_cell BK324.out 0).trans rfl
             have hc1_ : w'.cell? ⟨gb324, 1, none⟩ = some (.int .i64 a0_1) := (blk_cell BK324.out 1).trans rfl
             have hc2_ : w'.cell? ⟨gb324, 2, none⟩ = some (.int .i64 a0_2) := (blk_cell BK324.out 2).trans rfl
             have hc3_ : w'.cell? ⟨gb324, 3, none⟩ = some (.int .i64 a0_3) := (blk_cell BK324.out 3).trans rfl
             have hc4_ : w'.cell? ⟨gb324, 4, none⟩ = some (.string a0_4) := (blk_cell BK324.out 4).trans rfl
             have hc5_ : w'.cell? ⟨gb324, 5, none⟩ = some (.int .i64 a0_5) := (blk_cell BK324.out 5).trans rfl
             have hc6_ : w'.cell? ⟨gb324, 6, none⟩ = some (.int .i64 a0_6) := (blk_cell BK324.out 6).trans rfl
             have hc7_ : w'.cell? ⟨gb324, 7, none⟩ = some (.bool a0_7) := (blk_cell BK324.out 7).trans rfl
             have hc8_ : w'.cell? ⟨gb324, 8, none⟩ = some (.string a0_8) := (blk_cell BK324.out 8).trans rfl
             have hc9_ : w'.cell? ⟨gb324, 9, none⟩ = some (.slice A0_9 l0_9.length c0_9) := (blk_cell BK324.out 9).trans rfl
             have hc10_ : w'.cell? ⟨gb324, 10, none⟩ = some (.bool a0_10) := (blk_cell BK324.out 10).trans rfl
             have hc11_ : w'.cell? ⟨gb324, 11, none⟩ = some (.int .i64 a0_11) := (blk_cell BK324.out 11).trans rfl
             have hc12_ : w'.cell? ⟨gb324, 12, none⟩ = some (.int .i64 a0_12) := (blk_cell BK324.out 12).trans rfl
             refine value_ (w1 := w') (v := .int .i64 a0_1) (by rfl) rfl ?_ ?_
             ·go_simp
              (try simp only [i64_w])
              try rfl
             refine hK.out _ _ ⟨v360, m8_, B10x26_, Q_HO_342009, Q_BK324, Q_BK325, Q_BK341, Q_HB, fun h0_ => absurd ((hoff 6 B10x10_).symm.trans h0_) (by decide), Q_BK325_e7, fun h0_ => absurd ((hoff 8 B10x10_).symm.trans h0_) (by decide)⟩
            refine steps_cons ?_ ?_
            ·rintro b a w' ⟨v360, m8_, ha, Q_HO_342009, Q_BK324, Q_BK325, Q_BK341, Q_HB, Q_HO361, Q_BK325_e7, Q_X8_⟩ hb_ hon hoff
             refine ⟨_, rfl, fun K hK => ?_⟩
             have e50 : a.tmps[50]? = some (.pointer (some ⟨gb324, 3, none⟩)) := by rw [ha]; exact (putSel_off rfl).trans rfl
             replace ha := Aside0.mk ha
             have HO_342009 := Aside0.mk Q_HO_342009
             have BK324 := Aside0.mk Q_BK324
             have BK341 := Aside0.mk Q_BK341
             have HB := Aside0.mk Q_HB
             have hc0_ : w'.cell? ⟨gb324, 0, none⟩ = some (.int .i64 a0_0) := (blk_cell BK324.out 0).trans rfl
             have hc1_ : w'.cell? ⟨gb324, 1, none⟩ = some (.int .i64 a0_1) := (blk_cell BK324.out 1).trans rfl
             have hc2_ : w'.cell? ⟨gb324, 2, none⟩ = some (.int .i64 a0_2) := (blk_cell BK324.out 2).trans rfl
             have hc3_ : w'.cell? ⟨gb324, 3, none⟩ = some (.int .i64 a0_3) := (blk_cell BK324.out 3).trans rfl
             have hc4_ : w'.cell? ⟨gb324, 4, none⟩ = some (.string a0_4) := (blk_cell BK324.out 4).trans rfl
             have hc5_ : w'.cell? ⟨gb324, 5, none⟩ = some (.int .i64 a0_5) := (blk_cell BK324.out 5).trans rfl
             have hc6_ : w'.cell? ⟨gb324, 6, none⟩ = some (.int .i64 a0_6) := (blk_cell BK324.out 6).trans rfl
             have hc7_ : w'.cell? ⟨gb324, 7, none⟩ = some (.bool a0_7) := (blk_cell BK324.out 7).trans rfl
             have hc8_ : w'.cell? ⟨gb324, 8, none⟩ = some (.string a0_8) := (blk_cell BK324.out 8).trans rfl
             have hc9_ : w'.cell? ⟨gb324, 9, none⟩ = some (.slice A0_9 l0_9.length c0_9) := (blk_cell BK324.out 9).trans rfl
             have hc10_ : w'.cell? ⟨gb324, 10, none⟩ = some (.bool a0_10) := (blk_cell BK324.out 10).trans rfl
             have hc11_ : w'.cell? ⟨gb324, 11, none⟩ = some (.int .i64 a0_11) := (blk_cell BK324.out 11).trans rfl
             have hc12_ : w'.cell? ⟨gb324, 12, none⟩ = some (.int .i64 a0_12) := (blk_cell BK324.out 12).trans rfl
             refine value_ (w1 := w') (v := .int .i64 a0_3) (by rfl) rfl ?_ ?_
             ·go_simp
              (try simp only [i64_w])
              try rfl
             refine hK.out _ _ ⟨v360, m8_, B10x27_, Q_HO_342009, Q_BK324, Q_BK325, Q_BK341, Q_HB, fun h0_ => absurd ((hoff 6 B10x10_).symm.trans h0_) (by decide), Q_BK325_e7, fun h0_ => absurd ((hoff 8 B10x10_).symm.trans h0_) (by decide)⟩
            refine steps_cons ?_ ?_
            ·rintro b a w' ⟨v360, m8_, ha, Q_HO_342009, Q_BK324, Q_BK325, Q_BK341, Q_HB, Q_HO361, Q_BK325_e7, Q_X8_⟩ hb_ hon hoff
             refine ⟨_, rfl, fun K hK => ?_⟩
             have e49 : a.tmps[49]? = some (.int .i64 a0_1) := by rw [ha]; exact putSel_on (e := (2, 49, .int .i64 a0_1)) 1 rfl rfl (hon 2 B10x10_) rfl
             have e51 : a.tmps[51]? = some (.int .i64 a0_3) := by rw [ha]; exact putSel_on (e := (4, 51, .int .i64 a0_3)) 2 rfl rfl (hon 4 B10x10_) rfl
             replace ha := Aside0.mk ha
             have HO_342009 := Aside0.mk Q_HO_342009
             have BK324 := Aside0.mk Q_BK324
             have BK341 := Aside0.mk Q_BK341
             have HB := Aside0.mk Q_HB
             refine value_ (w1 := w') (v := .agg #[.int .i64 a0_1, .int .i64 a0_3, .int .i64 3, .string (⟨#[]⟩ : ByteArray)]) (by rfl) rfl ?_ ?_
             ·go_simp
              (try simp only [i64_w])
              try rfl
             refine hK.out _ _ ⟨v360, m8_, B10x28_, Q_HO_342009, Q_BK324, Q_BK325, Q_BK341, Q_HB, fun h0_ => absurd ((hoff 6 B10x10_).symm.trans h0_) (by decide), Q_BK325_e7, fun h0_ => absurd ((hoff 8 B10x10_).symm.trans h0_) (by decide)⟩
            refine steps_cons ?_ ?_
            ·rintro b a w' ⟨v360, m8_, ha, Q_HO_342009, Q_BK324, Q_BK325, Q_BK341, Q_HB, Q_HO361, Q_BK325_e7, Q_X8_⟩ hb_ hon hoff
             refine ⟨_, rfl, fun K hK => ?_⟩
             have e52 : a.tmps[52]? = some (.agg #[.int .i64 a0_1, .int .i64 a0_3, .int .i64 3, .string (⟨#[]⟩ : ByteArray)]) := by rw [ha]; exact putSel_on (e := (5, 52, .agg #[.int .i64 a0_1, .int .i64 a0_3, .int .i64 3, .string (⟨#[]⟩ : ByteArray)])) 3 rfl rfl (hon 5 B10x10_) rfl
             replace ha := Aside0.mk ha
             have HO_342009 := Aside0.mk Q_HO_342009
             have BK324 := Aside0.mk Q_BK324
             have BK341 := Aside0.mk Q_BK341
             have HB := Aside0.mk Q_HB
             refine Kd.R_lit_step k28 _ 28 ?hg (N := 53) ?hd (xs := ([(⟨a0_1, a0_3, 3, (⟨#[]⟩ : ByteArray)⟩ : S28)] : List (S28))) (inner := [.int .i64 a0_1, .int .i64 a0_3, .int .i64 3, .string (⟨#[]⟩ : ByteArray)]) (ok := fun _ => True) (okp := fun _ => True) ?hr ?hp (fun _ hk => hk) trivial (Below.refl _ _) (Nat.le_refl _) (by simp) ?_; (case hd => rfl); (case hg => rfl); (case hr => exact B10x15_); (case hp => exact (Reps.c4 (show Kd.M k28 _ _ _ (⟨a0_1, a0_3, 3, (⟨#[]⟩ : ByteArray)⟩ : S28) [.int .i64 a0_1, .int .i64 a0_3, .int .i64 3, .string (⟨#[]⟩ : ByteArray)] from (k28_mkM _ _ _ (⟨a0_1, a0_3, 3, (⟨#[]⟩ : ByteArray)⟩ : S28) )) (Reps.none _ _)))
             intro v360 w77 ho78 hb hg_ hnew_
             clear hg_ hnew_
             (first | rw [← Ny359.out] at ho78 | (simp only [Int.reduceToNat] at ho78; rw [← Ny359.out] at ho78))
             have n0_ := Aside0.mk (Kd.R_below B10x8_ hb)
             have n1_ := Aside0.mk (Kd.R_lower ho78 (below_size B10x0_))
             have n2_ := Aside0.mk (bb BK324.out hb)
             have n4_ := Aside0.mk (bb BK341.out hb)
             have n5_ := Aside0.mk (below_step B10x0_ hb)
             have z_BK325 := fun (h0_ : b 7 = false) => (show w77.heap[gb325]? = some (.cells #[.int .i64 0, .int .i64 0, .int .i64 0, .int .i64 0, .string (⟨#[]⟩ : ByteArray), .int .i64 0, .int .i64 0, .bool false, .string (⟨#[]⟩ : ByteArray), .slice none 0 0, .bool false, .int .i64 0, .int .i64 0] 39 (0, 0)) from B10x13_)
             have z_BK325_e7 := fun (h0_ : b 7 = true) => (show w77.heap[gb325]? = some (.cells #[.int .i64 t344, .int .i64 t345, .int .i64 t346, .int .i64 t347, .string t348, .int .i64 t349, .int .i64 t350, .bool t351, .string t352, .slice Ao14 t335.length co14, .bool t353, .int .i64 t354, .int .i64 t355] 39 (0, 0)) from (by first | exact (blk_below (g := gb325) (o := .cells #[.int .i64 t344, .int .i64 t345, .int .i64 t346, .int .i64 t347, .string t348, .int .i64 t349, .int .i64 t350, .bool t351, .string t352, .slice Ao14 t335.length co14, .bool t353, .int .i64 t354, .int .i64 t355] 39 (0, 0)) (by (with_reducible repeat (first | refine blk_drewN ?_ _ | refine blk_drew ?_ | refine blk_alloc ?_ _)); exact (Q_BK325_e7 h0_)) hb)))
             clear HO_342009
             clear BK324
             clear BK341
             clear HB
             have HO_342009 := n0_
             have HO361 := n1_
             have BK324 := n2_
             have BK341 := n4_
             have HB := n5_
             clear n0_ n1_ n2_ n4_ n5_
             clear hb ho78
             refine hK.out _ _ ⟨v360, m8_, B10x29_, B10x8_, B10x9_, z_BK325, B10x2_, B10x0_, fun _ => (by (with_reducible repeat (first | apply Kd.R_alloc | apply Kd.R_drewN | apply Kd.R_drew)); exact HO361.out), z_BK325_e7, fun h0_ => absurd ((hoff 8 B10x10_).symm.trans h0_) (by decide)⟩
            refine steps_cons ?_ ?_
            ·rintro b a w' ⟨v360, m8_, ha, Q_HO_342009, Q_BK324, Q_BK325, Q_BK341, Q_HB, Q_HO361, Q_BK325_e7, Q_X8_⟩ hb_ hon hoff
             refine ⟨_, rfl, fun K hK => ?_⟩
             have e4 : a.tmps[4]? = some (.pointer (some ⟨gb325, 0, none⟩)) := by rw [ha]; exact (putSel_off rfl).trans rfl
             have e47 : a.tmps[47]? = some (.agg #[.int .i64 t344, .int .i64 t345, .int .i64 t346, .int .i64 t347, .string t348, .int .i64 t349, .int .i64 t350, .bool t351, .string t352, .slice Ao14 t335.length co14, .bool t353, .int .i64 t354, .int .i64 t355]) := by rw [ha]; exact putSel_on (e := (0, 47, .agg #[.int .i64 t344, .int .i64 t345, .int .i64 t346, .int .i64 t347, .string t348, .int .i64 t349, .int .i64 t350, .bool t351, .string t352, .slice Ao14 t335.length co14, .bool t353, .int .i64 t354, .int .i64 t355])) 0 rfl rfl (hon 0 B10x10_) rfl
             replace ha := Aside0.mk ha
             have HO_342009 := Aside0.mk Q_HO_342009
             have BK324 := Aside0.mk Q_BK324
             have BK325 := Aside0.mk (Q_BK325 hb_)
             have BK341 := Aside0.mk Q_BK341
             have HB := Aside0.mk Q_HB
             have hs77 : w'.cell? ⟨gb325, 0, none⟩ = some (.int .i64 0) := (blk_cell BK325.out 0).trans rfl
             have hfs77 := blk_frozen BK325.out 0
             have hns77_0 := NB324_325.out
             have hns77_2 := NB341_325.out
             have hms77_0 := NB325_324.out
             have hms77_2 := NB325_341.out
             have hs78 : w'.cell? ⟨gb325, 1, none⟩ = some (.int .i64 0) := (blk_cell BK325.out 1).trans rfl
             have hfs78 := blk_frozen BK325.out 1
             have hns78_0 := NB324_325.out
             have hns78_2 := NB341_325.out
             have hms78_0 := NB325_324.out
             have hms78_2 := NB325_341.out
             have hs79 : w'.cell? ⟨gb325, 2, none⟩ = some (.int .i64 0) := (blk_cell BK325.out 2).trans rfl
             have hfs79 := blk_frozen BK325.out 2
             have hns79_0 := NB324_325.out
             have hns79_2 := NB341_325.out
             have hms79_0 := NB325_324.out
             have hms79_2 := NB325_341.out
             have hs80 : w'.cell? ⟨gb325, 3, none⟩ = some (.int .i64 0) := (blk_cell BK325.out 3).trans rfl
             have hfs80 := blk_frozen BK325.out 3
             have hns80_0 := NB324_325.out
             have hns80_2 := NB341_325.out
             have hms80_0 := NB325_324.out
             have hms80_2 := NB325_341.out
             have hs81 : w'.cell? ⟨gb325, 4, none⟩ = some (.string (⟨#[]⟩ : ByteArray)) := (blk_cell BK325.out 4).trans rfl
             have hfs81 := blk_frozen BK325.out 4
             have hns81_0 := NB324_325.out
             have hns81_2 := NB341_325.out
             have hms81_0 := NB325_324.out
             have hms81_2 := NB325_341.out
             have hs82 : w'.cell? ⟨gb325, 5, none⟩ = some (.int .i64 0) := (blk_cell BK325.out 5).trans rfl
             have hfs82 := blk_frozen BK325.out 5
             have hns82_0 := NB324_325.out
             have hns82_2 := NB341_325.out
             have hms82_0 := NB325_324.out
             have hms82_2 := NB325_341.out
             have hs83 : w'.cell? ⟨gb325, 6, none⟩ = some (.int .i64 0) := (blk_cell BK325.out 6).trans rfl
             have hfs83 := blk_frozen BK325.out 6
             have hns83_0 := NB324_325.out
             have hns83_2 := NB341_325.out
             have hms83_0 := NB325_324.out
             have hms83_2 := NB325_341.out
             have hs84 : w'.cell? ⟨gb325, 7, none⟩ = some (.bool false) := (blk_cell BK325.out 7).trans rfl
             have hfs84 := blk_frozen BK325.out 7
             have hns84_0 := NB324_325.out
             have hns84_2 := NB341_325.out
             have hms84_0 := NB325_324.out
             have hms84_2 := NB325_341.out
             have hs85 : w'.cell? ⟨gb325, 8, none⟩ = some (.string (⟨#[]⟩ : ByteArray)) := (blk_cell BK325.out 8).trans rfl
             have hfs85 := blk_frozen BK325.out 8
             have hns85_0 := NB324_325.out
             have hns85_2 := NB341_325.out
             have hms85_0 := NB325_324.out
             have hms85_2 := NB325_341.out
             have hs86 : w'.cell? ⟨gb325, 9, none⟩ = some (.slice none 0 0) := (blk_cell BK325.out 9).trans rfl
             have hfs86 := blk_frozen BK325.out 9
             have hns86_0 := NB324_325.out
             have hns86_2 := NB341_325.out
             have hms86_0 := NB325_324.out
             have hms86_2 := NB325_341.out
             have hs87 : w'.cell? ⟨gb325, 10, none⟩ = some (.bool false) := (blk_cell BK325.out 10).trans rfl
             have hfs87 := blk_frozen BK325.out 10
             have hns87_0 := NB324_325.out
             have hns87_2 := NB341_325.out
             have hms87_0 := NB325_324.out
             have hms87_2 := NB325_341.out
             have hs88 : w'.cell? ⟨gb325, 11, none⟩ = some (.int .i64 0) := (blk_cell BK325.out 11).trans rfl
             have hfs88 := blk_frozen BK325.out 11
             have hns88_0 := NB324_325.out
             have hns88_2 := NB341_325.out
             have hms88_0 := NB325_324.out
             have hms88_2 := NB325_341.out
             have hs89 : w'.cell? ⟨gb325, 12, none⟩ = some (.int .i64 0) := (blk_cell BK325.out 12).trans rfl
             have hfs89 := blk_frozen BK325.out 12
             have hns89_0 := NB324_325.out
             have hns89_2 := NB341_325.out
             have hms89_0 := NB325_324.out
             have hms89_2 := NB325_341.out
             refine skip_ (w1 := ?_) (by rfl) rfl ?_ ?_
             rotate_left
             ·go_simp
              rfl
             refine hK.out _ _ ⟨v360, m8_, B10x24_, B10x7_, B10x3_, fun h0_ => absurd ((up_self b 7).symm.trans h0_) (by decide), B10x4_, B10x0_, fun h0_ => (by (with_reducible repeat (first | apply Kd.R_alloc | apply Kd.R_drewN | apply Kd.R_drew)); exact Kd.R_mono (Kd.R_far (p := ⟨gb325, 12, none⟩) (Kd.R_far (p := ⟨gb325, 11, none⟩) (Kd.R_far (p := ⟨gb325, 10, none⟩) (Kd.R_far (p := ⟨gb325, 9, none⟩) (Kd.R_far (p := ⟨gb325, 8, none⟩) (Kd.R_far (p := ⟨gb325, 7, none⟩) (Kd.R_far (p := ⟨gb325, 6, none⟩) (Kd.R_far (p := ⟨gb325, 5, none⟩) (Kd.R_far (p := ⟨gb325, 4, none⟩) (Kd.R_far (p := ⟨gb325, 3, none⟩) (Kd.R_far (p := ⟨gb325, 2, none⟩) (Kd.R_far (p := ⟨gb325, 1, none⟩) (Kd.R_far (p := ⟨gb325, 0, none⟩) (Kd.R_types (Q_HO361 h0_) BK325.out (by decide)) (fun _ hk => hk.2) (.int .i64 t344)) (fun _ hk => hk.2) (.int .i64 t345)) (fun _ hk => hk.2) (.int .i64 t346)) (fun _ hk => hk.2) (.int .i64 t347)) (fun _ hk => hk.2) (.string t348)) (fun _ hk => hk.2) (.int .i64 t349)) (fun _ hk => hk.2) (.int .i64 t350)) (fun _ hk => hk.2) (.bool t351)) (fun _ hk => hk.2) (.string t352)) (fun _ hk => hk.2) (.slice Ao14 t335.length co14)) (fun _ hk => hk.2) (.bool t353)) (fun _ hk => hk.2) (.int .i64 t354)) (fun _ hk => hk.2) (.int .i64 t355)) (fun _ hk => trivial)), fun _ => B10x5_, fun h0_ => absurd ((hoff 8 B10x10_).symm.trans h0_) (by decide)⟩
            refine steps_cons ?_ ?_
            ·rintro b a w' ⟨v360, m8_, ha, Q_HO_342009, Q_BK324, Q_BK325, Q_BK341, Q_HB, Q_HO361, Q_BK325_e7, Q_X8_⟩ hb_ hon hoff
             refine ⟨_, rfl, fun K hK => ?_⟩
             have e53 : a.tmps[53]? = some (v360) := by rw [ha]; exact putSel_on (e := (6, 53, v360)) 4 rfl rfl (hon 6 B10x10_) rfl
             replace ha := Aside0.mk ha
             have HO_342009 := Aside0.mk Q_HO_342009
             have BK324 := Aside0.mk Q_BK324
             have BK341 := Aside0.mk Q_BK341
             have HB := Aside0.mk Q_HB
             have HO361 := Aside0.mk (Q_HO361 (hon 6 B10x10_))
             have BK325 := Aside0.mk (Q_BK325_e7 (hon 7 B10x10_))
             refine value_ (w1 := w') (v := v360) (by rfl) rfl ?_ ?_
             ·go_simp
              (try simp only [i64_w])
              try rfl
             refine hK.out _ _ ⟨v360, (v360), (by rw [ha.out]; exact putSel_upk 5 hb_ rfl rfl rfl), Q_HO_342009, Q_BK324, fun h0_ => absurd ((hon 7 B10x10_).symm.trans h0_) (by decide), Q_BK341, Q_HB, Q_HO361, Q_BK325_e7, fun _ => rfl⟩
            exact steps_nil
           rintro b a w92 hall ⟨v360, m8_, ha, Q_HO_342009, Q_BK324, Q_BK325, Q_BK341, Q_HB, Q_HO361, Q_BK325_e7, Q_X8_⟩
           clear BK324 BK325 BK341 HB HO_342009
           have hb0_ := hall 0 B10x10_
           have hb2_ := hall 2 B10x10_
           have hb4_ := hall 4 B10x10_
           have hb5_ := hall 5 B10x10_
           have hb6_ := hall 6 B10x10_
           have hb7_ := hall 7 B10x10_
           have hb8_ := hall 8 B10x10_
           subst ha
           obtain rfl := Q_X8_ hb8_
           simp only [putSel, hb0_, hb2_, hb4_, hb5_, hb6_, hb7_, hb8_, if_true, Act.put, List.setIfInBounds_toArray, List.set_cons_zero, List.set_cons_succ]
           have HO_342009 := Aside0.mk Q_HO_342009
           clear Q_HO_342009
           have BK324 := Aside0.mk Q_BK324
           clear Q_BK324
           clear Q_BK325
           have BK341 := Aside0.mk Q_BK341
           clear Q_BK341
           have HB := Aside0.mk Q_HB
           clear Q_HB
           have HO361 := Aside0.mk (Q_HO361 hb6_)
           clear Q_HO361
           have BK325 := Aside0.mk (Q_BK325_e7 hb7_)
           clear Q_BK325_e7
           clear hall hb0_ hb2_ hb4_ hb5_ hb6_ hb7_ hb8_
           try go_wp2
           refine bodyPost_ret (results_ct rfl _ _ gb325 39 #[.int .i64 t344, .int .i64 t345, .int .i64 t346, .int .i64 t347, .string t348, .int .i64 t349, .int .i64 t350, .bool t351, .string t352, .slice Ao14 t335.length co14, .bool t353, .int .i64 t354, .int .i64 t355] (0, 0) _ rfl B10x6_ Try.underlying39 rfl B10x10_) rfl ?_
           exact ⟨_, _, by first | rfl | (simp [errW_none, errW_some] <;> rfl) | (simp [*, errW_none, errW_some] <;> rfl), by (with_reducible repeat (first | apply Kd.R_alloc | apply Kd.R_drewN | apply Kd.R_drew)); exact HO_342009.out, by (with_reducible repeat (first | apply Kd.R_alloc | apply Kd.R_drewN | apply Kd.R_drew)); exact HO361.out, by repeat (first | (with_reducible first | exact HB.out | apply below_alloc | apply pw_below_drewN | apply below_drew1 | refine below_set ?_ GE324.out | refine below_set ?_ GE325.out | refine below_set ?_ GE341.out) | exact HB.out)⟩
         ·replace c48 := Bool.eq_false_iff.mpr c48
          subst c48
          rw [if_neg (show ¬ (false = true) by decide)] at H
          simp only [Option.some.injEq, Prod.mk.injEq] at H
          obtain ⟨rfl, rfl, rfl, rfl, rfl, rfl, rfl, rfl, rfl, rfl, rfl, rfl, rfl, rfl⟩ := H
          have hnb93 := NB341_324.out
          have hnc93 := NB324_341.out
          have hnb94 := NB341_325.out
          have hnc94 := NB325_341.out
          obtain ⟨hcz95_0, hcz95_1, hcz95_2, hcz95_3, hcz95_4, hcz95_5, hcz95_6, hcz95_7, hcz95_8, hcz95_9, hcz95_10, hcz95_11, hcz95_12⟩ := cl13 BK341.out
          obtain ⟨hfz95_0, hfz95_1, hfz95_2, hfz95_3, hfz95_4, hfz95_5, hfz95_6, hfz95_7, hfz95_8, hfz95_9, hfz95_10, hfz95_11, hfz95_12⟩ := fr13 BK341.out
          have hnb96 := NB325_324.out
          have hnc96 := NB324_325.out
          obtain ⟨hcz97_0, hcz97_1, hcz97_2, hcz97_3, hcz97_4, hcz97_5, hcz97_6, hcz97_7, hcz97_8, hcz97_9, hcz97_10, hcz97_11, hcz97_12⟩ := cl13 BK325.out
          obtain ⟨hfz97_0, hfz97_1, hfz97_2, hfz97_3, hfz97_4, hfz97_5, hfz97_6, hfz97_7, hfz97_8, hfz97_9, hfz97_10, hfz97_11, hfz97_12⟩ := fr13 BK325.out
          go_wp2_with (first | ((with_reducible refine gate_store (t := 39) (p := 4) rfl ?_); refine store_event (t := 39) (p := 4) (v := ?vo_w98) (w1 := (((((((((((((wc.setCell ⟨gb325, 0, none⟩ (.int .i64 t326)).setCell ⟨gb325, 1, none⟩ (.int .i64 t327)).setCell ⟨gb325, 2, none⟩ (.int .i64 t328)).setCell ⟨gb325, 3, none⟩ (.int .i64 t329)).setCell ⟨gb325, 4, none⟩ (.string t330)).setCell ⟨gb325, 5, none⟩ (.int .i64 t331)).setCell ⟨gb325, 6, none⟩ (.int .i64 t332)).setCell ⟨gb325, 7, none⟩ (.bool t333)).setCell ⟨gb325, 8, none⟩ (.string t334)).setCell ⟨gb325, 9, none⟩ (.slice Ao14 t335.length co14)).setCell ⟨gb325, 10, none⟩ (.bool t338)).setCell ⟨gb325, 11, none⟩ (.int .i64 t339)).setCell ⟨gb325, 12, none⟩ (.int .i64 t340))) ?hg ?ho ?hn ?hr ?_; (case ho => rfl); (case hg => rfl); (case hn => rfl); (case hr => exact B10x15_); intro w98 hw; replace HO_342009 : Aside0 (Kd.R k143 143 w98 w.heap.size (fun _ => True) (.slice Ao14 t335.length co14) t335) := ⟨B10x1_⟩; replace BK324 : Aside0 (w98.heap[gb324]? = some (.cells #[.int .i64 a0_0, .int .i64 a0_1, .int .i64 a0_2, .int .i64 a0_3, .string a0_4, .int .i64 a0_5, .int .i64 a0_6, .bool a0_7, .string a0_8, .slice A0_9 l0_9.length c0_9, .bool a0_10, .int .i64 a0_11, .int .i64 a0_12] 39 (0, 0))) := ⟨B10x19_⟩; replace BK325 : Aside0 (w98.heap[gb325]? = some (.cells #[.int .i64 t326, .int .i64 t327, .int .i64 t328, .int .i64 t329, .string t330, .int .i64 t331, .int .i64 t332, .bool t333, .string t334, .slice Ao14 t335.length co14, .bool t338, .int .i64 t339, .int .i64 t340] 39 (0, 0))) := ⟨B10x21_⟩; replace BK341 : Aside0 (w98.heap[gb341]? = some (.cells #[.int .i64 t326, .int .i64 t327, .int .i64 t328, .int .i64 t329, .string t330, .int .i64 t331, .int .i64 t332, .bool t333, .string t334, .slice Ao14 t335.length co14, .bool t338, .int .i64 t339, .int .i64 t340] 39 (0, 0))) := ⟨B10x20_⟩; replace HB : Aside0 (Below w.heap.size w w98) := ⟨B10x17_⟩; clear hw))
          refine bodyPost_ret (results_ct rfl _ _ gb325 39 #[.int .i64 t326, .int .i64 t327, .int .i64 t328, .int .i64 t329, .string t330, .int .i64 t331, .int .i64 t332, .bool t333, .string t334, .slice Ao14 t335.length co14, .bool t338, .int .i64 t339, .int .i64 t340] (0, 0) _ rfl B10x6_ Try.underlying39 rfl B10x10_) rfl ?_
          exact ⟨_, _, by first | rfl | (simp [errW_none, errW_some] <;> rfl) | (simp [*, errW_none, errW_some] <;> rfl), by (with_reducible repeat (first | apply Kd.R_alloc | apply Kd.R_drewN | apply Kd.R_drew)); exact HO_342009.out, by first | exact Kd.R_nil _ _ _ _ _ | exact Kd.N_nil _ _ _ _ _ | exact Kd.V_nil _ _ _ _ _ | exact Kd.Q_nil _ _ _ _ _ | exact Kd.S_nil _ _ _ _ _, by repeat (first | (with_reducible first | exact HB.out | apply below_alloc | apply pw_below_drewN | apply below_drew1 | refine below_set ?_ GE324.out | refine below_set ?_ GE325.out | refine below_set ?_ GE341.out) | exact HB.out)⟩
        ·replace c47 := Bool.eq_false_iff.mpr c47
         subst c47
         rw [if_neg (show ¬ (false = true) by decide)] at H
         by_cases c99 : a0_0 = 4
         ·rw [if_pos c99] at H
          have c99b0 := beq_iff_eq.mpr c99
          have c99b1 := bne_eq_false_iff_eq.mpr c99
          clear c99
          replace H := bsi H
          obtain ⟨⟨t362, t365, t366, t367, t368, t369, t370, t371, t372, t373, t374, t375, t376⟩, A100, H⟩ := H
          (try dsimp only at H)
          simp only [Option.some.injEq, Prod.mk.injEq] at H
          obtain ⟨rfl, rfl, rfl, rfl, rfl, rfl, rfl, rfl, rfl, rfl, rfl, rfl, rfl, rfl⟩ := H
          go_wp2_with (first | ((with_reducible refine gate_callee (f := 76) rfl ?_); refine goesL_ (some 58) rfl rfl Try.func76 B10x10_ rfl #[.pointer (some ⟨gb341, 0, none⟩), .int .i64 a1, .bool x7_33] rfl B10x11_ ?_; (with_reducible refine (impl_Stream_pushOpen.calls kj41 gb341 t326 t327 t328 t329 t330 t331 t332 t333 t334 t335 (.slice Ao14 t335.length co14) t338 t339 t340 a1 x7_33 t362 t365 t366 t367 t368 t369 t370 t371 t372 t373 t374 t375 t376 w _ ?side1 ?side2 A100.out).mono ?_); (case side1 => exact B10x22_); (case side2 => exact B10x0_); rintro e w101 ⟨v363, rfl, ho0, hi, hb, hk⟩; refine ⟨_, rfl, ?_⟩; replace HO_342009 := Aside0.mk (Kd.R_mono (Kd.R_keep (Kd.R_types B10x8_ B10x2_ (by decide)) hk (fun _ h => h.2)) (fun _ h => h.1)); replace BK324 := Aside0.mk (kb hk BK324.out NB324_341.out); replace BK325 := Aside0.mk (kb hk BK325.out NB325_341.out); have HO364 := Aside0.mk (Kd.R_lower ho0 (below_size (by repeat (first | (with_reducible first | exact HB.out | apply below_alloc | apply pw_below_drewN | apply below_drew1 | refine below_set ?_ (IsS39.ge HI341.out) | refine below_set ?_ GE324.out | refine below_set ?_ GE325.out) | exact HB.out)))); replace HB := Aside0.mk (hb); replace BK341 := Aside0.mk (hi.1); (try clear hb hk hi); (try clear ho0); have hnb102 := NB341_324.out; have hnc102 := NB324_341.out; have hnb103 := NB341_325.out; have hnc103 := NB325_341.out; obtain ⟨hcz104_0, hcz104_1, hcz104_2, hcz104_3, hcz104_4, hcz104_5, hcz104_6, hcz104_7, hcz104_8, hcz104_9, hcz104_10, hcz104_11, hcz104_12⟩ := cl13 BK341.out; obtain ⟨hfz104_0, hfz104_1, hfz104_2, hfz104_3, hfz104_4, hfz104_5, hfz104_6, hfz104_7, hfz104_8, hfz104_9, hfz104_10, hfz104_11, hfz104_12⟩ := fr13 BK341.out; have hnb105 := NB325_324.out; have hnc105 := NB324_325.out; obtain ⟨hcz106_0, hcz106_1, hcz106_2, hcz106_3, hcz106_4, hcz106_5, hcz106_6, hcz106_7, hcz106_8, hcz106_9, hcz106_10, hcz106_11, hcz106_12⟩ := cl13 BK325.out; obtain ⟨hfz106_0, hfz106_1, hfz106_2, hfz106_3, hfz106_4, hfz106_5, hfz106_6, hfz106_7, hfz106_8, hfz106_9, hfz106_10, hfz106_11, hfz106_12⟩ := fr13 BK325.out) | ((with_reducible refine gate_store (t := 39) (p := 4) rfl ?_); refine store_event (t := 39) (p := 4) (v := ?vo_w107) (w1 := (((((((((((((w101.setCell ⟨gb325, 0, none⟩ (.int .i64 t365)).setCell ⟨gb325, 1, none⟩ (.int .i64 t366)).setCell ⟨gb325, 2, none⟩ (.int .i64 t367)).setCell ⟨gb325, 3, none⟩ (.int .i64 t368)).setCell ⟨gb325, 4, none⟩ (.string t369)).setCell ⟨gb325, 5, none⟩ (.int .i64 t370)).setCell ⟨gb325, 6, none⟩ (.int .i64 t371)).setCell ⟨gb325, 7, none⟩ (.bool t372)).setCell ⟨gb325, 8, none⟩ (.string t373)).setCell ⟨gb325, 9, none⟩ (.slice Ao14 t335.length co14)).setCell ⟨gb325, 10, none⟩ (.bool t374)).setCell ⟨gb325, 11, none⟩ (.int .i64 t375)).setCell ⟨gb325, 12, none⟩ (.int .i64 t376))) ?hg ?ho ?hn ?hr ?_; (case ho => rfl); (case hg => rfl); (case hn => rfl); (case hr => exact B10x15_); intro w107 hw; replace HO_342009 : Aside0 (Kd.R k143 143 w107 w.heap.size (fun _ => True) (.slice Ao14 t335.length co14) t335) := ⟨(by rw [hw]; exact (by (with_reducible repeat (first | apply Kd.R_alloc | apply Kd.R_drewN | apply Kd.R_drew)); exact Kd.R_mono (Kd.R_far (p := ⟨gb325, 12, none⟩) (Kd.R_far (p := ⟨gb325, 11, none⟩) (Kd.R_far (p := ⟨gb325, 10, none⟩) (Kd.R_far (p := ⟨gb325, 9, none⟩) (Kd.R_far (p := ⟨gb325, 8, none⟩) (Kd.R_far (p := ⟨gb325, 7, none⟩) (Kd.R_far (p := ⟨gb325, 6, none⟩) (Kd.R_far (p := ⟨gb325, 5, none⟩) (Kd.R_far (p := ⟨gb325, 4, none⟩) (Kd.R_far (p := ⟨gb325, 3, none⟩) (Kd.R_far (p := ⟨gb325, 2, none⟩) (Kd.R_far (p := ⟨gb325, 1, none⟩) (Kd.R_far (p := ⟨gb325, 0, none⟩) (Kd.R_types HO_342009.out BK325.out (by decide)) (fun _ hk => hk.2) (.int .i64 t365)) (fun _ hk => hk.2) (.int .i64 t366)) (fun _ hk => hk.2) (.int .i64 t367)) (fun _ hk => hk.2) (.int .i64 t368)) (fun _ hk => hk.2) (.string t369)) (fun _ hk => hk.2) (.int .i64 t370)) (fun _ hk => hk.2) (.int .i64 t371)) (fun _ hk => hk.2) (.bool t372)) (fun _ hk => hk.2) (.string t373)) (fun _ hk => hk.2) (.slice Ao14 t335.length co14)) (fun _ hk => hk.2) (.bool t374)) (fun _ hk => hk.2) (.int .i64 t375)) (fun _ hk => hk.2) (.int .i64 t376)) (fun _ hk => trivial)))⟩; replace HO364 : Aside0 (Kd.R k28 28 w107 w.heap.size (fun _ => True) v363 t362) := ⟨(by rw [hw]; exact (by (with_reducible repeat (first | apply Kd.R_alloc | apply Kd.R_drewN | apply Kd.R_drew)); exact Kd.R_mono (Kd.R_far (p := ⟨gb325, 12, none⟩) (Kd.R_far (p := ⟨gb325, 11, none⟩) (Kd.R_far (p := ⟨gb325, 10, none⟩) (Kd.R_far (p := ⟨gb325, 9, none⟩) (Kd.R_far (p := ⟨gb325, 8, none⟩) (Kd.R_far (p := ⟨gb325, 7, none⟩) (Kd.R_far (p := ⟨gb325, 6, none⟩) (Kd.R_far (p := ⟨gb325, 5, none⟩) (Kd.R_far (p := ⟨gb325, 4, none⟩) (Kd.R_far (p := ⟨gb325, 3, none⟩) (Kd.R_far (p := ⟨gb325, 2, none⟩) (Kd.R_far (p := ⟨gb325, 1, none⟩) (Kd.R_far (p := ⟨gb325, 0, none⟩) (Kd.R_types HO364.out BK325.out (by decide)) (fun _ hk => hk.2) (.int .i64 t365)) (fun _ hk => hk.2) (.int .i64 t366)) (fun _ hk => hk.2) (.int .i64 t367)) (fun _ hk => hk.2) (.int .i64 t368)) (fun _ hk => hk.2) (.string t369)) (fun _ hk => hk.2) (.int .i64 t370)) (fun _ hk => hk.2) (.int .i64 t371)) (fun _ hk => hk.2) (.bool t372)) (fun _ hk => hk.2) (.string t373)) (fun _ hk => hk.2) (.slice Ao14 t335.length co14)) (fun _ hk => hk.2) (.bool t374)) (fun _ hk => hk.2) (.int .i64 t375)) (fun _ hk => hk.2) (.int .i64 t376)) (fun _ hk => trivial)))⟩; replace BK324 : Aside0 (w107.heap[gb324]? = some (.cells #[.int .i64 a0_0, .int .i64 a0_1, .int .i64 a0_2, .int .i64 a0_3, .string a0_4, .int .i64 a0_5, .int .i64 a0_6, .bool a0_7, .string a0_8, .slice A0_9 l0_9.length c0_9, .bool a0_10, .int .i64 a0_11, .int .i64 a0_12] 39 (0, 0))) := ⟨B10x19_⟩; replace BK325 : Aside0 (w107.heap[gb325]? = some (.cells #[.int .i64 t365, .int .i64 t366, .int .i64 t367, .int .i64 t368, .string t369, .int .i64 t370, .int .i64 t371, .bool t372, .string t373, .slice Ao14 t335.length co14, .bool t374, .int .i64 t375, .int .i64 t376] 39 (0, 0))) := ⟨B10x21_⟩; replace BK341 : Aside0 (w107.heap[gb341]? = some (.cells #[.int .i64 t365, .int .i64 t366, .int .i64 t367, .int .i64 t368, .string t369, .int .i64 t370, .int .i64 t371, .bool t372, .string t373, .slice Ao14 t335.length co14, .bool t374, .int .i64 t375, .int .i64 t376] 39 (0, 0))) := ⟨B10x20_⟩; replace HB : Aside0 (Below w.heap.size w w107) := ⟨B10x17_⟩; clear hw))
          refine bodyPost_ret (results_ct rfl _ _ gb325 39 #[.int .i64 t365, .int .i64 t366, .int .i64 t367, .int .i64 t368, .string t369, .int .i64 t370, .int .i64 t371, .bool t372, .string t373, .slice Ao14 t335.length co14, .bool t374, .int .i64 t375, .int .i64 t376] (0, 0) _ rfl B10x6_ Try.underlying39 rfl B10x10_) rfl ?_
          exact ⟨_, _, by first | rfl | (simp [errW_none, errW_some] <;> rfl) | (simp [*, errW_none, errW_some] <;> rfl), by (with_reducible repeat (first | apply Kd.R_alloc | apply Kd.R_drewN | apply Kd.R_drew)); exact HO_342009.out, by (with_reducible repeat (first | apply Kd.R_alloc | apply Kd.R_drewN | apply Kd.R_drew)); exact HO364.out, by repeat (first | (with_reducible first | exact HB.out | apply below_alloc | apply pw_below_drewN | apply below_drew1 | refine below_set ?_ GE324.out | refine below_set ?_ GE325.out | refine below_set ?_ GE341.out) | exact HB.out)⟩
         ·rw [if_neg c99] at H
          have c99b0 := beq_eq_false_iff_ne.mpr c99
          have c99b1 := bne_iff_ne.mpr c99
          simp only [Option.some.injEq, Prod.mk.injEq] at H
          obtain ⟨rfl, rfl, rfl, rfl, rfl, rfl, rfl, rfl, rfl, rfl, rfl, rfl, rfl, rfl⟩ := H
          have hnb108 := NB341_324.out
          have hnc108 := NB324_341.out
          have hnb109 := NB341_325.out
          have hnc109 := NB325_341.out
          obtain ⟨hcz110_0, hcz110_1, hcz110_2, hcz110_3, hcz110_4, hcz110_5, hcz110_6, hcz110_7, hcz110_8, hcz110_9, hcz110_10, hcz110_11, hcz110_12⟩ := cl13 BK341.out
          obtain ⟨hfz110_0, hfz110_1, hfz110_2, hfz110_3, hfz110_4, hfz110_5, hfz110_6, hfz110_7, hfz110_8, hfz110_9, hfz110_10, hfz110_11, hfz110_12⟩ := fr13 BK341.out
          have hnb111 := NB325_324.out
          have hnc111 := NB324_325.out
          obtain ⟨hcz112_0, hcz112_1, hcz112_2, hcz112_3, hcz112_4, hcz112_5, hcz112_6, hcz112_7, hcz112_8, hcz112_9, hcz112_10, hcz112_11, hcz112_12⟩ := cl13 BK325.out
          obtain ⟨hfz112_0, hfz112_1, hfz112_2, hfz112_3, hfz112_4, hfz112_5, hfz112_6, hfz112_7, hfz112_8, hfz112_9, hfz112_10, hfz112_11, hfz112_12⟩ := fr13 BK325.out
          go_wp2_with (first | ((with_reducible refine gate_store (t := 39) (p := 4) rfl ?_); refine store_event (t := 39) (p := 4) (v := ?vo_w113) (w1 := (((((((((((((wc.setCell ⟨gb325, 0, none⟩ (.int .i64 t326)).setCell ⟨gb325, 1, none⟩ (.int .i64 t327)).setCell ⟨gb325, 2, none⟩ (.int .i64 t328)).setCell ⟨gb325, 3, none⟩ (.int .i64 t329)).setCell ⟨gb325, 4, none⟩ (.string t330)).setCell ⟨gb325, 5, none⟩ (.int .i64 t331)).setCell ⟨gb325, 6, none⟩ (.int .i64 t332)).setCell ⟨gb325, 7, none⟩ (.bool t333)).setCell ⟨gb325, 8, none⟩ (.string t334)).setCell ⟨gb325, 9, none⟩ (.slice Ao14 t335.length co14)).setCell ⟨gb325, 10, none⟩ (.bool t338)).setCell ⟨gb325, 11, none⟩ (.int .i64 t339)).setCell ⟨gb325, 12, none⟩ (.int .i64 t340))) ?hg ?ho ?hn ?hr ?_; (case ho => rfl); (case hg => rfl); (case hn => rfl); (case hr => exact B10x15_); intro w113 hw; replace HO_342009 : Aside0 (Kd.R k143 143 w113 w.heap.size (fun _ => True) (.slice Ao14 t335.length co14) t335) := ⟨B10x1_⟩; replace BK324 : Aside0 (w113.heap[gb324]? = some (.cells #[.int .i64 a0_0, .int .i64 a0_1, .int .i64 a0_2, .int .i64 a0_3, .string a0_4, .int .i64 a0_5, .int .i64 a0_6, .bool a0_7, .string a0_8, .slice A0_9 l0_9.length c0_9, .bool a0_10, .int .i64 a0_11, .int .i64 a0_12] 39 (0, 0))) := ⟨B10x19_⟩; replace BK325 : Aside0 (w113.heap[gb325]? = some (.cells #[.int .i64 t326, .int .i64 t327, .int .i64 t328, .int .i64 t329, .string t330, .int .i64 t331, .int .i64 t332, .bool t333, .string t334, .slice Ao14 t335.length co14, .bool t338, .int .i64 t339, .int .i64 t340] 39 (0, 0))) := ⟨B10x21_⟩; replace BK341 : Aside0 (w113.heap[gb341]? = some (.cells #[.int .i64 t326, .int .i64 t327, .int .i64 t328, .int .i64 t329, .string t330, .int .i64 t331, .int .i64 t332, .bool t333, .string t334, .slice Ao14 t335.length co14, .bool t338, .int .i64 t339, .int .i64 t340] 39 (0, 0))) := ⟨B10x20_⟩; replace HB : Aside0 (Below w.heap.size w w113) := ⟨B10x17_⟩; clear hw))
          refine bodyPost_ret (results_ct rfl _ _ gb325 39 #[.int .i64 t326, .int .i64 t327, .int .i64 t328, .int .i64 t329, .string t330, .int .i64 t331, .int .i64 t332, .bool t333, .string t334, .slice Ao14 t335.length co14, .bool t338, .int .i64 t339, .int .i64 t340] (0, 0) _ rfl B10x6_ Try.underlying39 rfl B10x10_) rfl ?_
          exact ⟨_, _, by first | rfl | (simp [errW_none, errW_some] <;> rfl) | (simp [*, errW_none, errW_some] <;> rfl), by (with_reducible repeat (first | apply Kd.R_alloc | apply Kd.R_drewN | apply Kd.R_drew)); exact HO_342009.out, by first | exact Kd.R_nil _ _ _ _ _ | exact Kd.N_nil _ _ _ _ _ | exact Kd.V_nil _ _ _ _ _ | exact Kd.Q_nil _ _ _ _ _ | exact Kd.S_nil _ _ _ _ _, by repeat (first | (with_reducible first | exact HB.out | apply below_alloc | apply pw_below_drewN | apply below_drew1 | refine below_set ?_ GE324.out | refine below_set ?_ GE325.out | refine below_set ?_ GE341.out) | exact HB.out)⟩

end Go.Proofs.Ytmknnoeggkgkgaa.QFnExactPush
