/- Functions that a law reaches, as functions of Lean, and the walks that show that the calls come to their answers: written by a program of this project out of the translation. No condition. -/
import Derived.Test.YtmknnoeggkgkgaaQFnExactPushx0
import Derived.Test.YtmknnoeggkgkgaaQFnExactPushx3
import Derived.Test.YtmknnoeggkgkgaaQFnExactPushx8
import Derived.Test.YtmknnoeggkgkgaaVFnExactPushShort4
import Derived.Test.YtmknnoeggkgkgaaVFnExactPushhort3
import Derived.Test.YtmknnoeggkgkgaaVFnExactPushShort2
import Derived.Test.YtmknnoeggkgkgaaVFnExactPushShort
namespace Go.Proofs.Ytmknnoeggkgkgaa.QFnExactPush
open Go.RowKit Go.Proofs.YtmknnoeggkgkgaaW.PrintWords Go.Proofs.YtmknnoeggkgkgaaW.PrintLast Go.Proofs.YtmknnoeggkgkgaaW.PrintMore Go.Proofs.Ytmknnoeggkgkgaa.Short
attribute [local go_sem] max2_int min2_int max_two min_two max_three min_three max_four min_four   -- for this text's walks alone
set_option linter.unusedVariables false
set_option linter.unusedSimpArgs false

theorem B9x0_ {p : Prop} (h : p := by repeat (first | (with_reducible first | exact HI0.out | apply IsS39.alloc | apply IsS39.drewN | apply IsS39.drew | apply IsS39.set_0 | apply IsS39.set_1 | apply IsS39.set_2 | apply IsS39.set_3 | apply IsS39.set_4 | apply IsS39.set_5 | apply IsS39.set_6 | apply IsS39.set_7 | apply IsS39.set_8 | apply IsS39.set_10 | apply IsS39.set_11 | apply IsS39.set_12) | exact HI0.out)) : p := h
theorem B9x1_ {p : Prop} (h : p := by repeat (first | (with_reducible first | exact HK.out | apply KeepBut.set_ | apply keep_drewN | apply keep_drew | apply keep_alloc) | exact HK.out)) : p := h
theorem B9x2_ {p : Prop} (h : p := by repeat (first | (with_reducible first | exact HB.out | apply below_alloc | apply pw_below_drewN | apply below_drew1 | refine below_set ?_ (IsS39.ge HI0.out)) | exact HB.out)) : p := h
theorem B9x3_ {p : Prop} (h : p := by (with_reducible repeat (first | apply Kd.R_alloc | apply Kd.R_drewN | apply Kd.R_drew)); exact HO_7.out) : p := h
theorem B9x4_ {p : Prop} (h : p := by (try simp only [List.map_toArray, List.map_cons, List.map_nil]); first | done | rfl | (simp only [List.length_drop, List.length_take]; rfl)) : p := h
theorem B9x5_ {p : Prop} (h : p := by kernel_rfl) : p := h
theorem B9x6_ {p : Prop} (h : p := by (with_reducible repeat (first | apply Kd.R_alloc | apply Kd.R_drewN | apply Kd.R_drew)); exact HO298.out) : p := h
theorem B9x7_ {p : Prop} (h : p := by exact (keep_size (w := w) (g := g) (row := none) B9x1_)) : p := h
theorem B9x8_ {p : Prop} (h : p := by have := HJ3.out; have := HJ10.out; have := HJ15.out; have := HJ32.out; first | omega | exact Nat.le_refl _) : p := h
theorem B9x9_ {p : Prop} (h : p := by have := HJ3.out; first | omega | exact Nat.le_refl _) : p := h
theorem B9x10_ {p : Prop} (h : p := by have := HJ3.out; have := HJ10.out; have := HJ15.out; first | omega | exact Nat.le_refl _) : p := h
theorem B9x11_ {p : Prop} (h : p := by have := HJ3.out; have := HJ10.out; have := HK3.out; first | omega | exact Nat.le_refl _) : p := h
theorem B9x12_ {p : Prop} (h : p := by first | omega | exact Nat.le_refl _) : p := h
/-! ### impl_Stream_pushOpen: function 76 -/
mutual
def impl_Stream_pushOpen.j0 : Nat → Int → List (S28) → Bool → Int → Int → Int → Int → ByteArray → Int → Int → Bool → ByteArray → List (S143) → Bool → Int → Int → Option ((List (S28)) × Int × Int × Int × Int × ByteArray × Int × Int × Bool × ByteArray × Bool × Int × Int)
 | 0, _, _, _, _, _, _, _, _, _, _, _, _, _, _, _, _ => none
 | k + 1, x1, x7, x24, x1000, x1001, x1002, x1003, x1004, x1005, x1006, x1007, x1008, x1009, x1010, x1011, x1012 => if x24 = true then (if x1006 = 2 then (impl_Stream_pushOpen.j1 k x1 x7 x1000 x1001 x1002 x1003 x1004 0 1 x1007 x1008 x1009 x1010 x1011 x1012) else (impl_Stream_pushOpen.j1 k x1 x7 x1000 x1001 x1002 x1003 x1004 0 x1006 x1007 x1008 x1009 x1010 x1011 x1012)) else (impl_Stream_pushOpen.j1 k x1 x7 x1000 x1001 x1002 x1003 x1004 x1005 x1006 x1007 x1008 x1009 x1010 x1011 x1012)
def impl_Stream_pushOpen.j1 : Nat → Int → List (S28) → Int → Int → Int → Int → ByteArray → Int → Int → Bool → ByteArray → List (S143) → Bool → Int → Int → Option ((List (S28)) × Int × Int × Int × Int × ByteArray × Int × Int × Bool × ByteArray × Bool × Int × Int)
 | 0, _, _, _, _, _, _, _, _, _, _, _, _, _, _, _ => none
 | k + 1, x1, x7, x1000, x1001, x1002, x1003, x1004, x1005, x1006, x1007, x1008, x1009, x1010, x1011, x1012 => impl_Stream_pushOpen.l0 k x1 x7 x1000 x1001 x1002 x1003 x1004 x1005 x1006 x1007 x1008 x1009 x1010 x1011 x1012
def impl_Stream_pushOpen.j3 : Nat → Int → List (S28) → Int → Int → Int → Int → ByteArray → Int → Int → Bool → ByteArray → List (S143) → Bool → Int → Int → Option ((List (S28)) × Int × Int × Int × Int × ByteArray × Int × Int × Bool × ByteArray × Bool × Int × Int)
 | 0, _, _, _, _, _, _, _, _, _, _, _, _, _, _, _ => none
 | k + 1, x1, x7, x1000, x1001, x1002, x1003, x1004, x1005, x1006, x1007, x1008, x1009, x1010, x1011, x1012 => if x1006 = 1 then (impl_Stream_pushOpen.j4 k x1 x7 (x1005 == (x1004.size : Int)) x1000 x1001 x1002 x1003 x1004 x1005 x1006 x1007 x1008 x1009 x1010 x1011 x1012) else (impl_Stream_pushOpen.j4 k x1 x7 false x1000 x1001 x1002 x1003 x1004 x1005 x1006 x1007 x1008 x1009 x1010 x1011 x1012)
def impl_Stream_pushOpen.j4 : Nat → Int → List (S28) → Bool → Int → Int → Int → Int → ByteArray → Int → Int → Bool → ByteArray → List (S143) → Bool → Int → Int → Option ((List (S28)) × Int × Int × Int × Int × ByteArray × Int × Int × Bool × ByteArray × Bool × Int × Int)
 | 0, _, _, _, _, _, _, _, _, _, _, _, _, _, _, _, _ => none
 | k + 1, x1, x7, x125, x1000, x1001, x1002, x1003, x1004, x1005, x1006, x1007, x1008, x1009, x1010, x1011, x1012 => if x125 = true then ((impl_AddNum.f x1002 x1005).bind fun t303 => (if x7.length < 3518437208883 then (impl_Stream_pushOpen.j5 k x1 (x7 ++ [(⟨t303, x1003, 6, (⟨#[]⟩ : ByteArray)⟩ : S28)]) x1000 x1001 x1002 x1003 x1004 x1005 2 x1007 x1008 x1009 x1010 x1011 x1012) else (none))) else (impl_Stream_pushOpen.j5 k x1 x7 x1000 x1001 x1002 x1003 x1004 x1005 x1006 x1007 x1008 x1009 x1010 x1011 x1012)
def impl_Stream_pushOpen.j5 : Nat → Int → List (S28) → Int → Int → Int → Int → ByteArray → Int → Int → Bool → ByteArray → List (S143) → Bool → Int → Int → Option ((List (S28)) × Int × Int × Int × Int × ByteArray × Int × Int × Bool × ByteArray × Bool × Int × Int)
 | 0, _, _, _, _, _, _, _, _, _, _, _, _, _, _, _ => none
 | k + 1, x1, x7, x1000, x1001, x1002, x1003, x1004, x1005, x1006, x1007, x1008, x1009, x1010, x1011, x1012 => if (x7.length : Int) > 0 then ((impl_Stream_again.f x1000 x1001 x1002 x1003 x1004 x1005 x1006 x1007 x1008 x1009 x1010 x1011 x1012 x1).bind fun bt307 => (some (x7, bt307.1, bt307.2.1, bt307.2.2.1, bt307.2.2.2.1, bt307.2.2.2.2.1, bt307.2.2.2.2.2.1, bt307.2.2.2.2.2.2.1, bt307.2.2.2.2.2.2.2.1, bt307.2.2.2.2.2.2.2.2.1, false, bt307.2.2.2.2.2.2.2.2.2.2.1, bt307.2.2.2.2.2.2.2.2.2.2.2))) else (if x1010 = true then ((impl_flag.f (x1006 == 2)).bind fun t319 => ((impl_AddNum.f x1002 (wrap64 (x1005 + t319))).bind fun t320 => (if x7.length < 3518437208883 then (some ((x7 ++ [(⟨t320, x1003, 2, (⟨#[]⟩ : ByteArray)⟩ : S28)]), x1000, x1001, x1002, x1003, x1004, x1005, x1006, x1007, x1008, false, x1011, x1012)) else (none)))) else (some (x7, x1000, x1001, x1002, x1003, x1004, x1005, x1006, x1007, x1008, x1010, x1011, x1012)))
def impl_Stream_pushOpen.l0 : Nat → Int → List (S28) → Int → Int → Int → Int → ByteArray → Int → Int → Bool → ByteArray → List (S143) → Bool → Int → Int → Option ((List (S28)) × Int × Int × Int × Int × ByteArray × Int × Int × Bool × ByteArray × Bool × Int × Int)
 | 0, _, _, _, _, _, _, _, _, _, _, _, _, _, _, _ => none
 | k + 1, x1, x7, x1000, x1001, x1002, x1003, x1004, x1005, x1006, x1007, x1008, x1009, x1010, x1011, x1012 => if x1005 < (x1004.size : Int) then (if x1005 < 24 then ((impl_AddNum.f x1002 x1005).bind fun t299 => (if 0 ≤ x1005 then (if x1005 ≤ (wrap64 (x1005 + (mn (mn 8 (wrap64 ((x1004.size : Int) - x1005))) (wrap64 (24 - x1005))))) then (if (wrap64 (x1005 + (mn (mn 8 (wrap64 ((x1004.size : Int) - x1005))) (wrap64 (24 - x1005))))) ≤ (x1004.size : Int) then (if x7.length < 3518437208883 then (impl_Stream_pushOpen.l0 k x1 (x7 ++ [(⟨t299, x1003, 2, x1004.extract (x1005 : Int).toNat ((wrap64 (x1005 + (mn (mn 8 (wrap64 ((x1004.size : Int) - x1005))) (wrap64 (24 - x1005))))) : Int).toNat⟩ : S28)]) x1000 x1001 x1002 x1003 x1004 (wrap64 (x1005 + (mn (mn 8 (wrap64 ((x1004.size : Int) - x1005))) (wrap64 (24 - x1005))))) x1006 x1007 x1008 x1009 x1010 x1011 x1012) else (none)) else (none)) else (none)) else (none))) else (impl_Stream_pushOpen.j3 k x1 x7 x1000 x1001 x1002 x1003 x1004 x1005 x1006 x1007 x1008 x1009 x1010 x1011 x1012)) else (impl_Stream_pushOpen.j3 k x1 x7 x1000 x1001 x1002 x1003 x1004 x1005 x1006 x1007 x1008 x1009 x1010 x1011 x1012)
end
def impl_Stream_pushOpen.f (k : Nat) (s0_0 : Int) (s0_1 : Int) (s0_2 : Int) (s0_3 : Int) (s0_4 : ByteArray) (s0_5 : Int) (s0_6 : Int) (s0_7 : Bool) (s0_8 : ByteArray) (s0_9 : List (S143)) (s0_10 : Bool) (s0_11 : Int) (s0_12 : Int) (a1 : Int) (a2 : Bool) : Option ((List (S28)) × Int × Int × Int × Int × ByteArray × Int × Int × Bool × ByteArray × Bool × Int × Int) := (some (([] : List (S28)) : List (S28))).bind fun y296 => (if a2 = true then (if s0_5 > 0 then (impl_Stream_pushOpen.j0 k a1 y296 true s0_0 s0_1 s0_2 s0_3 s0_4 s0_5 s0_6 s0_7 s0_8 s0_9 s0_10 s0_11 s0_12) else (impl_Stream_pushOpen.j0 k a1 y296 (s0_6 == 2) s0_0 s0_1 s0_2 s0_3 s0_4 s0_5 s0_6 s0_7 s0_8 s0_9 s0_10 s0_11 s0_12)) else (impl_Stream_pushOpen.j0 k a1 y296 false s0_0 s0_1 s0_2 s0_3 s0_4 s0_5 s0_6 s0_7 s0_8 s0_9 s0_10 s0_11 s0_12))
theorem impl_Stream_pushOpen.mono_l : ∀ k, (∀ y0 y1 y2 y3 y4 y5 y6 y7 y8 y9 y10 y11 y12 y13 y14 y15, LeO (impl_Stream_pushOpen.j0 k y0 y1 y2 y3 y4 y5 y6 y7 y8 y9 y10 y11 y12 y13 y14 y15) (impl_Stream_pushOpen.j0 (k + 1) y0 y1 y2 y3 y4 y5 y6 y7 y8 y9 y10 y11 y12 y13 y14 y15)) ∧ (∀ y0 y1 y2 y3 y4 y5 y6 y7 y8 y9 y10 y11 y12 y13 y14, LeO (impl_Stream_pushOpen.j1 k y0 y1 y2 y3 y4 y5 y6 y7 y8 y9 y10 y11 y12 y13 y14) (impl_Stream_pushOpen.j1 (k + 1) y0 y1 y2 y3 y4 y5 y6 y7 y8 y9 y10 y11 y12 y13 y14)) ∧ (∀ y0 y1 y2 y3 y4 y5 y6 y7 y8 y9 y10 y11 y12 y13 y14, LeO (impl_Stream_pushOpen.j3 k y0 y1 y2 y3 y4 y5 y6 y7 y8 y9 y10 y11 y12 y13 y14) (impl_Stream_pushOpen.j3 (k + 1) y0 y1 y2 y3 y4 y5 y6 y7 y8 y9 y10 y11 y12 y13 y14)) ∧ (∀ y0 y1 y2 y3 y4 y5 y6 y7 y8 y9 y10 y11 y12 y13 y14 y15, LeO (impl_Stream_pushOpen.j4 k y0 y1 y2 y3 y4 y5 y6 y7 y8 y9 y10 y11 y12 y13 y14 y15) (impl_Stream_pushOpen.j4 (k + 1) y0 y1 y2 y3 y4 y5 y6 y7 y8 y9 y10 y11 y12 y13 y14 y15)) ∧ (∀ y0 y1 y2 y3 y4 y5 y6 y7 y8 y9 y10 y11 y12 y13 y14, LeO (impl_Stream_pushOpen.j5 k y0 y1 y2 y3 y4 y5 y6 y7 y8 y9 y10 y11 y12 y13 y14) (impl_Stream_pushOpen.j5 (k + 1) y0 y1 y2 y3 y4 y5 y6 y7 y8 y9 y10 y11 y12 y13 y14)) ∧ (∀ y0 y1 y2 y3 y4 y5 y6 y7 y8 y9 y10 y11 y12 y13 y14, LeO (impl_Stream_pushOpen.l0 k y0 y1 y2 y3 y4 y5 y6 y7 y8 y9 y10 y11 y12 y13 y14) (impl_Stream_pushOpen.l0 (k + 1) y0 y1 y2 y3 y4 y5 y6 y7 y8 y9 y10 y11 y12 y13 y14))
 | 0 => ⟨fun _ _ _ _ _ _ _ _ _ _ _ _ _ _ _ _ r h => by simp [impl_Stream_pushOpen.j0] at h, fun _ _ _ _ _ _ _ _ _ _ _ _ _ _ _ r h => by simp [impl_Stream_pushOpen.j1] at h, fun _ _ _ _ _ _ _ _ _ _ _ _ _ _ _ r h => by simp [impl_Stream_pushOpen.j3] at h, fun _ _ _ _ _ _ _ _ _ _ _ _ _ _ _ _ r h => by simp [impl_Stream_pushOpen.j4] at h, fun _ _ _ _ _ _ _ _ _ _ _ _ _ _ _ r h => by simp [impl_Stream_pushOpen.j5] at h, fun _ _ _ _ _ _ _ _ _ _ _ _ _ _ _ r h => by simp [impl_Stream_pushOpen.l0] at h⟩
 | k + 1 => by
  obtain ⟨ih0, ih1, ih2, ih3, ih4, ih5⟩ := impl_Stream_pushOpen.mono_l k
  refine ⟨?_, ?_, ?_, ?_, ?_, ?_⟩
  ·intro y0 y1 y2 y3 y4 y5 y6 y7 y8 y9 y10 y11 y12 y13 y14 y15
   unfold impl_Stream_pushOpen.j0
   repeat' first
   | (with_reducible exact ih0 _ _ _ _ _ _ _ _ _ _ _ _ _ _ _ _)
   | (with_reducible exact ih1 _ _ _ _ _ _ _ _ _ _ _ _ _ _ _)
   | (with_reducible exact ih2 _ _ _ _ _ _ _ _ _ _ _ _ _ _ _)
   | (with_reducible exact ih3 _ _ _ _ _ _ _ _ _ _ _ _ _ _ _ _)
   | (with_reducible exact ih4 _ _ _ _ _ _ _ _ _ _ _ _ _ _ _)
   | (with_reducible exact ih5 _ _ _ _ _ _ _ _ _ _ _ _ _ _ _)
   | (with_reducible first | exact LeO.refl _ | exact LeO.none _ | refine LeO.ite ?_ ?_ | refine LeO.bind ?_ (fun _ => ?_))
   | exact ih0 _ _ _ _ _ _ _ _ _ _ _ _ _ _ _ _
   | exact ih1 _ _ _ _ _ _ _ _ _ _ _ _ _ _ _
   | exact ih2 _ _ _ _ _ _ _ _ _ _ _ _ _ _ _
   | exact ih3 _ _ _ _ _ _ _ _ _ _ _ _ _ _ _ _
   | exact ih4 _ _ _ _ _ _ _ _ _ _ _ _ _ _ _
   | exact ih5 _ _ _ _ _ _ _ _ _ _ _ _ _ _ _
  ·intro y0 y1 y2 y3 y4 y5 y6 y7 y8 y9 y10 y11 y12 y13 y14
   unfold impl_Stream_pushOpen.j1
   repeat' first
   | (with_reducible exact ih0 _ _ _ _ _ _ _ _ _ _ _ _ _ _ _ _)
   | (with_reducible exact ih1 _ _ _ _ _ _ _ _ _ _ _ _ _ _ _)
   | (with_reducible exact ih2 _ _ _ _ _ _ _ _ _ _ _ _ _ _ _)
   | (with_reducible exact ih3 _ _ _ _ _ _ _ _ _ _ _ _ _ _ _ _)
   | (with_reducible exact ih4 _ _ _ _ _ _ _ _ _ _ _ _ _ _ _)
   | (with_reducible exact ih5 _ _ _ _ _ _ _ _ _ _ _ _ _ _ _)
   | (with_reducible first | exact LeO.refl _ | exact LeO.none _ | refine LeO.ite ?_ ?_ | refine LeO.bind ?_ (fun _ => ?_))
   | exact ih0 _ _ _ _ _ _ _ _ _ _ _ _ _ _ _ _
   | exact ih1 _ _ _ _ _ _ _ _ _ _ _ _ _ _ _
   | exact ih2 _ _ _ _ _ _ _ _ _ _ _ _ _ _ _
   | exact ih3 _ _ _ _ _ _ _ _ _ _ _ _ _ _ _ _
   | exact ih4 _ _ _ _ _ _ _ _ _ _ _ _ _ _ _
   | exact ih5 _ _ _ _ _ _ _ _ _ _ _ _ _ _ _
  ·intro y0 y1 y2 y3 y4 y5 y6 y7 y8 y9 y10 y11 y12 y13 y14
   unfold impl_Stream_pushOpen.j3
   repeat' first
   | (with_reducible exact ih0 _ _ _ _ _ _ _ _ _ _ _ _ _ _ _ _)
   | (with_reducible exact ih1 _ _ _ _ _ _ _ _ _ _ _ _ _ _ _)
   | (with_reducible exact ih2 _ _ _ _ _ _ _ _ _ _ _ _ _ _ _)
   | (with_reducible exact ih3 _ _ _ _ _ _ _ _ _ _ _ _ _ _ _ _)
   | (with_reducible exact ih4 _ _ _ _ _ _ _ _ _ _ _ _ _ _ _)
   | (with_reducible exact ih5 _ _ _ _ _ _ _ _ _ _ _ _ _ _ _)
   | (with_reducible first | exact LeO.refl _ | exact LeO.none _ | refine LeO.ite ?_ ?_ | refine LeO.bind ?_ (fun _ => ?_))
   | exact ih0 _ _ _ _ _ _ _ _ _ _ _ _ _ _ _ _
   | exact ih1 _ _ _ _ _ _ _ _ _ _ _ _ _ _ _
   | exact ih2 _ _ _ _ _ _ _ _ _ _ _ _ _ _ _
   | exact ih3 _ _ _ _ _ _ _ _ _ _ _ _ _ _ _ _
   | exact ih4 _ _ _ _ _ _ _ _ _ _ _ _ _ _ _
   | exact ih5 _ _ _ _ _ _ _ _ _ _ _ _ _ _ _
  ·intro y0 y1 y2 y3 y4 y5 y6 y7 y8 y9 y10 y11 y12 y13 y14 y15
   unfold impl_Stream_pushOpen.j4
   repeat' first
   | (with_reducible exact ih0 _ _ _ _ _ _ _ _ _ _ _ _ _ _ _ _)
   | (with_reducible exact ih1 _ _ _ _ _ _ _ _ _ _ _ _ _ _ _)
   | (with_reducible exact ih2 _ _ _ _ _ _ _ _ _ _ _ _ _ _ _)
   | (with_reducible exact ih3 _ _ _ _ _ _ _ _ _ _ _ _ _ _ _ _)
   | (with_reducible exact ih4 _ _ _ _ _ _ _ _ _ _ _ _ _ _ _)
   | (with_reducible exact ih5 _ _ _ _ _ _ _ _ _ _ _ _ _ _ _)
   | (with_reducible first | exact LeO.refl _ | exact LeO.none _ | refine LeO.ite ?_ ?_ | refine LeO.bind ?_ (fun _ => ?_))
   | exact ih0 _ _ _ _ _ _ _ _ _ _ _ _ _ _ _ _
   | exact ih1 _ _ _ _ _ _ _ _ _ _ _ _ _ _ _
   | exact ih2 _ _ _ _ _ _ _ _ _ _ _ _ _ _ _
   | exact ih3 _ _ _ _ _ _ _ _ _ _ _ _ _ _ _ _
   | exact ih4 _ _ _ _ _ _ _ _ _ _ _ _ _ _ _
   | exact ih5 _ _ _ _ _ _ _ _ _ _ _ _ _ _ _
  ·intro y0 y1 y2 y3 y4 y5 y6 y7 y8 y9 y10 y11 y12 y13 y14
   unfold impl_Stream_pushOpen.j5
   repeat' first
   | (with_reducible exact ih0 _ _ _ _ _ _ _ _ _ _ _ _ _ _ _ _)
   | (with_reducible exact ih1 _ _ _ _ _ _ _ _ _ _ _ _ _ _ _)
   | (with_reducible exact ih2 _ _ _ _ _ _ _ _ _ _ _ _ _ _ _)
   | (with_reducible exact ih3 _ _ _ _ _ _ _ _ _ _ _ _ _ _ _ _)
   | (with_reducible exact ih4 _ _ _ _ _ _ _ _ _ _ _ _ _ _ _)
   | (with_reducible exact ih5 _ _ _ _ _ _ _ _ _ _ _ _ _ _ _)
   | (with_reducible first | exact LeO.refl _ | exact LeO.none _ | refine LeO.ite ?_ ?_ | refine LeO.bind ?_ (fun _ => ?_))
   | exact ih0 _ _ _ _ _ _ _ _ _ _ _ _ _ _ _ _
   | exact ih1 _ _ _ _ _ _ _ _ _ _ _ _ _ _ _
   | exact ih2 _ _ _ _ _ _ _ _ _ _ _ _ _ _ _
   | exact ih3 _ _ _ _ _ _ _ _ _ _ _ _ _ _ _ _
   | exact ih4 _ _ _ _ _ _ _ _ _ _ _ _ _ _ _
   | exact ih5 _ _ _ _ _ _ _ _ _ _ _ _ _ _ _
  ·intro y0 y1 y2 y3 y4 y5 y6 y7 y8 y9 y10 y11 y12 y13 y14
   unfold impl_Stream_pushOpen.l0
   repeat' first
   | (with_reducible exact ih0 _ _ _ _ _ _ _ _ _ _ _ _ _ _ _ _)
   | (with_reducible exact ih1 _ _ _ _ _ _ _ _ _ _ _ _ _ _ _)
   | (with_reducible exact ih2 _ _ _ _ _ _ _ _ _ _ _ _ _ _ _)
   | (with_reducible exact ih3 _ _ _ _ _ _ _ _ _ _ _ _ _ _ _ _)
   | (with_reducible exact ih4 _ _ _ _ _ _ _ _ _ _ _ _ _ _ _)
   | (with_reducible exact ih5 _ _ _ _ _ _ _ _ _ _ _ _ _ _ _)
   | (with_reducible first | exact LeO.refl _ | exact LeO.none _ | refine LeO.ite ?_ ?_ | refine LeO.bind ?_ (fun _ => ?_))
   | exact ih0 _ _ _ _ _ _ _ _ _ _ _ _ _ _ _ _
   | exact ih1 _ _ _ _ _ _ _ _ _ _ _ _ _ _ _
   | exact ih2 _ _ _ _ _ _ _ _ _ _ _ _ _ _ _
   | exact ih3 _ _ _ _ _ _ _ _ _ _ _ _ _ _ _ _
   | exact ih4 _ _ _ _ _ _ _ _ _ _ _ _ _ _ _
   | exact ih5 _ _ _ _ _ _ _ _ _ _ _ _ _ _ _
theorem impl_Stream_pushOpen.mono : ∀ a0 a1 a2 a3 a4 a5 a6 a7 a8 a9 a10 a11 a12 a13 a14 k, LeO (impl_Stream_pushOpen.f k a0 a1 a2 a3 a4 a5 a6 a7 a8 a9 a10 a11 a12 a13 a14) (impl_Stream_pushOpen.f (k + 1) a0 a1 a2 a3 a4 a5 a6 a7 a8 a9 a10 a11 a12 a13 a14) := by
 intro a0 a1 a2 a3 a4 a5 a6 a7 a8 a9 a10 a11 a12 a13 a14 k
 obtain ⟨ih0, ih1, ih2, ih3, ih4, ih5⟩ := impl_Stream_pushOpen.mono_l k
 unfold impl_Stream_pushOpen.f
 repeat' first
   | (with_reducible exact ih0 _ _ _ _ _ _ _ _ _ _ _ _ _ _ _ _)
   | (with_reducible exact ih1 _ _ _ _ _ _ _ _ _ _ _ _ _ _ _)
   | (with_reducible exact ih2 _ _ _ _ _ _ _ _ _ _ _ _ _ _ _)
   | (with_reducible exact ih3 _ _ _ _ _ _ _ _ _ _ _ _ _ _ _ _)
   | (with_reducible exact ih4 _ _ _ _ _ _ _ _ _ _ _ _ _ _ _)
   | (with_reducible exact ih5 _ _ _ _ _ _ _ _ _ _ _ _ _ _ _)
   | (with_reducible first | exact LeO.refl _ | exact LeO.none _ | refine LeO.ite ?_ ?_ | refine LeO.bind ?_ (fun _ => ?_))
   | exact ih0 _ _ _ _ _ _ _ _ _ _ _ _ _ _ _ _
   | exact ih1 _ _ _ _ _ _ _ _ _ _ _ _ _ _ _
   | exact ih2 _ _ _ _ _ _ _ _ _ _ _ _ _ _ _
   | exact ih3 _ _ _ _ _ _ _ _ _ _ _ _ _ _ _ _
   | exact ih4 _ _ _ _ _ _ _ _ _ _ _ _ _ _ _
   | exact ih5 _ _ _ _ _ _ _ _ _ _ _ _ _ _ _
def impl_Stream_pushOpen.T6 : Bool × List (List Nat × List Nat) := (true, [([], []), ([0], [0]), ([1], [1]), ([2], [2]), ([], []), ([4], [4]), ([5], [5]), ([6], [6]), ([7], [7]), ([3, 8], [3, 8]), ([9], [9]), ([10], [10]), ([11, 10], [10, 11]), ([12, 10], [10, 12]), ([13, 10], [10, 13]), ([14, 10], [10, 14]), ([10, 15], [10, 15])])
def impl_Stream_pushOpen.B6 : List Nat := [0, 1, 3, 7, 0, 16, 48, 112, 240, 511, 1023, 2047, 4095, 8191, 16383, 32767, 65535]
theorem impl_Stream_pushOpen.tab6 : rtab .any (opsOf Try.f76 6) = impl_Stream_pushOpen.T6 := by kernel_rfl
theorem impl_Stream_pushOpen.bits6 : waitsOk impl_Stream_pushOpen.T6.2 impl_Stream_pushOpen.B6 = true := by kernel_rfl
def impl_Stream_pushOpen.T7 : Bool × List (List Nat × List Nat) := (true, [([], []), ([0], [0]), ([1], [1]), ([2], [2]), ([3], [3]), ([], []), ([5], [5]), ([6], [6]), ([7], [7]), ([4, 8], [4, 8]), ([], []), ([10], [10]), ([11], [11]), ([12], [12]), ([13], [13]), ([9, 14], [9, 14]), ([15, 0, 1, 2, 3, 4, 5, 6, 7, 8, 9, 10, 11, 12, 13, 14, 15], [15])])
def impl_Stream_pushOpen.B7 : List Nat := [0, 1, 3, 7, 15, 0, 32, 96, 224, 511, 0, 1024, 3072, 7168, 15360, 32767, 65535]
theorem impl_Stream_pushOpen.tab7 : rtab .any (opsOf Try.f76 7) = impl_Stream_pushOpen.T7 := by kernel_rfl
theorem impl_Stream_pushOpen.bits7 : waitsOk impl_Stream_pushOpen.T7.2 impl_Stream_pushOpen.B7 = true := by kernel_rfl
def impl_Stream_pushOpen.T8 : Bool × List (List Nat × List Nat) := (true, [([], []), ([], []), ([1], [1]), ([2], [2]), ([3], [3]), ([], []), ([5], [5]), ([6], [6]), ([7], [7]), ([4, 8], [4, 8]), ([], []), ([10], [10]), ([11], [11]), ([12], [12]), ([], []), ([14], [14]), ([15], [15]), ([16], [16]), ([], []), ([18], [18]), ([19], [19]), ([20], [20]), ([], []), ([22], [22]), ([23], [23]), ([24], [24]), ([], []), ([25, 26], [25, 26]), ([17, 21, 27], [17, 21, 27]), ([9, 13, 28], [9, 13, 28]), ([29], [29]), ([0, 30, 9], [0, 30]), ([31, 31, 0, 1, 2, 3, 4, 5, 6, 7, 8, 9, 10, 11, 12, 13, 14, 15, 16, 17, 18, 19, 20, 21, 22, 23, 24, 25, 26, 27, 28, 29, 30, 31], [0, 31])])
def impl_Stream_pushOpen.B8 : List Nat := [0, 0, 2, 6, 14, 0, 32, 96, 224, 510, 0, 1024, 3072, 7168, 0, 16384, 49152, 114688, 0, 262144, 786432, 1835008, 0, 4194304, 12582912, 29360128, 0, 130023424, 268419072, 536870910, 1073741822, 2147483647, 4294967295]
theorem impl_Stream_pushOpen.tab8 : rtab .any (opsOf Try.f76 8) = impl_Stream_pushOpen.T8 := by kernel_rfl
theorem impl_Stream_pushOpen.bits8 : waitsOk impl_Stream_pushOpen.T8.2 impl_Stream_pushOpen.B8 = true := by kernel_rfl
def impl_Stream_pushOpen.T10 : Bool × List (List Nat × List Nat) := (true, [([], []), ([0], [0]), ([1], [1]), ([2], [2]), ([3], [3]), ([4], [4]), ([5], [5]), ([6, 5], [5, 6]), ([7, 5], [5, 7]), ([8, 5], [5, 8]), ([5], [5]), ([10, 5], [5, 10]), ([11, 5], [5, 11]), ([12, 5], [5, 12]), ([13, 5], [5, 13]), ([9, 14, 5], [5, 9, 14]), ([5, 15], [5, 15])])
def impl_Stream_pushOpen.B10 : List Nat := [0, 1, 3, 7, 15, 31, 63, 127, 255, 511, 63, 1087, 3135, 7231, 15423, 32767, 65535]
theorem impl_Stream_pushOpen.tab10 : rtab .any (opsOf Try.f76 10) = impl_Stream_pushOpen.T10 := by kernel_rfl
theorem impl_Stream_pushOpen.bits10 : waitsOk impl_Stream_pushOpen.T10.2 impl_Stream_pushOpen.B10 = true := by kernel_rfl
def impl_Stream_pushOpen.T11 : Bool × List (List Nat × List Nat) := (true, [([], []), ([], []), ([1], [1]), ([2], [2]), ([3], [3]), ([], []), ([5], [5]), ([6], [6]), ([7], [7]), ([4, 8], [4, 8]), ([], []), ([10], [10]), ([11], [11]), ([12], [12]), ([9, 13], [9, 13]), ([14], [14]), ([0, 15, 9], [0, 15]), ([16, 16, 0, 1, 2, 3, 4, 5, 6, 7, 8, 9, 10, 11, 12, 13, 14, 15, 16], [0, 16])])
def impl_Stream_pushOpen.B11 : List Nat := [0, 0, 2, 6, 14, 0, 32, 96, 224, 510, 0, 1024, 3072, 7168, 16382, 32766, 65535, 131071]
theorem impl_Stream_pushOpen.tab11 : rtab .any (opsOf Try.f76 11) = impl_Stream_pushOpen.T11 := by kernel_rfl
theorem impl_Stream_pushOpen.bits11 : waitsOk impl_Stream_pushOpen.T11.2 impl_Stream_pushOpen.B11 = true := by kernel_rfl
def impl_Stream_pushOpen.T17 : Bool × List (List Nat × List Nat) := (true, [([], []), ([], []), ([1], [1]), ([2], [2]), ([3], [3]), ([], []), ([5], [5]), ([6], [6]), ([7], [7]), ([], []), ([9], [9]), ([10], [10]), ([11], [11]), ([12], [12]), ([13], [13]), ([8, 14], [8, 14]), ([4, 15, 14], [4, 15]), ([], []), ([17], [17]), ([18], [18]), ([19], [19]), ([16, 20], [16, 20]), ([21], [21]), ([0, 22, 16], [0, 22]), ([23, 23, 0, 1, 2, 3, 4, 5, 6, 7, 8, 9, 10, 11, 12, 13, 14, 15, 16, 17, 18, 19, 20, 21, 22, 23], [0, 23])])
def impl_Stream_pushOpen.B17 : List Nat := [0, 0, 2, 6, 14, 0, 32, 96, 224, 0, 512, 1536, 3584, 7680, 15872, 32736, 65534, 0, 131072, 393216, 917504, 2097150, 4194302, 8388607, 16777215]
theorem impl_Stream_pushOpen.tab17 : rtab .any (opsOf Try.f76 17) = impl_Stream_pushOpen.T17 := by kernel_rfl
theorem impl_Stream_pushOpen.bits17 : waitsOk impl_Stream_pushOpen.T17.2 impl_Stream_pushOpen.B17 = true := by kernel_rfl
set_option maxHeartbeats 8000000 in
set_option maxRecDepth 100000 in
theorem impl_Stream_pushOpen.calls (k : Nat) (g : Nat) (s0_0 : Int) (s0_1 : Int) (s0_2 : Int) (s0_3 : Int) (s0_4 : ByteArray) (s0_5 : Int) (s0_6 : Int) (s0_7 : Bool) (s0_8 : ByteArray) (s0_9 : List (S143)) (s0_9v : Value) (s0_10 : Bool) (s0_11 : Int) (s0_12 : Int) (a1 : Int) (a2 : Bool) (r1 : List (S28)) (r2 : Int) (r3 : Int) (r4 : Int) (r5 : Int) (r6 : ByteArray) (r7 : Int) (r8 : Int) (r9 : Bool) (r10 : ByteArray) (r11 : Bool) (r12 : Int) (r13 : Int) (w0 w : World) (hI : IsS39 w0 w g s0_0 s0_1 s0_2 s0_3 s0_4 s0_5 s0_6 s0_7 s0_8 s0_9v s0_10 s0_11 s0_12) (hB : Below w0.heap.size w0 w) (h : impl_Stream_pushOpen.f k s0_0 s0_1 s0_2 s0_3 s0_4 s0_5 s0_6 s0_7 s0_8 s0_9 s0_10 s0_11 s0_12 a1 a2 = some (r1, r2, r3, r4, r5, r6, r7, r8, r9, r10, r11, r12, r13)) :
  Calls Try.prog 76 #[.pointer (some ⟨g, 0, none⟩), .int .i64 a1, .bool a2] w fun e w' => ∃ v0_ : Value, e = .returned (v0_) ∧ Kd.R k28 28 w' w.heap.size (fun _ => True) v0_ r1 ∧ IsS39 w0 w' g r2 r3 r4 r5 r6 r7 r8 r9 r10 s0_9v r11 r12 r13 ∧ Below w0.heap.size w0 w' ∧ KeepBut w w' g none := by
 have hu28 := Try.underlying28
 have HI0 := Aside0.mk hI
 have HK := Aside0.mk (KeepBut.refl w g none)
 have HL := Aside0.mk hB.size
 clear hI
 have HW0 := Aside0.mk hB.size
 have HB := Aside0.mk hB
 clear hB
 have H : ((some (([] : List (S28)) : List (S28))).bind fun y296 => (if a2 = true then (if s0_5 > 0 then (impl_Stream_pushOpen.j0 k a1 y296 true s0_0 s0_1 s0_2 s0_3 s0_4 s0_5 s0_6 s0_7 s0_8 s0_9 s0_10 s0_11 s0_12) else (impl_Stream_pushOpen.j0 k a1 y296 (s0_6 == 2) s0_0 s0_1 s0_2 s0_3 s0_4 s0_5 s0_6 s0_7 s0_8 s0_9 s0_10 s0_11 s0_12)) else (impl_Stream_pushOpen.j0 k a1 y296 false s0_0 s0_1 s0_2 s0_3 s0_4 s0_5 s0_6 s0_7 s0_8 s0_9 s0_10 s0_11 s0_12))) = some (r1, r2, r3, r4, r5, r6, r7, r8, r9, r10, r11, r12, r13) := h
 clear h
 obtain ⟨y296, hy296⟩ : ∃ y_ : List (S28), y_ = (([] : List (S28))) := ⟨_, rfl⟩
 replace H : (if a2 = true then (if s0_5 > 0 then (impl_Stream_pushOpen.j0 k a1 y296 true s0_0 s0_1 s0_2 s0_3 s0_4 s0_5 s0_6 s0_7 s0_8 s0_9 s0_10 s0_11 s0_12) else (impl_Stream_pushOpen.j0 k a1 y296 (s0_6 == 2) s0_0 s0_1 s0_2 s0_3 s0_4 s0_5 s0_6 s0_7 s0_8 s0_9 s0_10 s0_11 s0_12)) else (impl_Stream_pushOpen.j0 k a1 y296 false s0_0 s0_1 s0_2 s0_3 s0_4 s0_5 s0_6 s0_7 s0_8 s0_9 s0_10 s0_11 s0_12)) = some (r1, r2, r3, r4, r5, r6, r7, r8, r9, r10, r11, r12, r13) := by first | (rw [hy296]; with_reducible exact H) | (have H2_ := (Option.bind_some _ _).symm.trans H; rw [hy296]; with_reducible exact H2_) | (have H2_ := (Option.bind_some _ _).symm.trans H; with_reducible exact H2_) | with_reducible exact H | (rw [hy296]; exact H) | exact H
 have Ny296 := Aside0.mk hy296
 clear hy296
 have HC4 := Aside0.mk H
 clear H
 go_enter Try.func76, Try.ntmps76
 go_upto_region 2 with (first | ((with_reducible refine gate_dst (N := 9) rfl ?_); (try (refine gate_guard (by rfl) ?_; dsimp only)); refine Kd.R_lit k28 _ 28 ?hg (N := 9) ?hd (xs := ([] : List (S28))) (inner := []) (ok := fun _ => True) (okp := fun _ => True) ?hr ?hp (fun _ hk => hk) trivial (Below.refl _ _) (Nat.le_refl _) (by simp) ?_; (case hd => rfl); (case hg => rfl); (case hr => first | (go_simp; done) | (go_simp; rfl)); (case hp => exact (Reps.none _ _)); intro v297 w5 ho6 hb hg_ hnew_; clear hg_ hnew_; (first | rw [← Ny296.out] at ho6 | (simp only [Int.reduceToNat] at ho6; rw [← Ny296.out] at ho6)); have HO298 := Aside0.mk (Kd.R_lower ho6 (keep_size (w := w) (g := g) (row := none) B9x1_)); replace HK := Aside0.mk (KeepBut.trans B9x1_ (KeepBut.of_below hb g none) (.inl rfl)); replace HB := Aside0.mk (below_step B9x2_ hb); replace HI0 := Aside0.mk (IsS39.below B9x0_ hb); clear hb ho6))
 (try simp only [Act.put, List.setIfInBounds_toArray, List.set_cons_zero, List.set_cons_succ])
 go_cut [24] (fun v24 wc => ∃ (kq : Nat) (x24_3 : Bool), v24 = .bool x24_3 ∧ Aside0 (impl_Stream_pushOpen.j0 kq a1 y296 x24_3 s0_0 s0_1 s0_2 s0_3 s0_4 s0_5 s0_6 s0_7 s0_8 s0_9 s0_10 s0_11 s0_12 = some (r1, r2, r3, r4, r5, r6, r7, r8, r9, r10, r11, r12, r13)) ∧ Aside0 (kq ≤ k) ∧ Aside0 (Kd.R k28 28 wc w.heap.size (fun _ => True) v297 y296) ∧ Aside0 (IsS39 w0 wc g s0_0 s0_1 s0_2 s0_3 s0_4 s0_5 s0_6 s0_7 s0_8 s0_9v s0_10 s0_11 s0_12) ∧ Aside0 (KeepBut w wc g none) ∧ Aside0 (Below w0.heap.size w0 wc))
 case first => as_aux_lemma =>
  have H := HC4.out
  clear HC4
  by_cases c7 : a2 = true
  ·subst c7
   rw [if_pos rfl] at H
   by_cases c8 : s0_5 > 0
   ·rw [if_pos c8] at H
    have c8b0 : decide (0 < s0_5) = true := decide_eq_true c8
    clear c8
    (first | rw [c8b0] | (simp only [i64_w, i32_w]; rw [c8b0]) | skip)
    have H' := Aside0.mk H
    clear H
    obtain ⟨HGz9, hgz9⟩ := HI0.out
    have hcz9_0 := cellS39_0 HGz9
    have hcz9_1 := cellS39_1 HGz9
    have hcz9_2 := cellS39_2 HGz9
    have hcz9_3 := cellS39_3 HGz9
    have hcz9_4 := cellS39_4 HGz9
    have hcz9_5 := cellS39_5 HGz9
    have hcz9_6 := cellS39_6 HGz9
    have hcz9_7 := cellS39_7 HGz9
    have hcz9_8 := cellS39_8 HGz9
    have hcz9_9 := cellS39_9 HGz9
    have hcz9_10 := cellS39_10 HGz9
    have hcz9_11 := cellS39_11 HGz9
    have hcz9_12 := cellS39_12 HGz9
    obtain ⟨hfz9_0, hfz9_1, hfz9_2, hfz9_3, hfz9_4, hfz9_5, hfz9_6, hfz9_7, hfz9_8⟩ := fr9 HGz9
    have hfz9_10 := blk_frozen HGz9 10
    have hfz9_11 := blk_frozen HGz9 11
    have hfz9_12 := blk_frozen HGz9 12
    clear HGz9 hgz9
    go_wp2
    go_meet
    case rel => exact ⟨_, (true), (be_), H', ⟨B9x12_⟩, ⟨B9x6_⟩, ⟨B9x0_⟩, ⟨B9x1_⟩, ⟨B9x2_⟩⟩
   ·rw [if_neg c8] at H
    have c8b0 : decide (0 < s0_5) = false := decide_eq_false c8
    clear c8
    (first | rw [c8b0] | (simp only [i64_w, i32_w]; rw [c8b0]) | skip)
    have H' := Aside0.mk H
    clear H
    obtain ⟨HGz10, hgz10⟩ := HI0.out
    have hcz10_0 := cellS39_0 HGz10
    have hcz10_1 := cellS39_1 HGz10
    have hcz10_2 := cellS39_2 HGz10
    have hcz10_3 := cellS39_3 HGz10
    have hcz10_4 := cellS39_4 HGz10
    have hcz10_5 := cellS39_5 HGz10
    have hcz10_6 := cellS39_6 HGz10
    have hcz10_7 := cellS39_7 HGz10
    have hcz10_8 := cellS39_8 HGz10
    have hcz10_9 := cellS39_9 HGz10
    have hcz10_10 := cellS39_10 HGz10
    have hcz10_11 := cellS39_11 HGz10
    have hcz10_12 := cellS39_12 HGz10
    obtain ⟨hfz10_0, hfz10_1, hfz10_2, hfz10_3, hfz10_4, hfz10_5, hfz10_6, hfz10_7, hfz10_8⟩ := fr9 HGz10
    have hfz10_10 := blk_frozen HGz10 10
    have hfz10_11 := blk_frozen HGz10 11
    have hfz10_12 := blk_frozen HGz10 12
    clear HGz10 hgz10
    go_wp2
    go_meet
    case rel => exact ⟨_, ((s0_6 == 2)), (be_), H', ⟨B9x12_⟩, ⟨B9x6_⟩, ⟨B9x0_⟩, ⟨B9x1_⟩, ⟨B9x2_⟩⟩
  ·replace c7 := Bool.eq_false_iff.mpr c7
   subst c7
   rw [if_neg (show ¬ (false = true) by decide)] at H
   have H' := Aside0.mk H
   clear H
   go_wp2
   go_meet
   case rel => exact ⟨_, (false), (be_), H', ⟨B9x12_⟩, ⟨B9x6_⟩, ⟨B9x0_⟩, ⟨B9x1_⟩, ⟨B9x2_⟩⟩
 case rest => as_aux_lemma =>
  clear HC4
  obtain ⟨kq, x24_3, rfl, HA, HJ3, HO_7, HI0, HK, HB⟩ := hcut
  cases kq with
  | zero => exact absurd HA.out (by simp [impl_Stream_pushOpen.j0])
  | succ kj3 =>
   have H := HA.out
   clear HA
   simp only [impl_Stream_pushOpen.j0] at H
   have HC11 := Aside0.mk H
   clear H
   go_upto_if 24 with (fail)
   go_cut [] (fun wc => ∃ (kq : Nat) (x1005_10 : Int) (x1006_10 : Int), Aside0 (impl_Stream_pushOpen.j1 kq a1 y296 s0_0 s0_1 s0_2 s0_3 s0_4 x1005_10 x1006_10 s0_7 s0_8 s0_9 s0_10 s0_11 s0_12 = some (r1, r2, r3, r4, r5, r6, r7, r8, r9, r10, r11, r12, r13)) ∧ Aside0 (kq ≤ kj3) ∧ Aside0 (Kd.R k28 28 wc w.heap.size (fun _ => True) v297 y296) ∧ Aside0 (IsS39 w0 wc g s0_0 s0_1 s0_2 s0_3 s0_4 x1005_10 x1006_10 s0_7 s0_8 s0_9v s0_10 s0_11 s0_12) ∧ Aside0 (KeepBut w wc g none) ∧ Aside0 (Below w0.heap.size w0 wc))
   case first => as_aux_lemma =>
    have H := HC11.out
    clear HC11
    by_cases c12 : x24_3 = true
    ·subst c12
     rw [if_pos rfl] at H
     by_cases c13 : s0_6 = 2
     ·rw [if_pos c13] at H
      have c13b0 := beq_iff_eq.mpr c13
      have c13b1 := bne_eq_false_iff_eq.mpr c13
      clear c13
      (first | rw [c13b0] | (simp only [i64_w, i32_w]; rw [c13b0]) | skip)
      have H' := Aside0.mk H
      clear H
      obtain ⟨HGz14, hgz14⟩ := HI0.out
      have hcz14_0 := cellS39_0 HGz14
      have hcz14_1 := cellS39_1 HGz14
      have hcz14_2 := cellS39_2 HGz14
      have hcz14_3 := cellS39_3 HGz14
      have hcz14_4 := cellS39_4 HGz14
      have hcz14_5 := cellS39_5 HGz14
      have hcz14_6 := cellS39_6 HGz14
      have hcz14_7 := cellS39_7 HGz14
      have hcz14_8 := cellS39_8 HGz14
      have hcz14_9 := cellS39_9 HGz14
      have hcz14_10 := cellS39_10 HGz14
      have hcz14_11 := cellS39_11 HGz14
      have hcz14_12 := cellS39_12 HGz14
      obtain ⟨hfz14_0, hfz14_1, hfz14_2, hfz14_3, hfz14_4, hfz14_5, hfz14_6, hfz14_7, hfz14_8⟩ := fr9 HGz14
      have hfz14_10 := blk_frozen HGz14 10
      have hfz14_11 := blk_frozen HGz14 11
      have hfz14_12 := blk_frozen HGz14 12
      clear HGz14 hgz14
      go_wp2
      go_meet
      case rel => exact ⟨_, (0), (1), H', ⟨B9x9_⟩, ⟨(by (with_reducible repeat (first | apply Kd.R_alloc | apply Kd.R_drewN | apply Kd.R_drew)); exact Kd.R_mono (Kd.R_far (p := ⟨g, 6, none⟩) (Kd.R_far (p := ⟨g, 5, none⟩) (IsS39.apart HI0.out HO_7.out (by decide)) (fun _ hk => hk.2) (.int .i64 0)) (fun _ hk => hk.2) (.int .i64 1)) (fun _ hk => trivial))⟩, ⟨B9x0_⟩, ⟨B9x1_⟩, ⟨B9x2_⟩⟩
     ·rw [if_neg c13] at H
      have c13b0 := beq_eq_false_iff_ne.mpr c13
      have c13b1 := bne_iff_ne.mpr c13
      (first | rw [c13b0] | (simp only [i64_w, i32_w]; rw [c13b0]) | skip)
      have H' := Aside0.mk H
      clear H
      obtain ⟨HGz15, hgz15⟩ := HI0.out
      have hcz15_0 := cellS39_0 HGz15
      have hcz15_1 := cellS39_1 HGz15
      have hcz15_2 := cellS39_2 HGz15
      have hcz15_3 := cellS39_3 HGz15
      have hcz15_4 := cellS39_4 HGz15
      have hcz15_5 := cellS39_5 HGz15
      have hcz15_6 := cellS39_6 HGz15
      have hcz15_7 := cellS39_7 HGz15
      have hcz15_8 := cellS39_8 HGz15
      have hcz15_9 := cellS39_9 HGz15
      have hcz15_10 := cellS39_10 HGz15
      have hcz15_11 := cellS39_11 HGz15
      have hcz15_12 := cellS39_12 HGz15
      obtain ⟨hfz15_0, hfz15_1, hfz15_2, hfz15_3, hfz15_4, hfz15_5, hfz15_6, hfz15_7, hfz15_8⟩ := fr9 HGz15
      have hfz15_10 := blk_frozen HGz15 10
      have hfz15_11 := blk_frozen HGz15 11
      have hfz15_12 := blk_frozen HGz15 12
      clear HGz15 hgz15
      go_wp2
      go_meet
      case rel => exact ⟨_, (0), (s0_6), H', ⟨B9x9_⟩, ⟨(by (with_reducible repeat (first | apply Kd.R_alloc | apply Kd.R_drewN | apply Kd.R_drew)); exact Kd.R_mono (Kd.R_far (p := ⟨g, 5, none⟩) (IsS39.apart HI0.out HO_7.out (by decide)) (fun _ hk => hk.2) (.int .i64 0)) (fun _ hk => trivial))⟩, ⟨B9x0_⟩, ⟨B9x1_⟩, ⟨B9x2_⟩⟩
    ·replace c12 := Bool.eq_false_iff.mpr c12
     subst c12
     rw [if_neg (show ¬ (false = true) by decide)] at H
     have H' := Aside0.mk H
     clear H
     go_wp2
     go_meet
     case rel => exact ⟨_, (s0_5), (s0_6), H', ⟨B9x9_⟩, ⟨B9x3_⟩, ⟨B9x0_⟩, ⟨B9x1_⟩, ⟨B9x2_⟩⟩
   case rest => as_aux_lemma =>
    clear HC11
    obtain ⟨kq, x1005_10, x1006_10, HA, HJ10, HO_7, HI0, HK, HB⟩ := hcut
    cases kq with
    | zero => exact absurd HA.out (by simp [impl_Stream_pushOpen.j1])
    | succ kj10 =>
     have H := HA.out
     clear HA
     simp only [impl_Stream_pushOpen.j1] at H
     have HC16 := Aside0.mk H
     clear H
     go_upto_block 0 with (fail)
     go_cut [7] (fun v7 wc => ∃ (kq : Nat) (x7_15 : List (S28)) (x1005_15 : Int), Aside0 (impl_Stream_pushOpen.j3 kq a1 x7_15 s0_0 s0_1 s0_2 s0_3 s0_4 x1005_15 x1006_10 s0_7 s0_8 s0_9 s0_10 s0_11 s0_12 = some (r1, r2, r3, r4, r5, r6, r7, r8, r9, r10, r11, r12, r13)) ∧ Aside0 (kq ≤ kj10) ∧ Aside0 (Kd.R k28 28 wc w.heap.size (fun _ => True) v7 x7_15) ∧ Aside0 (IsS39 w0 wc g s0_0 s0_1 s0_2 s0_3 s0_4 x1005_15 x1006_10 s0_7 s0_8 s0_9v s0_10 s0_11 s0_12) ∧ Aside0 (KeepBut w wc g none) ∧ Aside0 (Below w0.heap.size w0 wc))
     case first => as_aux_lemma =>
      have H := HC16.out
      clear HC16
      have H' := Aside0.mk H
      clear H
      go_wp2
      go_loopg [7] kj10 (fun kq v7 w' => ∃ (x7_3 : List (S28)) (x1005_3 : Int), Aside0 (impl_Stream_pushOpen.l0 kq a1 x7_3 s0_0 s0_1 s0_2 s0_3 s0_4 x1005_3 x1006_10 s0_7 s0_8 s0_9 s0_10 s0_11 s0_12 = some (r1, r2, r3, r4, r5, r6, r7, r8, r9, r10, r11, r12, r13)) ∧ Aside0 (kq ≤ kj10) ∧ Aside0 (Kd.R k28 28 w' w.heap.size (fun _ => True) v7 x7_3) ∧ Aside0 (IsS39 w0 w' g s0_0 s0_1 s0_2 s0_3 s0_4 x1005_3 x1006_10 s0_7 s0_8 s0_9v s0_10 s0_11 s0_12) ∧ Aside0 (KeepBut w w' g none) ∧ Aside0 (Below w0.heap.size w0 w'))
      case atStart => exact ⟨(y296), (x1005_10), H', ⟨Nat.le_refl _⟩, ⟨B9x3_⟩, ⟨B9x0_⟩, ⟨B9x1_⟩, ⟨B9x2_⟩⟩
      case round => as_aux_lemma =>
       clear H'
       obtain ⟨x7_3, x1005_3, HA, HK3, HO_7, HI0, HK, HB⟩ := hrel
       cases gk with
       | zero => exact absurd HA.out (by simp [impl_Stream_pushOpen.l0])
       | succ k3 =>
        have H := HA.out
        clear HA
        simp only [impl_Stream_pushOpen.l0] at H
        by_cases c17 : x1005_3 < (s0_4.size : Int)
        ·rw [if_pos c17] at H
         have c17b0 : decide (x1005_3 < (s0_4.size : Int)) = true := decide_eq_true c17
         clear c17
         (first | rw [c17b0] | (simp only [i64_w, i32_w]; rw [c17b0]) | skip)
         by_cases c18 : x1005_3 < 24
         ·rw [if_pos c18] at H
          have c18b0 : decide (x1005_3 < 24) = true := decide_eq_true c18
          clear c18
          obtain ⟨ji19, hji19⟩ : ∃ j_ : Int, (mn 8 (wrap64 ((s0_4.size : Int) - x1005_3))) = j_ := ⟨_, rfl⟩
          replace H : ((impl_AddNum.f s0_2 x1005_3).bind fun t299 => (if 0 ≤ x1005_3 then (if x1005_3 ≤ (wrap64 (x1005_3 + (mn (ji19) (wrap64 (24 - x1005_3))))) then (if (wrap64 (x1005_3 + (mn (ji19) (wrap64 (24 - x1005_3))))) ≤ (s0_4.size : Int) then (if x7_3.length < 3518437208883 then (impl_Stream_pushOpen.l0 k3 a1 (x7_3 ++ [(⟨t299, s0_3, 2, s0_4.extract (x1005_3 : Int).toNat ((wrap64 (x1005_3 + (mn (ji19) (wrap64 (24 - x1005_3))))) : Int).toNat⟩ : S28)]) s0_0 s0_1 s0_2 s0_3 s0_4 (wrap64 (x1005_3 + (mn (ji19) (wrap64 (24 - x1005_3))))) x1006_10 s0_7 s0_8 s0_9 s0_10 s0_11 s0_12) else (none)) else (none)) else (none)) else (none))) = some (r1, r2, r3, r4, r5, r6, r7, r8, r9, r10, r11, r12, r13) := by first | (rw [hji19] at H; exact H) | (simp only [hji19] at H ⊢; exact H)
          have hji19_ : (if (wrap64 ((s0_4.size : Int) - x1005_3)) < 8 then (wrap64 ((s0_4.size : Int) - x1005_3)) else 8) = ji19 := hji19
          obtain ⟨ji20, hji20⟩ : ∃ j_ : Int, (mn (ji19) (wrap64 (24 - x1005_3))) = j_ := ⟨_, rfl⟩
          replace H : ((impl_AddNum.f s0_2 x1005_3).bind fun t299 => (if 0 ≤ x1005_3 then (if x1005_3 ≤ (wrap64 (x1005_3 + (ji20))) then (if (wrap64 (x1005_3 + (ji20))) ≤ (s0_4.size : Int) then (if x7_3.length < 3518437208883 then (impl_Stream_pushOpen.l0 k3 a1 (x7_3 ++ [(⟨t299, s0_3, 2, s0_4.extract (x1005_3 : Int).toNat ((wrap64 (x1005_3 + (ji20))) : Int).toNat⟩ : S28)]) s0_0 s0_1 s0_2 s0_3 s0_4 (wrap64 (x1005_3 + (ji20))) x1006_10 s0_7 s0_8 s0_9 s0_10 s0_11 s0_12) else (none)) else (none)) else (none)) else (none))) = some (r1, r2, r3, r4, r5, r6, r7, r8, r9, r10, r11, r12, r13) := by first | (rw [hji20] at H; exact H) | (simp only [hji20] at H ⊢; exact H)
          have hji20_ : (if (wrap64 (24 - x1005_3)) < (ji19) then (wrap64 (24 - x1005_3)) else (ji19)) = ji20 := hji20
          replace H := bsi H
          obtain ⟨t299, A21, H⟩ := H
          (try dsimp only at H)
          by_cases c22 : 0 ≤ x1005_3
          rotate_left
          ·rw [if_neg c22] at H
           exact absurd H (by simp)
          rw [if_pos c22] at H
          have c22b0 := eq_true c22
          have c22b1 : decide (0 ≤ x1005_3) = true := decide_eq_true c22
          clear c22
          by_cases c23 : x1005_3 ≤ (wrap64 (x1005_3 + (ji20)))
          rotate_left
          ·rw [if_neg c23] at H
           exact absurd H (by simp)
          rw [if_pos c23] at H
          have c23b0 := eq_true c23
          have c23b1 : decide (x1005_3 ≤ (wrap64 (x1005_3 + (ji20)))) = true := decide_eq_true c23
          by_cases c24 : (wrap64 (x1005_3 + (ji20))) ≤ (s0_4.size : Int)
          rotate_left
          ·rw [if_neg c24] at H
           exact absurd H (by simp)
          rw [if_pos c24] at H
          have c24b0 := eq_true c24
          have c24b1 : decide ((wrap64 (x1005_3 + (ji20))) ≤ (s0_4.size : Int)) = true := decide_eq_true c24
          by_cases c25 : x7_3.length < 3518437208883
          rotate_left
          ·rw [if_neg c25] at H
           exact absurd H (by simp)
          rw [if_pos c25] at H
          have LMc25 := Aside0.mk c25
          clear c25
          obtain ⟨y300, hy300⟩ : ∃ y_ : List (S28), y_ = (x7_3 ++ [(⟨t299, s0_3, 2, s0_4.extract (x1005_3 : Int).toNat ((wrap64 (x1005_3 + (ji20))) : Int).toNat⟩ : S28)]) := ⟨_, rfl⟩
          replace H : (impl_Stream_pushOpen.l0 k3 a1 y300 s0_0 s0_1 s0_2 s0_3 s0_4 (wrap64 (x1005_3 + (ji20))) x1006_10 s0_7 s0_8 s0_9 s0_10 s0_11 s0_12) = some (r1, r2, r3, r4, r5, r6, r7, r8, r9, r10, r11, r12, r13) := by first | (rw [hy300]; with_reducible exact H) | (have H2_ := (Option.bind_some _ _).symm.trans H; rw [hy300]; with_reducible exact H2_) | (have H2_ := (Option.bind_some _ _).symm.trans H; with_reducible exact H2_) | with_reducible exact H | (rw [hy300]; exact H) | exact H
          have Ny300 := Aside0.mk hy300
          clear hy300
          have H' := Aside0.mk H
          clear H
          try go_wp2
          replace HO_7 := Aside0.mk (Kd.R_drew HO_7.out)
          replace HI0 := Aside0.mk (IsS39.drew HI0.out)
          replace HK := Aside0.mk (keep_drew HK.out)
          replace HB := Aside0.mk (below_drew1 HB.out)
          refine start_ (n := 17) (S := fun w' => w'.cell? ⟨g, 0, none⟩ = some (.int .i64 s0_0) ∧ w'.cell? ⟨g, 1, none⟩ = some (.int .i64 s0_1) ∧ w'.cell? ⟨g, 2, none⟩ = some (.int .i64 s0_2) ∧ w'.cell? ⟨g, 3, none⟩ = some (.int .i64 s0_3) ∧ w'.cell? ⟨g, 4, none⟩ = some (.string s0_4) ∧ w'.cell? ⟨g, 5, none⟩ = some (.int .i64 x1005_3) ∧ w'.cell? ⟨g, 6, none⟩ = some (.int .i64 x1006_10) ∧ w'.cell? ⟨g, 7, none⟩ = some (.bool s0_7) ∧ w'.cell? ⟨g, 8, none⟩ = some (.string s0_8) ∧ w'.cell? ⟨g, 10, none⟩ = some (.bool s0_10) ∧ w'.cell? ⟨g, 11, none⟩ = some (.int .i64 s0_11) ∧ w'.cell? ⟨g, 12, none⟩ = some (.int .i64 s0_12)) (ds := []) #[false, false, false, false, false, false, false, false, false, false, false, false, false, false, false, false, false] B9x5_ rfl rfl ⟨(blk_cell HI0.out.1 0).trans rfl, (blk_cell HI0.out.1 1).trans rfl, (blk_cell HI0.out.1 2).trans rfl, (blk_cell HI0.out.1 3).trans rfl, (blk_cell HI0.out.1 4).trans rfl, (blk_cell HI0.out.1 5).trans rfl, (blk_cell HI0.out.1 6).trans rfl, (blk_cell HI0.out.1 7).trans rfl, (blk_cell HI0.out.1 8).trans rfl, (blk_cell HI0.out.1 10).trans rfl, (blk_cell HI0.out.1 11).trans rfl, (blk_cell HI0.out.1 12).trans rfl⟩ (fun hHeld => ?_); refine with_tabW impl_Stream_pushOpen.tab6 impl_Stream_pushOpen.bits6 (fun HT_ HW_ => ?_)
          generalize wr.drew = w26 at HO_7 HI0 HK HB hHeld ⊢
          refine pu_ 0 36 HT_ ?_
          refine pu_ 1 37 HT_ ?_
          refine pu_ 2 38 HT_ ?_
          refine pu_ 4 40 HT_ ?_
          refine pu_ 5 41 HT_ ?_
          refine pu_ 6 42 HT_ ?_
          refine ta_ 3 39 HT_ HW_ hHeld ?_
          refine ta_ 7 43 HT_ HW_ hHeld ?_
          refine pu_ 8 44 HT_ ?_
          refine pu_ 9 45 HT_ ?_
          refine pu_ 10 46 HT_ ?_
          refine pu_ 11 47 HT_ ?_
          refine pu_ 12 48 HT_ ?_
          refine pu_ 13 49 HT_ ?_
          refine ta_ 14 50 HT_ HW_ hHeld ?_
          refine pu_ 15 51 HT_ ?_
          refine pu_ 16 52 HT_ ?_
          refine done_ (done_of HT_.out B9x5_) ?_
          try go_wp2
          replace HO_7 := Aside0.mk (Kd.R_drew HO_7.out)
          replace HI0 := Aside0.mk (IsS39.drew HI0.out)
          replace HK := Aside0.mk (keep_drew HK.out)
          replace HB := Aside0.mk (below_drew1 HB.out)
          refine start_ (n := 17) (S := fun w' => w'.cell? ⟨g, 0, none⟩ = some (.int .i64 s0_0) ∧ w'.cell? ⟨g, 1, none⟩ = some (.int .i64 s0_1) ∧ w'.cell? ⟨g, 2, none⟩ = some (.int .i64 s0_2) ∧ w'.cell? ⟨g, 3, none⟩ = some (.int .i64 s0_3) ∧ w'.cell? ⟨g, 4, none⟩ = some (.string s0_4) ∧ w'.cell? ⟨g, 5, none⟩ = some (.int .i64 x1005_3) ∧ w'.cell? ⟨g, 6, none⟩ = some (.int .i64 x1006_10) ∧ w'.cell? ⟨g, 7, none⟩ = some (.bool s0_7) ∧ w'.cell? ⟨g, 8, none⟩ = some (.string s0_8) ∧ w'.cell? ⟨g, 10, none⟩ = some (.bool s0_10) ∧ w'.cell? ⟨g, 11, none⟩ = some (.int .i64 s0_11) ∧ w'.cell? ⟨g, 12, none⟩ = some (.int .i64 s0_12)) (ds := []) #[false, false, false, false, false, false, false, false, false, false, false, false, false, false, false, false, false] B9x5_ rfl rfl ⟨(blk_cell HI0.out.1 0).trans rfl, (blk_cell HI0.out.1 1).trans rfl, (blk_cell HI0.out.1 2).trans rfl, (blk_cell HI0.out.1 3).trans rfl, (blk_cell HI0.out.1 4).trans rfl, (blk_cell HI0.out.1 5).trans rfl, (blk_cell HI0.out.1 6).trans rfl, (blk_cell HI0.out.1 7).trans rfl, (blk_cell HI0.out.1 8).trans rfl, (blk_cell HI0.out.1 10).trans rfl, (blk_cell HI0.out.1 11).trans rfl, (blk_cell HI0.out.1 12).trans rfl⟩ (fun hHeld => ?_); refine with_tabW impl_Stream_pushOpen.tab7 impl_Stream_pushOpen.bits7 (fun HT_ HW_ => ?_)
          generalize w26.drew = w27 at HO_7 HI0 HK HB hHeld ⊢
          refine pu_ 0 53 HT_ ?_
          refine pu_ 1 54 HT_ ?_
          refine pu_ 2 55 HT_ ?_
          refine pu_ 5 58 HT_ ?_
          refine pu_ 6 59 HT_ ?_
          refine pu_ 7 60 HT_ ?_
          refine pu_ 10 63 HT_ ?_
          refine pu_ 11 64 HT_ ?_
          refine pu_ 12 65 HT_ ?_
          refine ta_ 3 56 HT_ HW_ hHeld ?_
          refine pu_ 4 57 HT_ ?_
          refine ta_ 8 61 HT_ HW_ hHeld ?_
          refine pu_ 9 62 HT_ ?_
          refine ta_ 13 66 HT_ HW_ hHeld ?_
          refine pu_ 14 67 HT_ ?_
          refine pu_ 15 68 HT_ ?_
          refine pu_ 16 8 HT_ ?_
          refine done_ (done_of HT_.out B9x5_) ?_
          try go_wp2
          replace HO_7 := Aside0.mk (Kd.R_drew HO_7.out)
          replace HI0 := Aside0.mk (IsS39.drew HI0.out)
          replace HK := Aside0.mk (keep_drew HK.out)
          replace HB := Aside0.mk (below_drew1 HB.out)
          refine start_ (n := 33) (S := fun w' => w'.cell? ⟨g, 0, none⟩ = some (.int .i64 s0_0) ∧ w'.cell? ⟨g, 1, none⟩ = some (.int .i64 s0_1) ∧ w'.cell? ⟨g, 2, none⟩ = some (.int .i64 s0_2) ∧ w'.cell? ⟨g, 3, none⟩ = some (.int .i64 s0_3) ∧ w'.cell? ⟨g, 4, none⟩ = some (.string s0_4) ∧ w'.cell? ⟨g, 5, none⟩ = some (.int .i64 x1005_3) ∧ w'.cell? ⟨g, 6, none⟩ = some (.int .i64 x1006_10) ∧ w'.cell? ⟨g, 7, none⟩ = some (.bool s0_7) ∧ w'.cell? ⟨g, 8, none⟩ = some (.string s0_8) ∧ w'.cell? ⟨g, 10, none⟩ = some (.bool s0_10) ∧ w'.cell? ⟨g, 11, none⟩ = some (.int .i64 s0_11) ∧ w'.cell? ⟨g, 12, none⟩ = some (.int .i64 s0_12)) (ds := []) #[false, false, false, false, false, false, false, false, false, false, false, false, false, false, false, false, false, false, false, false, false, false, false, false, false, false, false, false, false, false, false, false, false] B9x5_ rfl rfl ⟨(blk_cell HI0.out.1 0).trans rfl, (blk_cell HI0.out.1 1).trans rfl, (blk_cell HI0.out.1 2).trans rfl, (blk_cell HI0.out.1 3).trans rfl, (blk_cell HI0.out.1 4).trans rfl, (blk_cell HI0.out.1 5).trans rfl, (blk_cell HI0.out.1 6).trans rfl, (blk_cell HI0.out.1 7).trans rfl, (blk_cell HI0.out.1 8).trans rfl, (blk_cell HI0.out.1 10).trans rfl, (blk_cell HI0.out.1 11).trans rfl, (blk_cell HI0.out.1 12).trans rfl⟩ (fun hHeld => ?_); refine with_tabW impl_Stream_pushOpen.tab8 impl_Stream_pushOpen.bits8 (fun HT_ HW_ => ?_)
          generalize w27.drew = w28 at HO_7 HI0 HK HB hHeld ⊢
          refine pu_ 0 69 HT_ ?_
          refine pu_ 1 70 HT_ ?_
          refine pu_ 2 71 HT_ ?_
          refine pu_ 3 72 HT_ ?_
          refine pu_ 5 74 HT_ ?_
          refine pu_ 6 75 HT_ ?_
          refine pu_ 7 76 HT_ ?_
          refine pu_ 10 79 HT_ ?_
          refine pu_ 11 80 HT_ ?_
          refine pu_ 12 81 HT_ ?_
          refine pu_ 14 83 HT_ ?_
          refine pu_ 15 84 HT_ ?_
          refine pu_ 16 85 HT_ ?_
          refine pu_ 18 87 HT_ ?_
          refine pu_ 19 88 HT_ ?_
          refine pu_ 20 89 HT_ ?_
          refine pu_ 22 91 HT_ ?_
          refine pu_ 23 92 HT_ ?_
          refine pu_ 24 93 HT_ ?_
          refine pu_ 26 95 HT_ ?_
          refine ta_ 4 73 HT_ HW_ hHeld ?_
          refine ta_ 8 77 HT_ HW_ hHeld ?_
          refine ta_ 13 82 HT_ HW_ hHeld ?_
          refine ta_ 17 86 HT_ HW_ hHeld ?_
          refine ta_ 21 90 HT_ HW_ hHeld ?_
          refine ta_ 25 94 HT_ HW_ hHeld ?_
          refine pu_ 27 96 HT_ ?_
          refine pu_ 28 97 HT_ ?_
          refine one_ (i := 9) (N := some 78) #[true, true, true, true, true, true, true, true, true, true, true, true, true, true, true, true, true, true, true, true, true, true, true, true, true, true, true, true, true, false, false, false, false] rfl rfl (one_of HT_.out B9x5_) (by decide) (fun K hK => ?_)
          refine goes_ Try.func135 B9x5_ rfl #[.int .i64 s0_2, .int .i64 x1005_3] (by rfl) rfl rfl B9x4_ ?_
          with_reducible refine (impl_AddNum.calls s0_2 x1005_3 t299 _ A21.out).mono ?_
          rintro e w' ⟨rfl, ⟨nd, rfl⟩⟩
          refine ⟨_, rfl, ?_⟩
          refine hK.out _ _ ⟨(blk_cell HI0.out.1 0).trans rfl, (blk_cell HI0.out.1 1).trans rfl, (blk_cell HI0.out.1 2).trans rfl, (blk_cell HI0.out.1 3).trans rfl, (blk_cell HI0.out.1 4).trans rfl, (blk_cell HI0.out.1 5).trans rfl, (blk_cell HI0.out.1 6).trans rfl, (blk_cell HI0.out.1 7).trans rfl, (blk_cell HI0.out.1 8).trans rfl, (blk_cell HI0.out.1 10).trans rfl, (blk_cell HI0.out.1 11).trans rfl, (blk_cell HI0.out.1 12).trans rfl⟩ (fun hHeld => ?_)
          clear hK K
          refine norm_ (a' := ?_) ?_ ?_
          rotate_left
          ·show Act.put _ (some 78) _ = _
           simp only [Act.put, List.setIfInBounds_toArray, List.set_cons_zero, List.set_cons_succ, i64_w, i32_w]
           rfl
          refine pu_ 29 98 HT_ ?_
          refine one_ (i := 30) (N := some 99) #[true, true, true, true, true, true, true, true, true, true, true, true, true, true, true, true, true, true, true, true, true, true, true, true, true, true, true, true, true, true, true, false, false] rfl rfl (one_of HT_.out B9x5_) (by decide) (fun K hK => ?_)
          refine value_ (w1 := ?_) (v := ?_) (by rfl) rfl ?_ ?_
          rotate_left 2
          ·go_simp
           constructor
           ·rfl
           ·rfl
          refine hK.out _ _ ⟨(blk_cell (blk_alloc HI0.out.1 _) 0).trans rfl, (blk_cell (blk_alloc HI0.out.1 _) 1).trans rfl, (blk_cell (blk_alloc HI0.out.1 _) 2).trans rfl, (blk_cell (blk_alloc HI0.out.1 _) 3).trans rfl, (blk_cell (blk_alloc HI0.out.1 _) 4).trans rfl, (blk_cell (blk_alloc HI0.out.1 _) 5).trans rfl, (blk_cell (blk_alloc HI0.out.1 _) 6).trans rfl, (blk_cell (blk_alloc HI0.out.1 _) 7).trans rfl, (blk_cell (blk_alloc HI0.out.1 _) 8).trans rfl, (blk_cell (blk_alloc HI0.out.1 _) 10).trans rfl, (blk_cell (blk_alloc HI0.out.1 _) 11).trans rfl, (blk_cell (blk_alloc HI0.out.1 _) 12).trans rfl⟩ (fun hHeld => ?_)
          clear hK K
          refine norm_ (a' := ?_) ?_ ?_
          rotate_left
          ·show Act.put _ (some 99) _ = _
           simp only [Act.put, List.setIfInBounds_toArray, List.set_cons_zero, List.set_cons_succ, i64_w, i32_w]
           rfl
          refine one_ (i := 31) (N := some 100) #[true, true, true, true, true, true, true, true, true, true, true, true, true, true, true, true, true, true, true, true, true, true, true, true, true, true, true, true, true, true, true, true, false] rfl rfl (one_of HT_.out B9x5_) (by decide) (fun K hK => ?_)
          refine Kd.R_append_step k28 w.heap.size (by rfl) (.tmp 69) (.tmp 99) 40 28 (.agg #[(.int .i64 0), (.int .i64 0), (.int .i64 0), (.string ⟨#[]⟩)]) 40 rfl Try.underlying40 info28 rfl (by decide) (by omega) u7 x7_3 (⟨t299, s0_3, 2, s0_4.extract (x1005_3 : Int).toNat ((wrap64 (x1005_3 + (ji20))) : Int).toNat⟩ : S28) [.int .i64 t299, .int .i64 s0_3, .int .i64 2, .string (s0_4.extract (x1005_3 : Int).toNat ((wrap64 (x1005_3 + (ji20))) : Int).toNat)] (fun _ => True) (fun _ => False) rfl rfl ?aP (fun _ hk => hk.elim) ?aF ?aO (Below.refl _ _) ?aS ?aL ?_
          (case aP => exact k28_mkM _ _ _ (⟨t299, s0_3, 2, s0_4.extract (x1005_3 : Int).toNat ((wrap64 (x1005_3 + (ji20))) : Int).toNat⟩ : S28))
          (case aF => exact (fun _ _ => trivial))
          (case aO => exact B9x3_)
          (case aS => exact B9x7_)
          (case aL => have := LMc25.out; omega)
          intro v301 w29 ho hb hg hat
          rw [← Ny300.out] at ho
          replace HB := Aside0.mk (below_weaken B9x2_ HL.out hb)
          replace HI0 := Aside0.mk (IsS39.grown B9x0_ hg (IsS39.own_ne HI0.out HO_7.out (by decide)))
          replace HK := Aside0.mk (KeepBut.trans B9x1_ (KeepBut.of_grown hg g) (Kd.R_base2 HO_7.out))
          have HO302 := Aside0.mk (ho)
          clear HO_7
          clear ho hb hg hat
          refine hK.out _ _ ⟨(blk_cell HI0.out.1 0).trans rfl, (blk_cell HI0.out.1 1).trans rfl, (blk_cell HI0.out.1 2).trans rfl, (blk_cell HI0.out.1 3).trans rfl, (blk_cell HI0.out.1 4).trans rfl, (blk_cell HI0.out.1 5).trans rfl, (blk_cell HI0.out.1 6).trans rfl, (blk_cell HI0.out.1 7).trans rfl, (blk_cell HI0.out.1 8).trans rfl, (blk_cell HI0.out.1 10).trans rfl, (blk_cell HI0.out.1 11).trans rfl, (blk_cell HI0.out.1 12).trans rfl⟩ (fun hHeld => ?_)
          clear hK K
          refine norm_ (a' := ?_) ?_ ?_
          rotate_left
          ·show Act.put _ (some 100) _ = _
           simp only [Act.put, List.setIfInBounds_toArray, List.set_cons_zero, List.set_cons_succ, i64_w, i32_w]
           rfl
          refine pu_ 32 7 HT_ ?_
          refine done_ (done_of HT_.out B9x5_) ?_
          obtain ⟨HGz30, hgz30⟩ := HI0.out
          have hcz30_0 := cellS39_0 HGz30
          have hcz30_1 := cellS39_1 HGz30
          have hcz30_2 := cellS39_2 HGz30
          have hcz30_3 := cellS39_3 HGz30
          have hcz30_4 := cellS39_4 HGz30
          have hcz30_5 := cellS39_5 HGz30
          have hcz30_6 := cellS39_6 HGz30
          have hcz30_7 := cellS39_7 HGz30
          have hcz30_8 := cellS39_8 HGz30
          have hcz30_9 := cellS39_9 HGz30
          have hcz30_10 := cellS39_10 HGz30
          have hcz30_11 := cellS39_11 HGz30
          have hcz30_12 := cellS39_12 HGz30
          obtain ⟨hfz30_0, hfz30_1, hfz30_2, hfz30_3, hfz30_4, hfz30_5, hfz30_6, hfz30_7, hfz30_8⟩ := fr9 HGz30
          have hfz30_10 := blk_frozen HGz30 10
          have hfz30_11 := blk_frozen HGz30 11
          have hfz30_12 := blk_frozen HGz30 12
          clear HGz30 hgz30
          try go_wp2
          go_roundg k3
          case measure => have := HJ3.out; have := HJ10.out; have := HK3.out; omega
          case rel => exact ⟨(y300), (wrap64 (x1005_3 + (ji20))), H', ⟨(by have := HJ3.out; have := HJ10.out; have := HK3.out; omega)⟩, ⟨(by (with_reducible repeat (first | apply Kd.R_alloc | apply Kd.R_drewN | apply Kd.R_drew)); exact Kd.R_mono (Kd.R_far (p := ⟨g, 5, none⟩) (IsS39.apart HI0.out HO302.out (by decide)) (fun _ hk => hk.2) (.int .i64 (wrap64 (x1005_3 + (ji20))))) (fun _ hk => trivial))⟩, ⟨B9x0_⟩, ⟨B9x1_⟩, ⟨B9x2_⟩⟩
         ·rw [if_neg c18] at H
          have c18b0 : decide (x1005_3 < 24) = false := decide_eq_false c18
          clear c18
          have H' := Aside0.mk H
          clear H
          try go_wp2
          replace HO_7 := Aside0.mk (Kd.R_drew HO_7.out)
          replace HI0 := Aside0.mk (IsS39.drew HI0.out)
          replace HK := Aside0.mk (keep_drew HK.out)
          replace HB := Aside0.mk (below_drew1 HB.out)
          refine start_ (n := 17) (S := fun w' => w'.cell? ⟨g, 0, none⟩ = some (.int .i64 s0_0) ∧ w'.cell? ⟨g, 1, none⟩ = some (.int .i64 s0_1) ∧ w'.cell? ⟨g, 2, none⟩ = some (.int .i64 s0_2) ∧ w'.cell? ⟨g, 3, none⟩ = some (.int .i64 s0_3) ∧ w'.cell? ⟨g, 4, none⟩ = some (.string s0_4) ∧ w'.cell? ⟨g, 5, none⟩ = some (.int .i64 x1005_3) ∧ w'.cell? ⟨g, 6, none⟩ = some (.int .i64 x1006_10) ∧ w'.cell? ⟨g, 7, none⟩ = some (.bool s0_7) ∧ w'.cell? ⟨g, 8, none⟩ = some (.string s0_8) ∧ w'.cell? ⟨g, 10, none⟩ = some (.bool s0_10) ∧ w'.cell? ⟨g, 11, none⟩ = some (.int .i64 s0_11) ∧ w'.cell? ⟨g, 12, none⟩ = some (.int .i64 s0_12)) (ds := []) #[false, false, false, false, false, false, false, false, false, false, false, false, false, false, false, false, false] B9x5_ rfl rfl ⟨(blk_cell HI0.out.1 0).trans rfl, (blk_cell HI0.out.1 1).trans rfl, (blk_cell HI0.out.1 2).trans rfl, (blk_cell HI0.out.1 3).trans rfl, (blk_cell HI0.out.1 4).trans rfl, (blk_cell HI0.out.1 5).trans rfl, (blk_cell HI0.out.1 6).trans rfl, (blk_cell HI0.out.1 7).trans rfl, (blk_cell HI0.out.1 8).trans rfl, (blk_cell HI0.out.1 10).trans rfl, (blk_cell HI0.out.1 11).trans rfl, (blk_cell HI0.out.1 12).trans rfl⟩ (fun hHeld => ?_); refine with_tabW impl_Stream_pushOpen.tab6 impl_Stream_pushOpen.bits6 (fun HT_ HW_ => ?_)
          generalize wr.drew = w31 at HO_7 HI0 HK HB hHeld ⊢
          refine pu_ 0 36 HT_ ?_
          refine pu_ 1 37 HT_ ?_
          refine pu_ 2 38 HT_ ?_
          refine pu_ 4 40 HT_ ?_
          refine pu_ 5 41 HT_ ?_
          refine pu_ 6 42 HT_ ?_
          refine ta_ 3 39 HT_ HW_ hHeld ?_
          refine ta_ 7 43 HT_ HW_ hHeld ?_
          refine pu_ 8 44 HT_ ?_
          refine pu_ 9 45 HT_ ?_
          refine pu_ 10 46 HT_ ?_
          refine pu_ 11 47 HT_ ?_
          refine pu_ 12 48 HT_ ?_
          refine pu_ 13 49 HT_ ?_
          refine ta_ 14 50 HT_ HW_ hHeld ?_
          refine pu_ 15 51 HT_ ?_
          refine pu_ 16 52 HT_ ?_
          refine done_ (done_of HT_.out B9x5_) ?_
          try go_wp2
          go_meet
          case rel => exact ⟨_, (x7_3), (x1005_3), H', ⟨B9x11_⟩, ⟨B9x3_⟩, ⟨B9x0_⟩, ⟨B9x1_⟩, ⟨B9x2_⟩⟩
        ·rw [if_neg c17] at H
         have c17b0 : decide (x1005_3 < (s0_4.size : Int)) = false := decide_eq_false c17
         clear c17
         (first | rw [c17b0] | (simp only [i64_w, i32_w]; rw [c17b0]) | skip)
         have H' := Aside0.mk H
         clear H
         try go_wp2
         replace HO_7 := Aside0.mk (Kd.R_drew HO_7.out)
         replace HI0 := Aside0.mk (IsS39.drew HI0.out)
         replace HK := Aside0.mk (keep_drew HK.out)
         replace HB := Aside0.mk (below_drew1 HB.out)
         refine start_ (n := 17) (S := fun w' => w'.cell? ⟨g, 0, none⟩ = some (.int .i64 s0_0) ∧ w'.cell? ⟨g, 1, none⟩ = some (.int .i64 s0_1) ∧ w'.cell? ⟨g, 2, none⟩ = some (.int .i64 s0_2) ∧ w'.cell? ⟨g, 3, none⟩ = some (.int .i64 s0_3) ∧ w'.cell? ⟨g, 4, none⟩ = some (.string s0_4) ∧ w'.cell? ⟨g, 5, none⟩ = some (.int .i64 x1005_3) ∧ w'.cell? ⟨g, 6, none⟩ = some (.int .i64 x1006_10) ∧ w'.cell? ⟨g, 7, none⟩ = some (.bool s0_7) ∧ w'.cell? ⟨g, 8, none⟩ = some (.string s0_8) ∧ w'.cell? ⟨g, 10, none⟩ = some (.bool s0_10) ∧ w'.cell? ⟨g, 11, none⟩ = some (.int .i64 s0_11) ∧ w'.cell? ⟨g, 12, none⟩ = some (.int .i64 s0_12)) (ds := []) #[false, false, false, false, false, false, false, false, false, false, false, false, false, false, false, false, false] B9x5_ rfl rfl ⟨(blk_cell HI0.out.1 0).trans rfl, (blk_cell HI0.out.1 1).trans rfl, (blk_cell HI0.out.1 2).trans rfl, (blk_cell HI0.out.1 3).trans rfl, (blk_cell HI0.out.1 4).trans rfl, (blk_cell HI0.out.1 5).trans rfl, (blk_cell HI0.out.1 6).trans rfl, (blk_cell HI0.out.1 7).trans rfl, (blk_cell HI0.out.1 8).trans rfl, (blk_cell HI0.out.1 10).trans rfl, (blk_cell HI0.out.1 11).trans rfl, (blk_cell HI0.out.1 12).trans rfl⟩ (fun hHeld => ?_); refine with_tabW impl_Stream_pushOpen.tab6 impl_Stream_pushOpen.bits6 (fun HT_ HW_ => ?_)
         generalize wr.drew = w32 at HO_7 HI0 HK HB hHeld ⊢
         refine pu_ 0 36 HT_ ?_
         refine pu_ 1 37 HT_ ?_
         refine pu_ 2 38 HT_ ?_
         refine pu_ 4 40 HT_ ?_
         refine pu_ 5 41 HT_ ?_
         refine pu_ 6 42 HT_ ?_
         refine ta_ 3 39 HT_ HW_ hHeld ?_
         refine ta_ 7 43 HT_ HW_ hHeld ?_
         refine pu_ 8 44 HT_ ?_
         refine pu_ 9 45 HT_ ?_
         refine pu_ 10 46 HT_ ?_
         refine of_ 11 47 HT_ ?_
         refine of_ 12 48 HT_ ?_
         refine of_ 13 49 HT_ ?_
         refine of_ 14 50 HT_ ?_
         refine of_ 15 51 HT_ ?_
         refine pu_ 16 52 HT_ ?_
         refine done_ (done_of HT_.out B9x5_) ?_
         try go_wp2
         go_meet
         case rel => exact ⟨_, (x7_3), (x1005_3), H', ⟨B9x11_⟩, ⟨B9x3_⟩, ⟨B9x0_⟩, ⟨B9x1_⟩, ⟨B9x2_⟩⟩
     case rest => as_aux_lemma =>
      clear HC16
      obtain ⟨kq, x7_15, x1005_15, HA, HJ15, HO_7, HI0, HK, HB⟩ := hcut
      cases kq with
      | zero => exact absurd HA.out (by simp [impl_Stream_pushOpen.j3])
      | succ kj15 =>
       have H := HA.out
       clear HA
       simp only [impl_Stream_pushOpen.j3] at H
       have HC33 := Aside0.mk H
       clear H
       go_upto_region 10 with (fail)
       go_cut [125] (fun v125 wc => ∃ (kq : Nat) (x125_32 : Bool), v125 = .bool x125_32 ∧ Aside0 (impl_Stream_pushOpen.j4 kq a1 x7_15 x125_32 s0_0 s0_1 s0_2 s0_3 s0_4 x1005_15 x1006_10 s0_7 s0_8 s0_9 s0_10 s0_11 s0_12 = some (r1, r2, r3, r4, r5, r6, r7, r8, r9, r10, r11, r12, r13)) ∧ Aside0 (kq ≤ kj15) ∧ Aside0 (Kd.R k28 28 wc w.heap.size (fun _ => True) u7 x7_15) ∧ Aside0 (IsS39 w0 wc g s0_0 s0_1 s0_2 s0_3 s0_4 x1005_15 x1006_10 s0_7 s0_8 s0_9v s0_10 s0_11 s0_12) ∧ Aside0 (KeepBut w wc g none) ∧ Aside0 (Below w0.heap.size w0 wc))
       case first => as_aux_lemma =>
        have H := HC33.out
        clear HC33
        by_cases c34 : x1006_10 = 1
        ·rw [if_pos c34] at H
         have c34b0 := beq_iff_eq.mpr c34
         have c34b1 := bne_eq_false_iff_eq.mpr c34
         clear c34
         (first | rw [c34b0] | (simp only [i64_w, i32_w]; rw [c34b0]) | skip)
         have H' := Aside0.mk H
         clear H
         try go_wp2
         replace HO_7 := Aside0.mk (Kd.R_drew HO_7.out)
         replace HI0 := Aside0.mk (IsS39.drew HI0.out)
         replace HK := Aside0.mk (keep_drew HK.out)
         replace HB := Aside0.mk (below_drew1 HB.out)
         refine start_ (n := 17) (S := fun w' => w'.cell? ⟨g, 0, none⟩ = some (.int .i64 s0_0) ∧ w'.cell? ⟨g, 1, none⟩ = some (.int .i64 s0_1) ∧ w'.cell? ⟨g, 2, none⟩ = some (.int .i64 s0_2) ∧ w'.cell? ⟨g, 3, none⟩ = some (.int .i64 s0_3) ∧ w'.cell? ⟨g, 4, none⟩ = some (.string s0_4) ∧ w'.cell? ⟨g, 5, none⟩ = some (.int .i64 x1005_15) ∧ w'.cell? ⟨g, 6, none⟩ = some (.int .i64 x1006_10) ∧ w'.cell? ⟨g, 7, none⟩ = some (.bool s0_7) ∧ w'.cell? ⟨g, 8, none⟩ = some (.string s0_8) ∧ w'.cell? ⟨g, 10, none⟩ = some (.bool s0_10) ∧ w'.cell? ⟨g, 11, none⟩ = some (.int .i64 s0_11) ∧ w'.cell? ⟨g, 12, none⟩ = some (.int .i64 s0_12)) (ds := []) #[false, false, false, false, false, false, false, false, false, false, false, false, false, false, false, false, false] B9x5_ rfl rfl ⟨(blk_cell HI0.out.1 0).trans rfl, (blk_cell HI0.out.1 1).trans rfl, (blk_cell HI0.out.1 2).trans rfl, (blk_cell HI0.out.1 3).trans rfl, (blk_cell HI0.out.1 4).trans rfl, (blk_cell HI0.out.1 5).trans rfl, (blk_cell HI0.out.1 6).trans rfl, (blk_cell HI0.out.1 7).trans rfl, (blk_cell HI0.out.1 8).trans rfl, (blk_cell HI0.out.1 10).trans rfl, (blk_cell HI0.out.1 11).trans rfl, (blk_cell HI0.out.1 12).trans rfl⟩ (fun hHeld => ?_); refine with_tabW impl_Stream_pushOpen.tab10 impl_Stream_pushOpen.bits10 (fun HT_ HW_ => ?_)
         generalize wc.drew = w35 at HO_7 HI0 HK HB hHeld ⊢
         refine pu_ 0 109 HT_ ?_
         refine pu_ 1 110 HT_ ?_
         refine pu_ 2 111 HT_ ?_
         refine ta_ 3 112 HT_ HW_ hHeld ?_
         refine pu_ 4 113 HT_ ?_
         refine pu_ 5 114 HT_ ?_
         refine pu_ 6 115 HT_ ?_
         refine pu_ 7 116 HT_ ?_
         refine pu_ 8 117 HT_ ?_
         refine pu_ 10 119 HT_ ?_
         refine pu_ 11 120 HT_ ?_
         refine pu_ 12 121 HT_ ?_
         refine ta_ 9 118 HT_ HW_ hHeld ?_
         refine ta_ 13 122 HT_ HW_ hHeld ?_
         refine pu_ 14 123 HT_ ?_
         refine pu_ 15 124 HT_ ?_
         refine pu_ 16 125 HT_ ?_
         refine done_ (done_of HT_.out B9x5_) ?_
         try go_wp2
         go_meet
         case rel => exact ⟨_, ((x1005_15 == (s0_4.size : Int))), (be_), H', ⟨B9x10_⟩, ⟨B9x3_⟩, ⟨B9x0_⟩, ⟨B9x1_⟩, ⟨B9x2_⟩⟩
        ·rw [if_neg c34] at H
         have c34b0 := beq_eq_false_iff_ne.mpr c34
         have c34b1 := bne_iff_ne.mpr c34
         (first | rw [c34b0] | (simp only [i64_w, i32_w]; rw [c34b0]) | skip)
         have H' := Aside0.mk H
         clear H
         try go_wp2
         replace HO_7 := Aside0.mk (Kd.R_drew HO_7.out)
         replace HI0 := Aside0.mk (IsS39.drew HI0.out)
         replace HK := Aside0.mk (keep_drew HK.out)
         replace HB := Aside0.mk (below_drew1 HB.out)
         refine start_ (n := 17) (S := fun w' => w'.cell? ⟨g, 0, none⟩ = some (.int .i64 s0_0) ∧ w'.cell? ⟨g, 1, none⟩ = some (.int .i64 s0_1) ∧ w'.cell? ⟨g, 2, none⟩ = some (.int .i64 s0_2) ∧ w'.cell? ⟨g, 3, none⟩ = some (.int .i64 s0_3) ∧ w'.cell? ⟨g, 4, none⟩ = some (.string s0_4) ∧ w'.cell? ⟨g, 5, none⟩ = some (.int .i64 x1005_15) ∧ w'.cell? ⟨g, 6, none⟩ = some (.int .i64 x1006_10) ∧ w'.cell? ⟨g, 7, none⟩ = some (.bool s0_7) ∧ w'.cell? ⟨g, 8, none⟩ = some (.string s0_8) ∧ w'.cell? ⟨g, 10, none⟩ = some (.bool s0_10) ∧ w'.cell? ⟨g, 11, none⟩ = some (.int .i64 s0_11) ∧ w'.cell? ⟨g, 12, none⟩ = some (.int .i64 s0_12)) (ds := []) #[false, false, false, false, false, false, false, false, false, false, false, false, false, false, false, false, false] B9x5_ rfl rfl ⟨(blk_cell HI0.out.1 0).trans rfl, (blk_cell HI0.out.1 1).trans rfl, (blk_cell HI0.out.1 2).trans rfl, (blk_cell HI0.out.1 3).trans rfl, (blk_cell HI0.out.1 4).trans rfl, (blk_cell HI0.out.1 5).trans rfl, (blk_cell HI0.out.1 6).trans rfl, (blk_cell HI0.out.1 7).trans rfl, (blk_cell HI0.out.1 8).trans rfl, (blk_cell HI0.out.1 10).trans rfl, (blk_cell HI0.out.1 11).trans rfl, (blk_cell HI0.out.1 12).trans rfl⟩ (fun hHeld => ?_); refine with_tabW impl_Stream_pushOpen.tab10 impl_Stream_pushOpen.bits10 (fun HT_ HW_ => ?_)
         generalize wc.drew = w36 at HO_7 HI0 HK HB hHeld ⊢
         refine pu_ 0 109 HT_ ?_
         refine pu_ 1 110 HT_ ?_
         refine pu_ 2 111 HT_ ?_
         refine ta_ 3 112 HT_ HW_ hHeld ?_
         refine pu_ 4 113 HT_ ?_
         refine pu_ 5 114 HT_ ?_
         refine of_ 6 115 HT_ ?_
         refine of_ 7 116 HT_ ?_
         refine of_ 8 117 HT_ ?_
         refine of_ 9 118 HT_ ?_
         refine of_ 10 119 HT_ ?_
         refine of_ 11 120 HT_ ?_
         refine of_ 12 121 HT_ ?_
         refine of_ 13 122 HT_ ?_
         refine of_ 14 123 HT_ ?_
         refine of_ 15 124 HT_ ?_
         refine pu_ 16 125 HT_ ?_
         refine done_ (done_of HT_.out B9x5_) ?_
         try go_wp2
         go_meet
         case rel => exact ⟨_, (false), (be_), H', ⟨B9x10_⟩, ⟨B9x3_⟩, ⟨B9x0_⟩, ⟨B9x1_⟩, ⟨B9x2_⟩⟩
       case rest => as_aux_lemma =>
        clear HC33
        obtain ⟨kq, x125_32, rfl, HA, HJ32, HO_7, HI0, HK, HB⟩ := hcut
        cases kq with
        | zero => exact absurd HA.out (by simp [impl_Stream_pushOpen.j4])
        | succ kj32 =>
         have H := HA.out
         clear HA
         simp only [impl_Stream_pushOpen.j4] at H
         have HC37 := Aside0.mk H
         clear H
         go_upto_if 125 with (fail)
         go_cut [7] (fun v7 wc => ∃ (kq : Nat) (x7_36 : List (S28)) (x1006_36 : Int), Aside0 (impl_Stream_pushOpen.j5 kq a1 x7_36 s0_0 s0_1 s0_2 s0_3 s0_4 x1005_15 x1006_36 s0_7 s0_8 s0_9 s0_10 s0_11 s0_12 = some (r1, r2, r3, r4, r5, r6, r7, r8, r9, r10, r11, r12, r13)) ∧ Aside0 (kq ≤ kj32) ∧ Aside0 (Kd.R k28 28 wc w.heap.size (fun _ => True) v7 x7_36) ∧ Aside0 (IsS39 w0 wc g s0_0 s0_1 s0_2 s0_3 s0_4 x1005_15 x1006_36 s0_7 s0_8 s0_9v s0_10 s0_11 s0_12) ∧ Aside0 (KeepBut w wc g none) ∧ Aside0 (Below w0.heap.size w0 wc))
         case first => as_aux_lemma =>
          have H := HC37.out
          clear HC37
          by_cases c38 : x125_32 = true
          ·subst c38
           rw [if_pos rfl] at H
           replace H := bsi H
           obtain ⟨t303, A39, H⟩ := H
           (try dsimp only at H)
           by_cases c40 : x7_15.length < 3518437208883
           rotate_left
           ·rw [if_neg c40] at H
            exact absurd H (by simp)
           rw [if_pos c40] at H
           have LMc40 := Aside0.mk c40
           clear c40
           obtain ⟨y304, hy304⟩ : ∃ y_ : List (S28), y_ = (x7_15 ++ [(⟨t303, s0_3, 6, (⟨#[]⟩ : ByteArray)⟩ : S28)]) := ⟨_, rfl⟩
           replace H : (impl_Stream_pushOpen.j5 kj32 a1 y304 s0_0 s0_1 s0_2 s0_3 s0_4 x1005_15 2 s0_7 s0_8 s0_9 s0_10 s0_11 s0_12) = some (r1, r2, r3, r4, r5, r6, r7, r8, r9, r10, r11, r12, r13) := by first | (rw [hy304]; with_reducible exact H) | (have H2_ := (Option.bind_some _ _).symm.trans H; rw [hy304]; with_reducible exact H2_) | (have H2_ := (Option.bind_some _ _).symm.trans H; with_reducible exact H2_) | with_reducible exact H | (rw [hy304]; exact H) | exact H
           have Ny304 := Aside0.mk hy304
           clear hy304
           have H' := Aside0.mk H
           clear H
           try go_wp2
           replace HO_7 := Aside0.mk (Kd.R_drew HO_7.out)
           replace HI0 := Aside0.mk (IsS39.drew HI0.out)
           replace HK := Aside0.mk (keep_drew HK.out)
           replace HB := Aside0.mk (below_drew1 HB.out)
           refine start_ (n := 18) (S := fun w' => w'.cell? ⟨g, 0, none⟩ = some (.int .i64 s0_0) ∧ w'.cell? ⟨g, 1, none⟩ = some (.int .i64 s0_1) ∧ w'.cell? ⟨g, 2, none⟩ = some (.int .i64 s0_2) ∧ w'.cell? ⟨g, 3, none⟩ = some (.int .i64 s0_3) ∧ w'.cell? ⟨g, 4, none⟩ = some (.string s0_4) ∧ w'.cell? ⟨g, 5, none⟩ = some (.int .i64 x1005_15) ∧ w'.cell? ⟨g, 6, none⟩ = some (.int .i64 x1006_10) ∧ w'.cell? ⟨g, 7, none⟩ = some (.bool s0_7) ∧ w'.cell? ⟨g, 8, none⟩ = some (.string s0_8) ∧ w'.cell? ⟨g, 10, none⟩ = some (.bool s0_10) ∧ w'.cell? ⟨g, 11, none⟩ = some (.int .i64 s0_11) ∧ w'.cell? ⟨g, 12, none⟩ = some (.int .i64 s0_12)) (ds := []) #[false, false, false, false, false, false, false, false, false, false, false, false, false, false, false, false, false, false] B9x5_ rfl rfl ⟨(blk_cell HI0.out.1 0).trans rfl, (blk_cell HI0.out.1 1).trans rfl, (blk_cell HI0.out.1 2).trans rfl, (blk_cell HI0.out.1 3).trans rfl, (blk_cell HI0.out.1 4).trans rfl, (blk_cell HI0.out.1 5).trans rfl, (blk_cell HI0.out.1 6).trans rfl, (blk_cell HI0.out.1 7).trans rfl, (blk_cell HI0.out.1 8).trans rfl, (blk_cell HI0.out.1 10).trans rfl, (blk_cell HI0.out.1 11).trans rfl, (blk_cell HI0.out.1 12).trans rfl⟩ (fun hHeld => ?_); refine with_tabW impl_Stream_pushOpen.tab11 impl_Stream_pushOpen.bits11 (fun HT_ HW_ => ?_)
           generalize wc.drew = w41 at HO_7 HI0 HK HB hHeld ⊢
           refine pu_ 0 126 HT_ ?_
           refine pu_ 1 127 HT_ ?_
           refine pu_ 2 128 HT_ ?_
           refine pu_ 3 129 HT_ ?_
           refine pu_ 5 131 HT_ ?_
           refine pu_ 6 132 HT_ ?_
           refine pu_ 7 133 HT_ ?_
           refine pu_ 10 136 HT_ ?_
           refine pu_ 11 137 HT_ ?_
           refine pu_ 12 138 HT_ ?_
           refine ta_ 4 130 HT_ HW_ hHeld ?_
           refine ta_ 8 134 HT_ HW_ hHeld ?_
           refine ta_ 13 139 HT_ HW_ hHeld ?_
           refine one_ (i := 9) (N := some 135) #[true, true, true, true, true, true, true, true, true, true, true, true, true, true, false, false, false, false] rfl rfl (one_of HT_.out B9x5_) (by decide) (fun K hK => ?_)
           refine goes_ Try.func135 B9x5_ rfl #[.int .i64 s0_2, .int .i64 x1005_15] (by rfl) rfl rfl B9x4_ ?_
           with_reducible refine (impl_AddNum.calls s0_2 x1005_15 t303 _ A39.out).mono ?_
           rintro e w' ⟨rfl, ⟨nd, rfl⟩⟩
           refine ⟨_, rfl, ?_⟩
           refine hK.out _ _ ⟨(blk_cell HI0.out.1 0).trans rfl, (blk_cell HI0.out.1 1).trans rfl, (blk_cell HI0.out.1 2).trans rfl, (blk_cell HI0.out.1 3).trans rfl, (blk_cell HI0.out.1 4).trans rfl, (blk_cell HI0.out.1 5).trans rfl, (blk_cell HI0.out.1 6).trans rfl, (blk_cell HI0.out.1 7).trans rfl, (blk_cell HI0.out.1 8).trans rfl, (blk_cell HI0.out.1 10).trans rfl, (blk_cell HI0.out.1 11).trans rfl, (blk_cell HI0.out.1 12).trans rfl⟩ (fun hHeld => ?_)
           clear hK K
           refine norm_ (a' := ?_) ?_ ?_
           rotate_left
           ·show Act.put _ (some 135) _ = _
            simp only [Act.put, List.setIfInBounds_toArray, List.set_cons_zero, List.set_cons_succ, i64_w, i32_w]
            rfl
           refine pu_ 14 140 HT_ ?_
           refine one_ (i := 15) (N := some 141) #[true, true, true, true, true, true, true, true, true, true, true, true, true, true, true, true, false, false] rfl rfl (one_of HT_.out B9x5_) (by decide) (fun K hK => ?_)
           refine value_ (w1 := ?_) (v := ?_) (by rfl) rfl ?_ ?_
           rotate_left 2
           ·go_simp
            constructor
            ·rfl
            ·rfl
           refine hK.out _ _ ⟨(blk_cell (blk_alloc HI0.out.1 _) 0).trans rfl, (blk_cell (blk_alloc HI0.out.1 _) 1).trans rfl, (blk_cell (blk_alloc HI0.out.1 _) 2).trans rfl, (blk_cell (blk_alloc HI0.out.1 _) 3).trans rfl, (blk_cell (blk_alloc HI0.out.1 _) 4).trans rfl, (blk_cell (blk_alloc HI0.out.1 _) 5).trans rfl, (blk_cell (blk_alloc HI0.out.1 _) 6).trans rfl, (blk_cell (blk_alloc HI0.out.1 _) 7).trans rfl, (blk_cell (blk_alloc HI0.out.1 _) 8).trans rfl, (blk_cell (blk_alloc HI0.out.1 _) 10).trans rfl, (blk_cell (blk_alloc HI0.out.1 _) 11).trans rfl, (blk_cell (blk_alloc HI0.out.1 _) 12).trans rfl⟩ (fun hHeld => ?_)
           clear hK K
           refine norm_ (a' := ?_) ?_ ?_
           rotate_left
           ·show Act.put _ (some 141) _ = _
            simp only [Act.put, List.setIfInBounds_toArray, List.set_cons_zero, List.set_cons_succ, i64_w, i32_w]
            rfl
           refine one_ (i := 16) (N := some 142) #[true, true, true, true, true, true, true, true, true, true, true, true, true, true, true, true, true, false] rfl rfl (one_of HT_.out B9x5_) (by decide) (fun K hK => ?_)
           refine Kd.R_append_step k28 w.heap.size (by rfl) (.tmp 126) (.tmp 141) 40 28 (.agg #[(.int .i64 0), (.int .i64 0), (.int .i64 0), (.string ⟨#[]⟩)]) 40 rfl Try.underlying40 info28 rfl (by decide) (by omega) u7 x7_15 (⟨t303, s0_3, 6, (⟨#[]⟩ : ByteArray)⟩ : S28) [.int .i64 t303, .int .i64 s0_3, .int .i64 6, .string (⟨#[]⟩ : ByteArray)] (fun _ => True) (fun _ => False) rfl rfl ?aP (fun _ hk => hk.elim) ?aF ?aO (Below.refl _ _) ?aS ?aL ?_
           (case aP => exact k28_mkM _ _ _ (⟨t303, s0_3, 6, (⟨#[]⟩ : ByteArray)⟩ : S28))
           (case aF => exact (fun _ _ => trivial))
           (case aO => exact B9x3_)
           (case aS => exact B9x7_)
           (case aL => have := LMc40.out; omega)
           intro v305 w42 ho hb hg hat
           rw [← Ny304.out] at ho
           replace HB := Aside0.mk (below_weaken B9x2_ HL.out hb)
           replace HI0 := Aside0.mk (IsS39.grown B9x0_ hg (IsS39.own_ne HI0.out HO_7.out (by decide)))
           replace HK := Aside0.mk (KeepBut.trans B9x1_ (KeepBut.of_grown hg g) (Kd.R_base2 HO_7.out))
           have HO306 := Aside0.mk (ho)
           clear HO_7
           clear ho hb hg hat
           refine hK.out _ _ ⟨(blk_cell HI0.out.1 0).trans rfl, (blk_cell HI0.out.1 1).trans rfl, (blk_cell HI0.out.1 2).trans rfl, (blk_cell HI0.out.1 3).trans rfl, (blk_cell HI0.out.1 4).trans rfl, (blk_cell HI0.out.1 5).trans rfl, (blk_cell HI0.out.1 6).trans rfl, (blk_cell HI0.out.1 7).trans rfl, (blk_cell HI0.out.1 8).trans rfl, (blk_cell HI0.out.1 10).trans rfl, (blk_cell HI0.out.1 11).trans rfl, (blk_cell HI0.out.1 12).trans rfl⟩ (fun hHeld => ?_)
           clear hK K
           refine norm_ (a' := ?_) ?_ ?_
           rotate_left
           ·show Act.put _ (some 142) _ = _
            simp only [Act.put, List.setIfInBounds_toArray, List.set_cons_zero, List.set_cons_succ, i64_w, i32_w]
            rfl
           refine pu_ 17 7 HT_ ?_
           refine done_ (done_of HT_.out B9x5_) ?_
           obtain ⟨HGz43, hgz43⟩ := HI0.out
           have hcz43_0 := cellS39_0 HGz43
           have hcz43_1 := cellS39_1 HGz43
           have hcz43_2 := cellS39_2 HGz43
           have hcz43_3 := cellS39_3 HGz43
           have hcz43_4 := cellS39_4 HGz43
           have hcz43_5 := cellS39_5 HGz43
           have hcz43_6 := cellS39_6 HGz43
           have hcz43_7 := cellS39_7 HGz43
           have hcz43_8 := cellS39_8 HGz43
           have hcz43_9 := cellS39_9 HGz43
           have hcz43_10 := cellS39_10 HGz43
           have hcz43_11 := cellS39_11 HGz43
           have hcz43_12 := cellS39_12 HGz43
           obtain ⟨hfz43_0, hfz43_1, hfz43_2, hfz43_3, hfz43_4, hfz43_5, hfz43_6, hfz43_7, hfz43_8⟩ := fr9 HGz43
           have hfz43_10 := blk_frozen HGz43 10
           have hfz43_11 := blk_frozen HGz43 11
           have hfz43_12 := blk_frozen HGz43 12
           clear HGz43 hgz43
           try go_wp2
           go_meet
           case rel => exact ⟨_, (y304), (2), H', ⟨B9x8_⟩, ⟨(by (with_reducible repeat (first | apply Kd.R_alloc | apply Kd.R_drewN | apply Kd.R_drew)); exact Kd.R_mono (Kd.R_far (p := ⟨g, 6, none⟩) (IsS39.apart HI0.out HO306.out (by decide)) (fun _ hk => hk.2) (.int .i64 2)) (fun _ hk => trivial))⟩, ⟨B9x0_⟩, ⟨B9x1_⟩, ⟨B9x2_⟩⟩
          ·replace c38 := Bool.eq_false_iff.mpr c38
           subst c38
           rw [if_neg (show ¬ (false = true) by decide)] at H
           have H' := Aside0.mk H
           clear H
           go_wp2
           go_meet
           case rel => exact ⟨_, (x7_15), (x1006_10), H', ⟨B9x8_⟩, ⟨B9x3_⟩, ⟨B9x0_⟩, ⟨B9x1_⟩, ⟨B9x2_⟩⟩
         case rest => as_aux_lemma =>
          clear HC37
          obtain ⟨kq, x7_36, x1006_36, HA, HJ36, HO_7, HI0, HK, HB⟩ := hcut
          cases kq with
          | zero => exact absurd HA.out (by simp [impl_Stream_pushOpen.j5])
          | succ kj36 =>
           have H := HA.out
           clear HA
           simp only [impl_Stream_pushOpen.j5] at H
           by_cases c44 : (x7_36.length : Int) > 0
           ·rw [if_pos c44] at H
            have c44b0 : decide (0 < (x7_36.length : Int)) = true := decide_eq_true c44
            have c44b1 : decide (0 < x7_36.length) = true := decide_eq_true (by omega)
            clear c44
            replace H := bsi H
            obtain ⟨⟨t307, t308, t309, t310, t311, t312, t313, t314, t315, t316, t317, t318⟩, A45, H⟩ := H
            (try dsimp only at H)
            simp only [Option.some.injEq, Prod.mk.injEq] at H
            obtain ⟨rfl, rfl, rfl, rfl, rfl, rfl, rfl, rfl, rfl, rfl, rfl, rfl, rfl⟩ := H
            obtain ⟨Ao46, co46, eo46⟩ := Kd.R_slice HO_7.out
            subst eo46
            go_wp2_with (first | ((with_reducible refine gate_callee (f := 75) rfl ?_); refine goesL_ (some 151) rfl rfl Try.func75 B9x5_ rfl #[.pointer (some ⟨g, 0, none⟩), .int .i64 a1] rfl B9x4_ ?_; (with_reducible refine (impl_Stream_again.calls g s0_0 s0_1 s0_2 s0_3 s0_4 x1005_15 x1006_36 s0_7 s0_8 s0_9 s0_9v s0_10 s0_11 s0_12 a1 t307 t308 t309 t310 t311 t312 t313 t314 t315 t316 t317 t318 w0 _ ?side1 ?side2 A45.out).mono ?_); (case side1 => exact B9x0_); (case side2 => exact B9x2_); rintro e w47 ⟨rfl, hi, hb, hk⟩; refine ⟨_, rfl, ?_⟩; replace HO_7 := Aside0.mk (Kd.R_mono (Kd.R_keep (IsS39.apart (show IsS39 w0 _ g s0_0 s0_1 s0_2 s0_3 s0_4 x1005_15 x1006_36 s0_7 s0_8 s0_9v s0_10 s0_11 s0_12 from B9x0_) B9x3_ (by decide)) hk (fun _ h => h.2)) (fun _ h => h.1)); replace HK := Aside0.mk (KeepBut.trans B9x1_ hk (.inl rfl)); replace HB := Aside0.mk (hb); replace HI0 := Aside0.mk (hi); (try clear hb hk hi); obtain ⟨HGz48, hgz48⟩ := HI0.out; have hcz48_0 := cellS39_0 HGz48; have hcz48_1 := cellS39_1 HGz48; have hcz48_2 := cellS39_2 HGz48; have hcz48_3 := cellS39_3 HGz48; have hcz48_4 := cellS39_4 HGz48; have hcz48_5 := cellS39_5 HGz48; have hcz48_6 := cellS39_6 HGz48; have hcz48_7 := cellS39_7 HGz48; have hcz48_8 := cellS39_8 HGz48; have hcz48_9 := cellS39_9 HGz48; have hcz48_10 := cellS39_10 HGz48; have hcz48_11 := cellS39_11 HGz48; have hcz48_12 := cellS39_12 HGz48; obtain ⟨hfz48_0, hfz48_1, hfz48_2, hfz48_3, hfz48_4, hfz48_5, hfz48_6, hfz48_7, hfz48_8⟩ := fr9 HGz48; have hfz48_10 := blk_frozen HGz48 10; have hfz48_11 := blk_frozen HGz48 11; have hfz48_12 := blk_frozen HGz48 12; clear HGz48 hgz48))
            go_ret
            exact ⟨_, by first | rfl | (simp [errW_none, errW_some] <;> rfl) | (simp [*, errW_none, errW_some] <;> rfl), by (with_reducible repeat (first | apply Kd.R_alloc | apply Kd.R_drewN | apply Kd.R_drew)); exact Kd.R_mono (Kd.R_far (p := ⟨g, 10, none⟩) (IsS39.apart HI0.out HO_7.out (by decide)) (fun _ hk => hk.2) (.bool false)) (fun _ hk => trivial), by repeat (first | (with_reducible first | exact HI0.out | apply IsS39.alloc | apply IsS39.drewN | apply IsS39.drew | apply IsS39.set_0 | apply IsS39.set_1 | apply IsS39.set_2 | apply IsS39.set_3 | apply IsS39.set_4 | apply IsS39.set_5 | apply IsS39.set_6 | apply IsS39.set_7 | apply IsS39.set_8 | apply IsS39.set_10 | apply IsS39.set_11 | apply IsS39.set_12) | exact HI0.out), by repeat (first | (with_reducible first | exact HB.out | apply below_alloc | apply pw_below_drewN | apply below_drew1 | refine below_set ?_ (IsS39.ge HI0.out)) | exact HB.out), by repeat (first | (with_reducible first | exact HK.out | apply KeepBut.set_ | apply keep_drewN | apply keep_drew | apply keep_alloc) | exact HK.out)⟩
           ·rw [if_neg c44] at H
            have c44b0 : decide (0 < (x7_36.length : Int)) = false := decide_eq_false c44
            have c44b1 : decide (0 < x7_36.length) = false := decide_eq_false (by omega)
            clear c44
            by_cases c49 : s0_10 = true
            ·subst c49
             rw [if_pos rfl] at H
             replace H := bsi H
             obtain ⟨t319, A50, H⟩ := H
             (try dsimp only at H)
             replace H := bsi H
             obtain ⟨t320, A51, H⟩ := H
             (try dsimp only at H)
             by_cases c52 : x7_36.length < 3518437208883
             rotate_left
             ·rw [if_neg c52] at H
              exact absurd H (by simp)
             rw [if_pos c52] at H
             have LMc52 := Aside0.mk c52
             clear c52
             obtain ⟨y321, hy321⟩ : ∃ y_ : List (S28), y_ = (x7_36 ++ [(⟨t320, s0_3, 2, (⟨#[]⟩ : ByteArray)⟩ : S28)]) := ⟨_, rfl⟩
             replace H : (some (y321, s0_0, s0_1, s0_2, s0_3, s0_4, x1005_15, x1006_36, s0_7, s0_8, false, s0_11, s0_12)) = some (r1, r2, r3, r4, r5, r6, r7, r8, r9, r10, r11, r12, r13) := by first | (rw [hy321]; with_reducible exact H) | (have H2_ := (Option.bind_some _ _).symm.trans H; rw [hy321]; with_reducible exact H2_) | (have H2_ := (Option.bind_some _ _).symm.trans H; with_reducible exact H2_) | with_reducible exact H | (rw [hy321]; exact H) | exact H
             have Ny321 := Aside0.mk hy321
             clear hy321
             simp only [Option.some.injEq, Prod.mk.injEq] at H
             obtain ⟨rfl, rfl, rfl, rfl, rfl, rfl, rfl, rfl, rfl, rfl, rfl, rfl, rfl⟩ := H
             obtain ⟨Ao53, co53, eo53⟩ := Kd.R_slice HO_7.out
             subst eo53
             obtain ⟨HGz54, hgz54⟩ := HI0.out
             have hcz54_0 := cellS39_0 HGz54
             have hcz54_1 := cellS39_1 HGz54
             have hcz54_2 := cellS39_2 HGz54
             have hcz54_3 := cellS39_3 HGz54
             have hcz54_4 := cellS39_4 HGz54
             have hcz54_5 := cellS39_5 HGz54
             have hcz54_6 := cellS39_6 HGz54
             have hcz54_7 := cellS39_7 HGz54
             have hcz54_8 := cellS39_8 HGz54
             have hcz54_9 := cellS39_9 HGz54
             have hcz54_10 := cellS39_10 HGz54
             have hcz54_11 := cellS39_11 HGz54
             have hcz54_12 := cellS39_12 HGz54
             obtain ⟨hfz54_0, hfz54_1, hfz54_2, hfz54_3, hfz54_4, hfz54_5, hfz54_6, hfz54_7, hfz54_8⟩ := fr9 HGz54
             have hfz54_10 := blk_frozen HGz54 10
             have hfz54_11 := blk_frozen HGz54 11
             have hfz54_12 := blk_frozen HGz54 12
             clear HGz54 hgz54
             try go_wp2
             replace HO_7 := Aside0.mk (Kd.R_drew HO_7.out)
             replace HI0 := Aside0.mk (IsS39.drew HI0.out)
             replace HK := Aside0.mk (keep_drew HK.out)
             replace HB := Aside0.mk (below_drew1 HB.out)
             refine start_ (n := 25) (S := fun w' => w'.cell? ⟨g, 0, none⟩ = some (.int .i64 s0_0) ∧ w'.cell? ⟨g, 1, none⟩ = some (.int .i64 s0_1) ∧ w'.cell? ⟨g, 2, none⟩ = some (.int .i64 s0_2) ∧ w'.cell? ⟨g, 3, none⟩ = some (.int .i64 s0_3) ∧ w'.cell? ⟨g, 4, none⟩ = some (.string s0_4) ∧ w'.cell? ⟨g, 5, none⟩ = some (.int .i64 x1005_15) ∧ w'.cell? ⟨g, 6, none⟩ = some (.int .i64 x1006_36) ∧ w'.cell? ⟨g, 7, none⟩ = some (.bool s0_7) ∧ w'.cell? ⟨g, 8, none⟩ = some (.string s0_8) ∧ w'.cell? ⟨g, 10, none⟩ = some (.bool true) ∧ w'.cell? ⟨g, 11, none⟩ = some (.int .i64 s0_11) ∧ w'.cell? ⟨g, 12, none⟩ = some (.int .i64 s0_12)) (ds := []) #[false, false, false, false, false, false, false, false, false, false, false, false, false, false, false, false, false, false, false, false, false, false, false, false, false] B9x5_ rfl rfl ⟨(blk_cell HI0.out.1 0).trans rfl, (blk_cell HI0.out.1 1).trans rfl, (blk_cell HI0.out.1 2).trans rfl, (blk_cell HI0.out.1 3).trans rfl, (blk_cell HI0.out.1 4).trans rfl, (blk_cell HI0.out.1 5).trans rfl, (blk_cell HI0.out.1 6).trans rfl, (blk_cell HI0.out.1 7).trans rfl, (blk_cell HI0.out.1 8).trans rfl, (blk_cell HI0.out.1 10).trans rfl, (blk_cell HI0.out.1 11).trans rfl, (blk_cell HI0.out.1 12).trans rfl⟩ (fun hHeld => ?_); refine with_tabW impl_Stream_pushOpen.tab17 impl_Stream_pushOpen.bits17 (fun HT_ HW_ => ?_)
             generalize wc.drew = w55 at HO_7 HI0 HK HB hHeld ⊢
             refine pu_ 0 159 HT_ ?_
             refine pu_ 1 160 HT_ ?_
             refine pu_ 2 161 HT_ ?_
             refine pu_ 3 162 HT_ ?_
             refine pu_ 5 164 HT_ ?_
             refine pu_ 6 165 HT_ ?_
             refine pu_ 7 166 HT_ ?_
             refine pu_ 9 168 HT_ ?_
             refine pu_ 10 169 HT_ ?_
             refine pu_ 11 170 HT_ ?_
             refine pu_ 17 176 HT_ ?_
             refine pu_ 18 177 HT_ ?_
             refine pu_ 19 178 HT_ ?_
             refine ta_ 4 163 HT_ HW_ hHeld ?_
             refine ta_ 8 167 HT_ HW_ hHeld ?_
             refine ta_ 12 171 HT_ HW_ hHeld ?_
             refine pu_ 13 172 HT_ ?_
             refine ta_ 20 179 HT_ HW_ hHeld ?_
             refine one_ (i := 14) (N := some 173) #[true, true, true, true, true, true, true, true, true, true, true, true, true, true, true, false, false, true, true, true, true, false, false, false, false] rfl rfl (one_of HT_.out B9x5_) (by decide) (fun K hK => ?_)
             refine goes_ Try.func126 B9x5_ rfl #[.bool (x1006_36 == 2)] (by rfl) rfl rfl B9x4_ ?_
             with_reducible refine (impl_flag.calls (x1006_36 == 2) t319 _ A50.out).mono ?_
             rintro e w' ⟨rfl, ⟨nd, rfl⟩⟩
             refine ⟨_, rfl, ?_⟩
             refine hK.out _ _ ⟨(blk_cell HI0.out.1 0).trans rfl, (blk_cell HI0.out.1 1).trans rfl, (blk_cell HI0.out.1 2).trans rfl, (blk_cell HI0.out.1 3).trans rfl, (blk_cell HI0.out.1 4).trans rfl, (blk_cell HI0.out.1 5).trans rfl, (blk_cell HI0.out.1 6).trans rfl, (blk_cell HI0.out.1 7).trans rfl, (blk_cell HI0.out.1 8).trans rfl, (blk_cell HI0.out.1 10).trans rfl, (blk_cell HI0.out.1 11).trans rfl, (blk_cell HI0.out.1 12).trans rfl⟩ (fun hHeld => ?_)
             clear hK K
             refine norm_ (a' := ?_) ?_ ?_
             rotate_left
             ·show Act.put _ (some 173) _ = _
              simp only [Act.put, List.setIfInBounds_toArray, List.set_cons_zero, List.set_cons_succ, i64_w, i32_w]
              rfl
             refine pu_ 15 174 HT_ ?_
             refine one_ (i := 16) (N := some 175) #[true, true, true, true, true, true, true, true, true, true, true, true, true, true, true, true, true, true, true, true, true, false, false, false, false] rfl rfl (one_of HT_.out B9x5_) (by decide) (fun K hK => ?_)
             refine goes_ Try.func135 B9x5_ rfl #[.int .i64 s0_2, .int .i64 (wrap64 (x1005_15 + t319))] (by rfl) rfl rfl B9x4_ ?_
             with_reducible refine (impl_AddNum.calls s0_2 (wrap64 (x1005_15 + t319)) t320 _ A51.out).mono ?_
             rintro e w' ⟨rfl, ⟨nd, rfl⟩⟩
             refine ⟨_, rfl, ?_⟩
             refine hK.out _ _ ⟨(blk_cell HI0.out.1 0).trans rfl, (blk_cell HI0.out.1 1).trans rfl, (blk_cell HI0.out.1 2).trans rfl, (blk_cell HI0.out.1 3).trans rfl, (blk_cell HI0.out.1 4).trans rfl, (blk_cell HI0.out.1 5).trans rfl, (blk_cell HI0.out.1 6).trans rfl, (blk_cell HI0.out.1 7).trans rfl, (blk_cell HI0.out.1 8).trans rfl, (blk_cell HI0.out.1 10).trans rfl, (blk_cell HI0.out.1 11).trans rfl, (blk_cell HI0.out.1 12).trans rfl⟩ (fun hHeld => ?_)
             clear hK K
             refine norm_ (a' := ?_) ?_ ?_
             rotate_left
             ·show Act.put _ (some 175) _ = _
              simp only [Act.put, List.setIfInBounds_toArray, List.set_cons_zero, List.set_cons_succ, i64_w, i32_w]
              rfl
             refine pu_ 21 180 HT_ ?_
             refine one_ (i := 22) (N := some 181) #[true, true, true, true, true, true, true, true, true, true, true, true, true, true, true, true, true, true, true, true, true, true, true, false, false] rfl rfl (one_of HT_.out B9x5_) (by decide) (fun K hK => ?_)
             refine value_ (w1 := ?_) (v := ?_) (by rfl) rfl ?_ ?_
             rotate_left 2
             ·go_simp
              constructor
              ·rfl
              ·rfl
             refine hK.out _ _ ⟨(blk_cell (blk_alloc HI0.out.1 _) 0).trans rfl, (blk_cell (blk_alloc HI0.out.1 _) 1).trans rfl, (blk_cell (blk_alloc HI0.out.1 _) 2).trans rfl, (blk_cell (blk_alloc HI0.out.1 _) 3).trans rfl, (blk_cell (blk_alloc HI0.out.1 _) 4).trans rfl, (blk_cell (blk_alloc HI0.out.1 _) 5).trans rfl, (blk_cell (blk_alloc HI0.out.1 _) 6).trans rfl, (blk_cell (blk_alloc HI0.out.1 _) 7).trans rfl, (blk_cell (blk_alloc HI0.out.1 _) 8).trans rfl, (blk_cell (blk_alloc HI0.out.1 _) 10).trans rfl, (blk_cell (blk_alloc HI0.out.1 _) 11).trans rfl, (blk_cell (blk_alloc HI0.out.1 _) 12).trans rfl⟩ (fun hHeld => ?_)
             clear hK K
             refine norm_ (a' := ?_) ?_ ?_
             rotate_left
             ·show Act.put _ (some 181) _ = _
              simp only [Act.put, List.setIfInBounds_toArray, List.set_cons_zero, List.set_cons_succ, i64_w, i32_w]
              rfl
             refine one_ (i := 23) (N := some 182) #[true, true, true, true, true, true, true, true, true, true, true, true, true, true, true, true, true, true, true, true, true, true, true, true, false] rfl rfl (one_of HT_.out B9x5_) (by decide) (fun K hK => ?_)
             refine Kd.R_append_step k28 w.heap.size (by rfl) (.tmp 159) (.tmp 181) 40 28 (.agg #[(.int .i64 0), (.int .i64 0), (.int .i64 0), (.string ⟨#[]⟩)]) 40 rfl Try.underlying40 info28 rfl (by decide) (by omega) (.slice Ao53 x7_36.length co53) x7_36 (⟨t320, s0_3, 2, (⟨#[]⟩ : ByteArray)⟩ : S28) [.int .i64 t320, .int .i64 s0_3, .int .i64 2, .string (⟨#[]⟩ : ByteArray)] (fun _ => True) (fun _ => False) rfl rfl ?aP (fun _ hk => hk.elim) ?aF ?aO (Below.refl _ _) ?aS ?aL ?_
             (case aP => exact k28_mkM _ _ _ (⟨t320, s0_3, 2, (⟨#[]⟩ : ByteArray)⟩ : S28))
             (case aF => exact (fun _ _ => trivial))
             (case aO => exact B9x3_)
             (case aS => exact B9x7_)
             (case aL => have := LMc52.out; omega)
             intro v322 w56 ho hb hg hat
             rw [← Ny321.out] at ho
             replace HB := Aside0.mk (below_weaken B9x2_ HL.out hb)
             replace HI0 := Aside0.mk (IsS39.grown B9x0_ hg (IsS39.own_ne HI0.out HO_7.out (by decide)))
             replace HK := Aside0.mk (KeepBut.trans B9x1_ (KeepBut.of_grown hg g) (Kd.R_base2 HO_7.out))
             have HO323 := Aside0.mk (ho)
             clear HO_7
             clear ho hb hg hat
             refine hK.out _ _ ⟨(blk_cell HI0.out.1 0).trans rfl, (blk_cell HI0.out.1 1).trans rfl, (blk_cell HI0.out.1 2).trans rfl, (blk_cell HI0.out.1 3).trans rfl, (blk_cell HI0.out.1 4).trans rfl, (blk_cell HI0.out.1 5).trans rfl, (blk_cell HI0.out.1 6).trans rfl, (blk_cell HI0.out.1 7).trans rfl, (blk_cell HI0.out.1 8).trans rfl, (blk_cell HI0.out.1 10).trans rfl, (blk_cell HI0.out.1 11).trans rfl, (blk_cell HI0.out.1 12).trans rfl⟩ (fun hHeld => ?_)
             clear hK K
             refine norm_ (a' := ?_) ?_ ?_
             rotate_left
             ·show Act.put _ (some 182) _ = _
              simp only [Act.put, List.setIfInBounds_toArray, List.set_cons_zero, List.set_cons_succ, i64_w, i32_w]
              rfl
             refine pu_ 24 7 HT_ ?_
             refine done_ (done_of HT_.out B9x5_) ?_
             obtain ⟨HGz57, hgz57⟩ := HI0.out
             have hcz57_0 := cellS39_0 HGz57
             have hcz57_1 := cellS39_1 HGz57
             have hcz57_2 := cellS39_2 HGz57
             have hcz57_3 := cellS39_3 HGz57
             have hcz57_4 := cellS39_4 HGz57
             have hcz57_5 := cellS39_5 HGz57
             have hcz57_6 := cellS39_6 HGz57
             have hcz57_7 := cellS39_7 HGz57
             have hcz57_8 := cellS39_8 HGz57
             have hcz57_9 := cellS39_9 HGz57
             have hcz57_10 := cellS39_10 HGz57
             have hcz57_11 := cellS39_11 HGz57
             have hcz57_12 := cellS39_12 HGz57
             obtain ⟨hfz57_0, hfz57_1, hfz57_2, hfz57_3, hfz57_4, hfz57_5, hfz57_6, hfz57_7, hfz57_8⟩ := fr9 HGz57
             have hfz57_10 := blk_frozen HGz57 10
             have hfz57_11 := blk_frozen HGz57 11
             have hfz57_12 := blk_frozen HGz57 12
             clear HGz57 hgz57
             try go_wp2
             go_ret
             exact ⟨_, by first | rfl | (simp [errW_none, errW_some] <;> rfl) | (simp [*, errW_none, errW_some] <;> rfl), by (with_reducible repeat (first | apply Kd.R_alloc | apply Kd.R_drewN | apply Kd.R_drew)); exact Kd.R_mono (Kd.R_far (p := ⟨g, 10, none⟩) (IsS39.apart HI0.out HO323.out (by decide)) (fun _ hk => hk.2) (.bool false)) (fun _ hk => trivial), by repeat (first | (with_reducible first | exact HI0.out | apply IsS39.alloc | apply IsS39.drewN | apply IsS39.drew | apply IsS39.set_0 | apply IsS39.set_1 | apply IsS39.set_2 | apply IsS39.set_3 | apply IsS39.set_4 | apply IsS39.set_5 | apply IsS39.set_6 | apply IsS39.set_7 | apply IsS39.set_8 | apply IsS39.set_10 | apply IsS39.set_11 | apply IsS39.set_12) | exact HI0.out), by repeat (first | (with_reducible first | exact HB.out | apply below_alloc | apply pw_below_drewN | apply below_drew1 | refine below_set ?_ (IsS39.ge HI0.out)) | exact HB.out), by repeat (first | (with_reducible first | exact HK.out | apply KeepBut.set_ | apply keep_drewN | apply keep_drew | apply keep_alloc) | exact HK.out)⟩
            ·replace c49 := Bool.eq_false_iff.mpr c49
             subst c49
             rw [if_neg (show ¬ (false = true) by decide)] at H
             simp only [Option.some.injEq, Prod.mk.injEq] at H
             obtain ⟨rfl, rfl, rfl, rfl, rfl, rfl, rfl, rfl, rfl, rfl, rfl, rfl, rfl⟩ := H
             obtain ⟨Ao58, co58, eo58⟩ := Kd.R_slice HO_7.out
             subst eo58
             obtain ⟨HGz59, hgz59⟩ := HI0.out
             have hcz59_0 := cellS39_0 HGz59
             have hcz59_1 := cellS39_1 HGz59
             have hcz59_2 := cellS39_2 HGz59
             have hcz59_3 := cellS39_3 HGz59
             have hcz59_4 := cellS39_4 HGz59
             have hcz59_5 := cellS39_5 HGz59
             have hcz59_6 := cellS39_6 HGz59
             have hcz59_7 := cellS39_7 HGz59
             have hcz59_8 := cellS39_8 HGz59
             have hcz59_9 := cellS39_9 HGz59
             have hcz59_10 := cellS39_10 HGz59
             have hcz59_11 := cellS39_11 HGz59
             have hcz59_12 := cellS39_12 HGz59
             obtain ⟨hfz59_0, hfz59_1, hfz59_2, hfz59_3, hfz59_4, hfz59_5, hfz59_6, hfz59_7, hfz59_8⟩ := fr9 HGz59
             have hfz59_10 := blk_frozen HGz59 10
             have hfz59_11 := blk_frozen HGz59 11
             have hfz59_12 := blk_frozen HGz59 12
             clear HGz59 hgz59
             go_wp2
             go_ret
             exact ⟨_, by first | rfl | (simp [errW_none, errW_some] <;> rfl) | (simp [*, errW_none, errW_some] <;> rfl), by (with_reducible repeat (first | apply Kd.R_alloc | apply Kd.R_drewN | apply Kd.R_drew)); exact HO_7.out, by repeat (first | (with_reducible first | exact HI0.out | apply IsS39.alloc | apply IsS39.drewN | apply IsS39.drew | apply IsS39.set_0 | apply IsS39.set_1 | apply IsS39.set_2 | apply IsS39.set_3 | apply IsS39.set_4 | apply IsS39.set_5 | apply IsS39.set_6 | apply IsS39.set_7 | apply IsS39.set_8 | apply IsS39.set_10 | apply IsS39.set_11 | apply IsS39.set_12) | exact HI0.out), by repeat (first | (with_reducible first | exact HB.out | apply below_alloc | apply pw_below_drewN | apply below_drew1 | refine below_set ?_ (IsS39.ge HI0.out)) | exact HB.out), by repeat (first | (with_reducible first | exact HK.out | apply KeepBut.set_ | apply keep_drewN | apply keep_drew | apply keep_alloc) | exact HK.out)⟩

end Go.Proofs.Ytmknnoeggkgkgaa.QFnExactPush
