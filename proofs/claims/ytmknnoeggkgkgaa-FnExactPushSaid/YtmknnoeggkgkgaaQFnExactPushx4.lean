/- Functions that a law reaches, as functions of Lean, and the walks that show that the calls come to their answers: written by a program of this project out of the translation. No condition. -/
import Derived.Test.YtmknnoeggkgkgaaQFnExactPushx0
import Derived.Test.YtmknnoeggkgkgaaQFnExactPushx1
import Derived.Test.YtmknnoeggkgkgaaQFnExactPushx3
import Derived.Test.YtmknnoeggkgkgaaVFnExactPushShort4
import Derived.Test.YtmknnoeggkgkgaaVFnExactPushhort3
import Derived.Test.YtmknnoeggkgkgaaVFnExactPushShort2
import Derived.Test.YtmknnoeggkgkgaaVFnExactPushShort
namespace Go.Proofs.Ytmknnoeggkgkgaa.QFnExactPush
open Go.RowKit Go.Proofs.YtmknnoeggkgkgaaW.PrintWords Go.Proofs.YtmknnoeggkgkgaaW.PrintLast Go.Proofs.YtmknnoeggkgkgaaW.PrintMore Go.Proofs.Ytmknnoeggkgkgaa.Short
attribute [local go_sem] max2_int min2_int max_two min_two max_three min_three max_four min_four   -- for this text's walks alone
set_option linter.unusedVariables false
set_option linter.unusedSimpArgs false

theorem B4x0_ {p : Prop} (h : p := by repeat (first | (with_reducible first | exact HI0.out | apply IsS39.alloc | apply IsS39.drewN | apply IsS39.drew | apply IsS39.set_0 | apply IsS39.set_1 | apply IsS39.set_2 | apply IsS39.set_3 | apply IsS39.set_4 | apply IsS39.set_5 | apply IsS39.set_6 | apply IsS39.set_7 | apply IsS39.set_8 | apply IsS39.set_10 | apply IsS39.set_11 | apply IsS39.set_12) | exact HI0.out)) : p := h
theorem B4x1_ {p : Prop} (h : p := by repeat (first | (with_reducible first | exact HK.out | apply KeepBut.set_ | apply keep_drewN | apply keep_drew | apply keep_alloc) | exact HK.out)) : p := h
theorem B4x2_ {p : Prop} (h : p := by repeat (first | (with_reducible first | exact HB.out | apply below_alloc | apply pw_below_drewN | apply below_drew1 | refine below_set ?_ (IsS39.ge HI0.out)) | exact HB.out)) : p := h
theorem B4x3_ {p : Prop} (h : p := by (with_reducible repeat (first | apply Kd.R_alloc | apply Kd.R_drewN | apply Kd.R_drew)); exact HO_5.out) : p := h
theorem B4x4_ {p : Prop} (h : p := by (try simp only [List.map_toArray, List.map_cons, List.map_nil]); first | done | rfl | (simp only [List.length_drop, List.length_take]; rfl)) : p := h
theorem B4x5_ {p : Prop} (h : p := by kernel_rfl) : p := h
theorem B4x6_ {p : Prop} (h : p := by (with_reducible repeat (first | apply Kd.R_alloc | apply Kd.R_drewN | apply Kd.R_drew)); exact HO138.out) : p := h
theorem B4x7_ {p : Prop} (h : p := by exact (keep_size (w := w) (g := g) (row := none) B4x1_)) : p := h
theorem B4x8_ {p : Prop} (h : p := by have := HJ2.out; have := HJ12.out; have := HK3.out; have := HJ17.out; have := HJ33.out; first | omega | exact Nat.le_refl _) : p := h
theorem B4x9_ {p : Prop} (h : p := by first | omega | exact Nat.le_refl _) : p := h
theorem B4x10_ {p : Prop} (h : p := by have := HJ2.out; first | omega | exact Nat.le_refl _) : p := h
theorem B4x11_ {p : Prop} (h : p := by have := HJ2.out; have := HJ12.out; have := HK3.out; have := HJ17.out; first | omega | exact Nat.le_refl _) : p := h
theorem B4x12_ {p : Prop} (h : p := by have := HJ2.out; have := HJ12.out; have := HK3.out; first | omega | exact Nat.le_refl _) : p := h
/-! ### spec_l13Open: function 70 -/
mutual
def spec_l13Open.j0 : Nat → Int → List (S28) → Bool → Int → Int → Int → Int → ByteArray → Int → Int → Bool → ByteArray → List (S143) → Bool → Int → Int → Option ((List (S28)) × Int × Int × Int × Int × ByteArray × Int × Int × Bool × ByteArray × Bool × Int × Int)
 | 0, _, _, _, _, _, _, _, _, _, _, _, _, _, _, _, _ => none
 | k + 1, x1, x5, x35, x1000, x1001, x1002, x1003, x1004, x1005, x1006, x1007, x1008, x1009, x1010, x1011, x1012 => if x35 = true then (if x1006 = 2 then (spec_l13Open.j1 k x1 x5 x1000 x1001 x1002 x1003 x1004 0 1 x1007 x1008 x1009 x1010 x1011 x1012) else (spec_l13Open.j1 k x1 x5 x1000 x1001 x1002 x1003 x1004 0 x1006 x1007 x1008 x1009 x1010 x1011 x1012)) else (spec_l13Open.j1 k x1 x5 x1000 x1001 x1002 x1003 x1004 x1005 x1006 x1007 x1008 x1009 x1010 x1011 x1012)
def spec_l13Open.j1 : Nat → Int → List (S28) → Int → Int → Int → Int → ByteArray → Int → Int → Bool → ByteArray → List (S143) → Bool → Int → Int → Option ((List (S28)) × Int × Int × Int × Int × ByteArray × Int × Int × Bool × ByteArray × Bool × Int × Int)
 | 0, _, _, _, _, _, _, _, _, _, _, _, _, _, _, _ => none
 | k + 1, x1, x5, x1000, x1001, x1002, x1003, x1004, x1005, x1006, x1007, x1008, x1009, x1010, x1011, x1012 => spec_l13Open.l0 k x1 x5 x1000 x1001 x1002 x1003 x1004 x1005 x1006 x1007 x1008 x1009 x1010 x1011 x1012
def spec_l13Open.l0 : Nat → Int → List (S28) → Int → Int → Int → Int → ByteArray → Int → Int → Bool → ByteArray → List (S143) → Bool → Int → Int → Option ((List (S28)) × Int × Int × Int × Int × ByteArray × Int × Int × Bool × ByteArray × Bool × Int × Int)
 | 0, _, _, _, _, _, _, _, _, _, _, _, _, _, _, _ => none
 | k + 1, x1, x5, x1000, x1001, x1002, x1003, x1004, x1005, x1006, x1007, x1008, x1009, x1010, x1011, x1012 => if x1005 < (x1004.size : Int) then (spec_l13Open.j3 k x1 x5 (decide (x1005 < 24)) x1000 x1001 x1002 x1003 x1004 x1005 x1006 x1007 x1008 x1009 x1010 x1011 x1012) else (spec_l13Open.j3 k x1 x5 false x1000 x1001 x1002 x1003 x1004 x1005 x1006 x1007 x1008 x1009 x1010 x1011 x1012)
def spec_l13Open.j3 : Nat → Int → List (S28) → Bool → Int → Int → Int → Int → ByteArray → Int → Int → Bool → ByteArray → List (S143) → Bool → Int → Int → Option ((List (S28)) × Int × Int × Int × Int × ByteArray × Int × Int × Bool × ByteArray × Bool × Int × Int)
 | 0, _, _, _, _, _, _, _, _, _, _, _, _, _, _, _, _ => none
 | k + 1, x1, x5, x63, x1000, x1001, x1002, x1003, x1004, x1005, x1006, x1007, x1008, x1009, x1010, x1011, x1012 => if x63 = true then ((spec_l13Less.f (x1004.size : Int) 24).bind fun t139 => ((spec_l13Less.f 8 (wrap64 (t139 - x1005))).bind fun t140 => ((spec_AddNum.f x1002 x1005).bind fun t141 => (if 0 ≤ x1005 then (if x1005 ≤ (wrap64 (x1005 + t140)) then (if (wrap64 (x1005 + t140)) ≤ (x1004.size : Int) then (if x5.length < 3518437208883 then (spec_l13Open.l0 k x1 (x5 ++ [(⟨t141, x1003, 2, x1004.extract (x1005 : Int).toNat ((wrap64 (x1005 + t140)) : Int).toNat⟩ : S28)]) x1000 x1001 x1002 x1003 x1004 (wrap64 (x1005 + t140)) x1006 x1007 x1008 x1009 x1010 x1011 x1012) else (none)) else (none)) else (none)) else (none))))) else (if x1006 = 1 then (spec_l13Open.j4 k x1 x5 (x1005 == (x1004.size : Int)) x1000 x1001 x1002 x1003 x1004 x1005 x1006 x1007 x1008 x1009 x1010 x1011 x1012) else (spec_l13Open.j4 k x1 x5 false x1000 x1001 x1002 x1003 x1004 x1005 x1006 x1007 x1008 x1009 x1010 x1011 x1012))
def spec_l13Open.j4 : Nat → Int → List (S28) → Bool → Int → Int → Int → Int → ByteArray → Int → Int → Bool → ByteArray → List (S143) → Bool → Int → Int → Option ((List (S28)) × Int × Int × Int × Int × ByteArray × Int × Int × Bool × ByteArray × Bool × Int × Int)
 | 0, _, _, _, _, _, _, _, _, _, _, _, _, _, _, _, _ => none
 | k + 1, x1, x5, x133, x1000, x1001, x1002, x1003, x1004, x1005, x1006, x1007, x1008, x1009, x1010, x1011, x1012 => if x133 = true then ((spec_AddNum.f x1002 x1005).bind fun t145 => (if x5.length < 3518437208883 then (spec_l13Open.j5 k x1 (x5 ++ [(⟨t145, x1003, 6, (⟨#[]⟩ : ByteArray)⟩ : S28)]) x1000 x1001 x1002 x1003 x1004 x1005 2 x1007 x1008 x1009 x1010 x1011 x1012) else (none))) else (spec_l13Open.j5 k x1 x5 x1000 x1001 x1002 x1003 x1004 x1005 x1006 x1007 x1008 x1009 x1010 x1011 x1012)
def spec_l13Open.j5 : Nat → Int → List (S28) → Int → Int → Int → Int → ByteArray → Int → Int → Bool → ByteArray → List (S143) → Bool → Int → Int → Option ((List (S28)) × Int × Int × Int × Int × ByteArray × Int × Int × Bool × ByteArray × Bool × Int × Int)
 | 0, _, _, _, _, _, _, _, _, _, _, _, _, _, _, _ => none
 | k + 1, x1, x5, x1000, x1001, x1002, x1003, x1004, x1005, x1006, x1007, x1008, x1009, x1010, x1011, x1012 => if (x5.length : Int) > 0 then ((spec_l13Again.f k x1000 x1001 x1002 x1003 x1004 x1005 x1006 x1007 x1008 x1009 x1010 x1011 x1012 x1).bind fun bt149 => (some (x5, bt149.1, bt149.2.1, bt149.2.2.1, bt149.2.2.2.1, bt149.2.2.2.2.1, bt149.2.2.2.2.2.1, bt149.2.2.2.2.2.2.1, bt149.2.2.2.2.2.2.2.1, bt149.2.2.2.2.2.2.2.2.1, bt149.2.2.2.2.2.2.2.2.2.1, bt149.2.2.2.2.2.2.2.2.2.2.1, bt149.2.2.2.2.2.2.2.2.2.2.2))) else (if x1010 = true then (if x1006 = 2 then ((spec_AddNum.f x1002 (wrap64 (x1005 + 1))).bind fun t161 => (if x5.length < 3518437208883 then (some ((x5 ++ [(⟨t161, x1003, 2, (⟨#[]⟩ : ByteArray)⟩ : S28)]), x1000, x1001, x1002, x1003, x1004, x1005, x1006, x1007, x1008, false, x1011, x1012)) else (none))) else ((spec_AddNum.f x1002 x1005).bind fun t165 => (if x5.length < 3518437208883 then (some ((x5 ++ [(⟨t165, x1003, 2, (⟨#[]⟩ : ByteArray)⟩ : S28)]), x1000, x1001, x1002, x1003, x1004, x1005, x1006, x1007, x1008, false, x1011, x1012)) else (none)))) else (some (x5, x1000, x1001, x1002, x1003, x1004, x1005, x1006, x1007, x1008, x1010, x1011, x1012)))
end
def spec_l13Open.f (k : Nat) (s0_0 : Int) (s0_1 : Int) (s0_2 : Int) (s0_3 : Int) (s0_4 : ByteArray) (s0_5 : Int) (s0_6 : Int) (s0_7 : Bool) (s0_8 : ByteArray) (s0_9 : List (S143)) (s0_10 : Bool) (s0_11 : Int) (s0_12 : Int) (a1 : Int) : Option ((List (S28)) × Int × Int × Int × Int × ByteArray × Int × Int × Bool × ByteArray × Bool × Int × Int) := (some (([] : List (S28)) : List (S28))).bind fun y136 => (if s0_11 ≤ a1 then (if s0_5 > 0 then (spec_l13Open.j0 k a1 y136 (decide (s0_12 < 12)) s0_0 s0_1 s0_2 s0_3 s0_4 s0_5 s0_6 s0_7 s0_8 s0_9 s0_10 s0_11 s0_12) else (if s0_6 = 2 then (spec_l13Open.j0 k a1 y136 (decide (s0_12 < 12)) s0_0 s0_1 s0_2 s0_3 s0_4 s0_5 s0_6 s0_7 s0_8 s0_9 s0_10 s0_11 s0_12) else (spec_l13Open.j0 k a1 y136 false s0_0 s0_1 s0_2 s0_3 s0_4 s0_5 s0_6 s0_7 s0_8 s0_9 s0_10 s0_11 s0_12))) else (spec_l13Open.j0 k a1 y136 false s0_0 s0_1 s0_2 s0_3 s0_4 s0_5 s0_6 s0_7 s0_8 s0_9 s0_10 s0_11 s0_12))
theorem spec_l13Open.mono_l : ∀ k, (∀ y0 y1 y2 y3 y4 y5 y6 y7 y8 y9 y10 y11 y12 y13 y14 y15, LeO (spec_l13Open.j0 k y0 y1 y2 y3 y4 y5 y6 y7 y8 y9 y10 y11 y12 y13 y14 y15) (spec_l13Open.j0 (k + 1) y0 y1 y2 y3 y4 y5 y6 y7 y8 y9 y10 y11 y12 y13 y14 y15)) ∧ (∀ y0 y1 y2 y3 y4 y5 y6 y7 y8 y9 y10 y11 y12 y13 y14, LeO (spec_l13Open.j1 k y0 y1 y2 y3 y4 y5 y6 y7 y8 y9 y10 y11 y12 y13 y14) (spec_l13Open.j1 (k + 1) y0 y1 y2 y3 y4 y5 y6 y7 y8 y9 y10 y11 y12 y13 y14)) ∧ (∀ y0 y1 y2 y3 y4 y5 y6 y7 y8 y9 y10 y11 y12 y13 y14, LeO (spec_l13Open.l0 k y0 y1 y2 y3 y4 y5 y6 y7 y8 y9 y10 y11 y12 y13 y14) (spec_l13Open.l0 (k + 1) y0 y1 y2 y3 y4 y5 y6 y7 y8 y9 y10 y11 y12 y13 y14)) ∧ (∀ y0 y1 y2 y3 y4 y5 y6 y7 y8 y9 y10 y11 y12 y13 y14 y15, LeO (spec_l13Open.j3 k y0 y1 y2 y3 y4 y5 y6 y7 y8 y9 y10 y11 y12 y13 y14 y15) (spec_l13Open.j3 (k + 1) y0 y1 y2 y3 y4 y5 y6 y7 y8 y9 y10 y11 y12 y13 y14 y15)) ∧ (∀ y0 y1 y2 y3 y4 y5 y6 y7 y8 y9 y10 y11 y12 y13 y14 y15, LeO (spec_l13Open.j4 k y0 y1 y2 y3 y4 y5 y6 y7 y8 y9 y10 y11 y12 y13 y14 y15) (spec_l13Open.j4 (k + 1) y0 y1 y2 y3 y4 y5 y6 y7 y8 y9 y10 y11 y12 y13 y14 y15)) ∧ (∀ y0 y1 y2 y3 y4 y5 y6 y7 y8 y9 y10 y11 y12 y13 y14, LeO (spec_l13Open.j5 k y0 y1 y2 y3 y4 y5 y6 y7 y8 y9 y10 y11 y12 y13 y14) (spec_l13Open.j5 (k + 1) y0 y1 y2 y3 y4 y5 y6 y7 y8 y9 y10 y11 y12 y13 y14))
 | 0 => ⟨fun _ _ _ _ _ _ _ _ _ _ _ _ _ _ _ _ r h => by simp [spec_l13Open.j0] at h, fun _ _ _ _ _ _ _ _ _ _ _ _ _ _ _ r h => by simp [spec_l13Open.j1] at h, fun _ _ _ _ _ _ _ _ _ _ _ _ _ _ _ r h => by simp [spec_l13Open.l0] at h, fun _ _ _ _ _ _ _ _ _ _ _ _ _ _ _ _ r h => by simp [spec_l13Open.j3] at h, fun _ _ _ _ _ _ _ _ _ _ _ _ _ _ _ _ r h => by simp [spec_l13Open.j4] at h, fun _ _ _ _ _ _ _ _ _ _ _ _ _ _ _ r h => by simp [spec_l13Open.j5] at h⟩
 | k + 1 => by
  obtain ⟨ih0, ih1, ih2, ih3, ih4, ih5⟩ := spec_l13Open.mono_l k
  refine ⟨?_, ?_, ?_, ?_, ?_, ?_⟩
  ·intro y0 y1 y2 y3 y4 y5 y6 y7 y8 y9 y10 y11 y12 y13 y14 y15
   unfold spec_l13Open.j0
   repeat' first
   | (with_reducible exact ih0 _ _ _ _ _ _ _ _ _ _ _ _ _ _ _ _)
   | (with_reducible exact ih1 _ _ _ _ _ _ _ _ _ _ _ _ _ _ _)
   | (with_reducible exact ih2 _ _ _ _ _ _ _ _ _ _ _ _ _ _ _)
   | (with_reducible exact ih3 _ _ _ _ _ _ _ _ _ _ _ _ _ _ _ _)
   | (with_reducible exact ih4 _ _ _ _ _ _ _ _ _ _ _ _ _ _ _ _)
   | (with_reducible exact ih5 _ _ _ _ _ _ _ _ _ _ _ _ _ _ _)
   | (with_reducible exact spec_l13Again.mono _ _ _ _ _ _ _ _ _ _ _ _ _ _ _)
   | (with_reducible first | exact LeO.refl _ | exact LeO.none _ | refine LeO.ite ?_ ?_ | refine LeO.bind ?_ (fun _ => ?_))
   | exact ih0 _ _ _ _ _ _ _ _ _ _ _ _ _ _ _ _
   | exact ih1 _ _ _ _ _ _ _ _ _ _ _ _ _ _ _
   | exact ih2 _ _ _ _ _ _ _ _ _ _ _ _ _ _ _
   | exact ih3 _ _ _ _ _ _ _ _ _ _ _ _ _ _ _ _
   | exact ih4 _ _ _ _ _ _ _ _ _ _ _ _ _ _ _ _
   | exact ih5 _ _ _ _ _ _ _ _ _ _ _ _ _ _ _
   | exact spec_l13Again.mono _ _ _ _ _ _ _ _ _ _ _ _ _ _ _
  ·intro y0 y1 y2 y3 y4 y5 y6 y7 y8 y9 y10 y11 y12 y13 y14
   unfold spec_l13Open.j1
   repeat' first
   | (with_reducible exact ih0 _ _ _ _ _ _ _ _ _ _ _ _ _ _ _ _)
   | (with_reducible exact ih1 _ _ _ _ _ _ _ _ _ _ _ _ _ _ _)
   | (with_reducible exact ih2 _ _ _ _ _ _ _ _ _ _ _ _ _ _ _)
   | (with_reducible exact ih3 _ _ _ _ _ _ _ _ _ _ _ _ _ _ _ _)
   | (with_reducible exact ih4 _ _ _ _ _ _ _ _ _ _ _ _ _ _ _ _)
   | (with_reducible exact ih5 _ _ _ _ _ _ _ _ _ _ _ _ _ _ _)
   | (with_reducible exact spec_l13Again.mono _ _ _ _ _ _ _ _ _ _ _ _ _ _ _)
   | (with_reducible first | exact LeO.refl _ | exact LeO.none _ | refine LeO.ite ?_ ?_ | refine LeO.bind ?_ (fun _ => ?_))
   | exact ih0 _ _ _ _ _ _ _ _ _ _ _ _ _ _ _ _
   | exact ih1 _ _ _ _ _ _ _ _ _ _ _ _ _ _ _
   | exact ih2 _ _ _ _ _ _ _ _ _ _ _ _ _ _ _
   | exact ih3 _ _ _ _ _ _ _ _ _ _ _ _ _ _ _ _
   | exact ih4 _ _ _ _ _ _ _ _ _ _ _ _ _ _ _ _
   | exact ih5 _ _ _ _ _ _ _ _ _ _ _ _ _ _ _
   | exact spec_l13Again.mono _ _ _ _ _ _ _ _ _ _ _ _ _ _ _
  ·intro y0 y1 y2 y3 y4 y5 y6 y7 y8 y9 y10 y11 y12 y13 y14
   unfold spec_l13Open.l0
   repeat' first
   | (with_reducible exact ih0 _ _ _ _ _ _ _ _ _ _ _ _ _ _ _ _)
   | (with_reducible exact ih1 _ _ _ _ _ _ _ _ _ _ _ _ _ _ _)
   | (with_reducible exact ih2 _ _ _ _ _ _ _ _ _ _ _ _ _ _ _)
   | (with_reducible exact ih3 _ _ _ _ _ _ _ _ _ _ _ _ _ _ _ _)
   | (with_reducible exact ih4 _ _ _ _ _ _ _ _ _ _ _ _ _ _ _ _)
   | (with_reducible exact ih5 _ _ _ _ _ _ _ _ _ _ _ _ _ _ _)
   | (with_reducible exact spec_l13Again.mono _ _ _ _ _ _ _ _ _ _ _ _ _ _ _)
   | (with_reducible first | exact LeO.refl _ | exact LeO.none _ | refine LeO.ite ?_ ?_ | refine LeO.bind ?_ (fun _ => ?_))
   | exact ih0 _ _ _ _ _ _ _ _ _ _ _ _ _ _ _ _
   | exact ih1 _ _ _ _ _ _ _ _ _ _ _ _ _ _ _
   | exact ih2 _ _ _ _ _ _ _ _ _ _ _ _ _ _ _
   | exact ih3 _ _ _ _ _ _ _ _ _ _ _ _ _ _ _ _
   | exact ih4 _ _ _ _ _ _ _ _ _ _ _ _ _ _ _ _
   | exact ih5 _ _ _ _ _ _ _ _ _ _ _ _ _ _ _
   | exact spec_l13Again.mono _ _ _ _ _ _ _ _ _ _ _ _ _ _ _
  ·intro y0 y1 y2 y3 y4 y5 y6 y7 y8 y9 y10 y11 y12 y13 y14 y15
   unfold spec_l13Open.j3
   repeat' first
   | (with_reducible exact ih0 _ _ _ _ _ _ _ _ _ _ _ _ _ _ _ _)
   | (with_reducible exact ih1 _ _ _ _ _ _ _ _ _ _ _ _ _ _ _)
   | (with_reducible exact ih2 _ _ _ _ _ _ _ _ _ _ _ _ _ _ _)
   | (with_reducible exact ih3 _ _ _ _ _ _ _ _ _ _ _ _ _ _ _ _)
   | (with_reducible exact ih4 _ _ _ _ _ _ _ _ _ _ _ _ _ _ _ _)
   | (with_reducible exact ih5 _ _ _ _ _ _ _ _ _ _ _ _ _ _ _)
   | (with_reducible exact spec_l13Again.mono _ _ _ _ _ _ _ _ _ _ _ _ _ _ _)
   | (with_reducible first | exact LeO.refl _ | exact LeO.none _ | refine LeO.ite ?_ ?_ | refine LeO.bind ?_ (fun _ => ?_))
   | exact ih0 _ _ _ _ _ _ _ _ _ _ _ _ _ _ _ _
   | exact ih1 _ _ _ _ _ _ _ _ _ _ _ _ _ _ _
   | exact ih2 _ _ _ _ _ _ _ _ _ _ _ _ _ _ _
   | exact ih3 _ _ _ _ _ _ _ _ _ _ _ _ _ _ _ _
   | exact ih4 _ _ _ _ _ _ _ _ _ _ _ _ _ _ _ _
   | exact ih5 _ _ _ _ _ _ _ _ _ _ _ _ _ _ _
   | exact spec_l13Again.mono _ _ _ _ _ _ _ _ _ _ _ _ _ _ _
  ·intro y0 y1 y2 y3 y4 y5 y6 y7 y8 y9 y10 y11 y12 y13 y14 y15
   unfold spec_l13Open.j4
   repeat' first
   | (with_reducible exact ih0 _ _ _ _ _ _ _ _ _ _ _ _ _ _ _ _)
   | (with_reducible exact ih1 _ _ _ _ _ _ _ _ _ _ _ _ _ _ _)
   | (with_reducible exact ih2 _ _ _ _ _ _ _ _ _ _ _ _ _ _ _)
   | (with_reducible exact ih3 _ _ _ _ _ _ _ _ _ _ _ _ _ _ _ _)
   | (with_reducible exact ih4 _ _ _ _ _ _ _ _ _ _ _ _ _ _ _ _)
   | (with_reducible exact ih5 _ _ _ _ _ _ _ _ _ _ _ _ _ _ _)
   | (with_reducible exact spec_l13Again.mono _ _ _ _ _ _ _ _ _ _ _ _ _ _ _)
   | (with_reducible first | exact LeO.refl _ | exact LeO.none _ | refine LeO.ite ?_ ?_ | refine LeO.bind ?_ (fun _ => ?_))
   | exact ih0 _ _ _ _ _ _ _ _ _ _ _ _ _ _ _ _
   | exact ih1 _ _ _ _ _ _ _ _ _ _ _ _ _ _ _
   | exact ih2 _ _ _ _ _ _ _ _ _ _ _ _ _ _ _
   | exact ih3 _ _ _ _ _ _ _ _ _ _ _ _ _ _ _ _
   | exact ih4 _ _ _ _ _ _ _ _ _ _ _ _ _ _ _ _
   | exact ih5 _ _ _ _ _ _ _ _ _ _ _ _ _ _ _
   | exact spec_l13Again.mono _ _ _ _ _ _ _ _ _ _ _ _ _ _ _
  ·intro y0 y1 y2 y3 y4 y5 y6 y7 y8 y9 y10 y11 y12 y13 y14
   unfold spec_l13Open.j5
   repeat' first
   | (with_reducible exact ih0 _ _ _ _ _ _ _ _ _ _ _ _ _ _ _ _)
   | (with_reducible exact ih1 _ _ _ _ _ _ _ _ _ _ _ _ _ _ _)
   | (with_reducible exact ih2 _ _ _ _ _ _ _ _ _ _ _ _ _ _ _)
   | (with_reducible exact ih3 _ _ _ _ _ _ _ _ _ _ _ _ _ _ _ _)
   | (with_reducible exact ih4 _ _ _ _ _ _ _ _ _ _ _ _ _ _ _ _)
   | (with_reducible exact ih5 _ _ _ _ _ _ _ _ _ _ _ _ _ _ _)
   | (with_reducible exact spec_l13Again.mono _ _ _ _ _ _ _ _ _ _ _ _ _ _ _)
   | (with_reducible first | exact LeO.refl _ | exact LeO.none _ | refine LeO.ite ?_ ?_ | refine LeO.bind ?_ (fun _ => ?_))
   | exact ih0 _ _ _ _ _ _ _ _ _ _ _ _ _ _ _ _
   | exact ih1 _ _ _ _ _ _ _ _ _ _ _ _ _ _ _
   | exact ih2 _ _ _ _ _ _ _ _ _ _ _ _ _ _ _
   | exact ih3 _ _ _ _ _ _ _ _ _ _ _ _ _ _ _ _
   | exact ih4 _ _ _ _ _ _ _ _ _ _ _ _ _ _ _ _
   | exact ih5 _ _ _ _ _ _ _ _ _ _ _ _ _ _ _
   | exact spec_l13Again.mono _ _ _ _ _ _ _ _ _ _ _ _ _ _ _
theorem spec_l13Open.mono : ∀ a0 a1 a2 a3 a4 a5 a6 a7 a8 a9 a10 a11 a12 a13 k, LeO (spec_l13Open.f k a0 a1 a2 a3 a4 a5 a6 a7 a8 a9 a10 a11 a12 a13) (spec_l13Open.f (k + 1) a0 a1 a2 a3 a4 a5 a6 a7 a8 a9 a10 a11 a12 a13) := by
 intro a0 a1 a2 a3 a4 a5 a6 a7 a8 a9 a10 a11 a12 a13 k
 obtain ⟨ih0, ih1, ih2, ih3, ih4, ih5⟩ := spec_l13Open.mono_l k
 unfold spec_l13Open.f
 repeat' first
   | (with_reducible exact ih0 _ _ _ _ _ _ _ _ _ _ _ _ _ _ _ _)
   | (with_reducible exact ih1 _ _ _ _ _ _ _ _ _ _ _ _ _ _ _)
   | (with_reducible exact ih2 _ _ _ _ _ _ _ _ _ _ _ _ _ _ _)
   | (with_reducible exact ih3 _ _ _ _ _ _ _ _ _ _ _ _ _ _ _ _)
   | (with_reducible exact ih4 _ _ _ _ _ _ _ _ _ _ _ _ _ _ _ _)
   | (with_reducible exact ih5 _ _ _ _ _ _ _ _ _ _ _ _ _ _ _)
   | (with_reducible exact spec_l13Again.mono _ _ _ _ _ _ _ _ _ _ _ _ _ _ _)
   | (with_reducible first | exact LeO.refl _ | exact LeO.none _ | refine LeO.ite ?_ ?_ | refine LeO.bind ?_ (fun _ => ?_))
   | exact ih0 _ _ _ _ _ _ _ _ _ _ _ _ _ _ _ _
   | exact ih1 _ _ _ _ _ _ _ _ _ _ _ _ _ _ _
   | exact ih2 _ _ _ _ _ _ _ _ _ _ _ _ _ _ _
   | exact ih3 _ _ _ _ _ _ _ _ _ _ _ _ _ _ _ _
   | exact ih4 _ _ _ _ _ _ _ _ _ _ _ _ _ _ _ _
   | exact ih5 _ _ _ _ _ _ _ _ _ _ _ _ _ _ _
   | exact spec_l13Again.mono _ _ _ _ _ _ _ _ _ _ _ _ _ _ _
def spec_l13Open.T6 : Bool × List (List Nat × List Nat) := (true, [([], []), ([0], [0]), ([1], [1]), ([2], [2]), ([], []), ([4], [4]), ([5], [5]), ([6], [6]), ([7], [7]), ([3, 8], [3, 8]), ([9], [9]), ([10], [10]), ([11, 10], [10, 11]), ([12, 10], [10, 12]), ([13, 10], [10, 13]), ([14, 10], [10, 14]), ([10, 15], [10, 15])])
def spec_l13Open.B6 : List Nat := [0, 1, 3, 7, 0, 16, 48, 112, 240, 511, 1023, 2047, 4095, 8191, 16383, 32767, 65535]
theorem spec_l13Open.tab6 : rtab .any (opsOf Try.f70 6) = spec_l13Open.T6 := by kernel_rfl
theorem spec_l13Open.bits6 : waitsOk spec_l13Open.T6.2 spec_l13Open.B6 = true := by kernel_rfl
def spec_l13Open.T7 : Bool × List (List Nat × List Nat) := (true, [([], []), ([0], [0]), ([1], [1]), ([2], [2]), ([3], [3]), ([4], [4]), ([], []), ([6], [6]), ([7], [7]), ([8], [8]), ([5, 9], [5, 9]), ([10, 5], [10]), ([11, 11, 0, 1, 2, 3, 4, 5, 6, 7, 8, 9, 10, 11], [11])])
def spec_l13Open.B7 : List Nat := [0, 1, 3, 7, 15, 31, 0, 64, 192, 448, 1023, 2047, 4095]
theorem spec_l13Open.tab7 : rtab .any (opsOf Try.f70 7) = spec_l13Open.T7 := by kernel_rfl
theorem spec_l13Open.bits7 : waitsOk spec_l13Open.T7.2 spec_l13Open.B7 = true := by kernel_rfl
def spec_l13Open.T8 : Bool × List (List Nat × List Nat) := (true, [([], []), ([], []), ([1], [1]), ([2], [2]), ([3], [3]), ([], []), ([5], [5]), ([6], [6]), ([7], [7]), ([4, 8], [4, 8]), ([], []), ([10], [10]), ([11], [11]), ([12], [12]), ([], []), ([14], [14]), ([15], [15]), ([16], [16]), ([], []), ([18], [18]), ([19], [19]), ([20], [20]), ([], []), ([22], [22]), ([23], [23]), ([24], [24]), ([], []), ([25, 26], [25, 26]), ([17, 21, 27], [17, 21, 27]), ([9, 13, 28], [9, 13, 28]), ([29], [29]), ([0, 30, 9], [0, 30]), ([31, 31, 0, 1, 2, 3, 4, 5, 6, 7, 8, 9, 10, 11, 12, 13, 14, 15, 16, 17, 18, 19, 20, 21, 22, 23, 24, 25, 26, 27, 28, 29, 30, 31], [0, 31])])
def spec_l13Open.B8 : List Nat := [0, 0, 2, 6, 14, 0, 32, 96, 224, 510, 0, 1024, 3072, 7168, 0, 16384, 49152, 114688, 0, 262144, 786432, 1835008, 0, 4194304, 12582912, 29360128, 0, 130023424, 268419072, 536870910, 1073741822, 2147483647, 4294967295]
theorem spec_l13Open.tab8 : rtab .any (opsOf Try.f70 8) = spec_l13Open.T8 := by kernel_rfl
theorem spec_l13Open.bits8 : waitsOk spec_l13Open.T8.2 spec_l13Open.B8 = true := by kernel_rfl
def spec_l13Open.T10 : Bool × List (List Nat × List Nat) := (true, [([], []), ([0], [0]), ([1], [1]), ([2], [2]), ([3], [3]), ([4], [4]), ([5], [5]), ([6, 5], [5, 6]), ([7, 5], [5, 7]), ([8, 5], [5, 8]), ([5], [5]), ([10, 5], [5, 10]), ([11, 5], [5, 11]), ([12, 5], [5, 12]), ([13, 5], [5, 13]), ([9, 14, 5], [5, 9, 14]), ([5, 15], [5, 15])])
def spec_l13Open.B10 : List Nat := [0, 1, 3, 7, 15, 31, 63, 127, 255, 511, 63, 1087, 3135, 7231, 15423, 32767, 65535]
theorem spec_l13Open.tab10 : rtab .any (opsOf Try.f70 10) = spec_l13Open.T10 := by kernel_rfl
theorem spec_l13Open.bits10 : waitsOk spec_l13Open.T10.2 spec_l13Open.B10 = true := by kernel_rfl
def spec_l13Open.T11 : Bool × List (List Nat × List Nat) := (true, [([], []), ([], []), ([1], [1]), ([2], [2]), ([3], [3]), ([], []), ([5], [5]), ([6], [6]), ([7], [7]), ([4, 8], [4, 8]), ([], []), ([10], [10]), ([11], [11]), ([12], [12]), ([9, 13], [9, 13]), ([14], [14]), ([0, 15, 9], [0, 15]), ([16, 16, 0, 1, 2, 3, 4, 5, 6, 7, 8, 9, 10, 11, 12, 13, 14, 15, 16], [0, 16])])
def spec_l13Open.B11 : List Nat := [0, 0, 2, 6, 14, 0, 32, 96, 224, 510, 0, 1024, 3072, 7168, 16382, 32766, 65535, 131071]
theorem spec_l13Open.tab11 : rtab .any (opsOf Try.f70 11) = spec_l13Open.T11 := by kernel_rfl
theorem spec_l13Open.bits11 : waitsOk spec_l13Open.T11.2 spec_l13Open.B11 = true := by kernel_rfl
def spec_l13Open.T20 : Bool × List (List Nat × List Nat) := (true, [([], []), ([], []), ([1], [1]), ([2], [2]), ([3], [3]), ([], []), ([4, 5], [4, 5]), ([], []), ([7], [7]), ([8], [8]), ([9], [9]), ([6, 10], [6, 10]), ([11], [11]), ([0, 12, 6], [0, 12]), ([13, 13, 0, 1, 2, 3, 4, 5, 6, 7, 8, 9, 10, 11, 12, 13], [0, 13])])
def spec_l13Open.B20 : List Nat := [0, 0, 2, 6, 14, 0, 62, 0, 128, 384, 896, 2046, 4094, 8191, 16383]
theorem spec_l13Open.tab20 : rtab .any (opsOf Try.f70 20) = spec_l13Open.T20 := by kernel_rfl
theorem spec_l13Open.bits20 : waitsOk spec_l13Open.T20.2 spec_l13Open.B20 = true := by kernel_rfl
set_option maxHeartbeats 8000000 in
set_option maxRecDepth 100000 in
theorem spec_l13Open.calls (k : Nat) (g : Nat) (s0_0 : Int) (s0_1 : Int) (s0_2 : Int) (s0_3 : Int) (s0_4 : ByteArray) (s0_5 : Int) (s0_6 : Int) (s0_7 : Bool) (s0_8 : ByteArray) (s0_9 : List (S143)) (s0_9v : Value) (s0_10 : Bool) (s0_11 : Int) (s0_12 : Int) (a1 : Int) (r1 : List (S28)) (r2 : Int) (r3 : Int) (r4 : Int) (r5 : Int) (r6 : ByteArray) (r7 : Int) (r8 : Int) (r9 : Bool) (r10 : ByteArray) (r11 : Bool) (r12 : Int) (r13 : Int) (w0 w : World) (hI : IsS39 w0 w g s0_0 s0_1 s0_2 s0_3 s0_4 s0_5 s0_6 s0_7 s0_8 s0_9v s0_10 s0_11 s0_12) (hB : Below w0.heap.size w0 w) (h : spec_l13Open.f k s0_0 s0_1 s0_2 s0_3 s0_4 s0_5 s0_6 s0_7 s0_8 s0_9 s0_10 s0_11 s0_12 a1 = some (r1, r2, r3, r4, r5, r6, r7, r8, r9, r10, r11, r12, r13)) :
  Calls Try.prog 70 #[.pointer (some ⟨g, 0, none⟩), .int .i64 a1] w fun e w' => ∃ v0_ : Value, e = .returned (v0_) ∧ Kd.R k28 28 w' w.heap.size (fun _ => True) v0_ r1 ∧ IsS39 w0 w' g r2 r3 r4 r5 r6 r7 r8 r9 r10 s0_9v r11 r12 r13 ∧ Below w0.heap.size w0 w' ∧ KeepBut w w' g none := by
 have hu28 := Try.underlying28
 have HI0 := Aside0.mk hI
 have HK := Aside0.mk (KeepBut.refl w g none)
 have HL := Aside0.mk hB.size
 clear hI
 have HW0 := Aside0.mk hB.size
 have HB := Aside0.mk hB
 clear hB
 have H : ((some (([] : List (S28)) : List (S28))).bind fun y136 => (if s0_11 ≤ a1 then (if s0_5 > 0 then (spec_l13Open.j0 k a1 y136 (decide (s0_12 < 12)) s0_0 s0_1 s0_2 s0_3 s0_4 s0_5 s0_6 s0_7 s0_8 s0_9 s0_10 s0_11 s0_12) else (if s0_6 = 2 then (spec_l13Open.j0 k a1 y136 (decide (s0_12 < 12)) s0_0 s0_1 s0_2 s0_3 s0_4 s0_5 s0_6 s0_7 s0_8 s0_9 s0_10 s0_11 s0_12) else (spec_l13Open.j0 k a1 y136 false s0_0 s0_1 s0_2 s0_3 s0_4 s0_5 s0_6 s0_7 s0_8 s0_9 s0_10 s0_11 s0_12))) else (spec_l13Open.j0 k a1 y136 false s0_0 s0_1 s0_2 s0_3 s0_4 s0_5 s0_6 s0_7 s0_8 s0_9 s0_10 s0_11 s0_12))) = some (r1, r2, r3, r4, r5, r6, r7, r8, r9, r10, r11, r12, r13) := h
 clear h
 obtain ⟨y136, hy136⟩ : ∃ y_ : List (S28), y_ = (([] : List (S28))) := ⟨_, rfl⟩
 replace H : (if s0_11 ≤ a1 then (if s0_5 > 0 then (spec_l13Open.j0 k a1 y136 (decide (s0_12 < 12)) s0_0 s0_1 s0_2 s0_3 s0_4 s0_5 s0_6 s0_7 s0_8 s0_9 s0_10 s0_11 s0_12) else (if s0_6 = 2 then (spec_l13Open.j0 k a1 y136 (decide (s0_12 < 12)) s0_0 s0_1 s0_2 s0_3 s0_4 s0_5 s0_6 s0_7 s0_8 s0_9 s0_10 s0_11 s0_12) else (spec_l13Open.j0 k a1 y136 false s0_0 s0_1 s0_2 s0_3 s0_4 s0_5 s0_6 s0_7 s0_8 s0_9 s0_10 s0_11 s0_12))) else (spec_l13Open.j0 k a1 y136 false s0_0 s0_1 s0_2 s0_3 s0_4 s0_5 s0_6 s0_7 s0_8 s0_9 s0_10 s0_11 s0_12)) = some (r1, r2, r3, r4, r5, r6, r7, r8, r9, r10, r11, r12, r13) := by first | (rw [hy136]; with_reducible exact H) | (have H2_ := (Option.bind_some _ _).symm.trans H; rw [hy136]; with_reducible exact H2_) | (have H2_ := (Option.bind_some _ _).symm.trans H; with_reducible exact H2_) | with_reducible exact H | (rw [hy136]; exact H) | exact H
 have Ny136 := Aside0.mk hy136
 clear hy136
 have HC3 := Aside0.mk H
 clear H
 go_enter Try.func70, Try.ntmps70
 go_upto_region 2 with (first | ((with_reducible refine gate_dst (N := 8) rfl ?_); (try (refine gate_guard (by rfl) ?_; dsimp only)); refine Kd.R_lit k28 _ 28 ?hg (N := 8) ?hd (xs := ([] : List (S28))) (inner := []) (ok := fun _ => True) (okp := fun _ => True) ?hr ?hp (fun _ hk => hk) trivial (Below.refl _ _) (Nat.le_refl _) (by simp) ?_; (case hd => rfl); (case hg => rfl); (case hr => first | (go_simp; done) | (go_simp; rfl)); (case hp => exact (Reps.none _ _)); intro v137 w4 ho5 hb hg_ hnew_; clear hg_ hnew_; (first | rw [← Ny136.out] at ho5 | (simp only [Int.reduceToNat] at ho5; rw [← Ny136.out] at ho5)); have HO138 := Aside0.mk (Kd.R_lower ho5 (keep_size (w := w) (g := g) (row := none) B4x1_)); replace HK := Aside0.mk (KeepBut.trans B4x1_ (KeepBut.of_below hb g none) (.inl rfl)); replace HB := Aside0.mk (below_step B4x2_ hb); replace HI0 := Aside0.mk (IsS39.below B4x0_ hb); clear hb ho5))
 (try simp only [Act.put, List.setIfInBounds_toArray, List.set_cons_zero, List.set_cons_succ])
 go_cut [35] (fun v35 wc => ∃ (kq : Nat) (x35_2 : Bool), v35 = .bool x35_2 ∧ Aside0 (spec_l13Open.j0 kq a1 y136 x35_2 s0_0 s0_1 s0_2 s0_3 s0_4 s0_5 s0_6 s0_7 s0_8 s0_9 s0_10 s0_11 s0_12 = some (r1, r2, r3, r4, r5, r6, r7, r8, r9, r10, r11, r12, r13)) ∧ Aside0 (kq ≤ k) ∧ Aside0 (Kd.R k28 28 wc w.heap.size (fun _ => True) v137 y136) ∧ Aside0 (IsS39 w0 wc g s0_0 s0_1 s0_2 s0_3 s0_4 s0_5 s0_6 s0_7 s0_8 s0_9v s0_10 s0_11 s0_12) ∧ Aside0 (KeepBut w wc g none) ∧ Aside0 (Below w0.heap.size w0 wc))
 case first => as_aux_lemma =>
  have H := HC3.out
  clear HC3
  by_cases c6 : s0_11 ≤ a1
  ·rw [if_pos c6] at H
   have c6b0 : decide (s0_11 ≤ a1) = true := decide_eq_true c6
   clear c6
   (first | rw [c6b0] | (simp only [i64_w, i32_w]; rw [c6b0]) | skip)
   by_cases c7 : s0_5 > 0
   ·rw [if_pos c7] at H
    have c7b0 : decide (0 < s0_5) = true := decide_eq_true c7
    clear c7
    have H' := Aside0.mk H
    clear H
    obtain ⟨HGz8, hgz8⟩ := HI0.out
    have hcz8_0 := cellS39_0 HGz8
    have hcz8_1 := cellS39_1 HGz8
    have hcz8_2 := cellS39_2 HGz8
    have hcz8_3 := cellS39_3 HGz8
    have hcz8_4 := cellS39_4 HGz8
    have hcz8_5 := cellS39_5 HGz8
    have hcz8_6 := cellS39_6 HGz8
    have hcz8_7 := cellS39_7 HGz8
    have hcz8_8 := cellS39_8 HGz8
    have hcz8_9 := cellS39_9 HGz8
    have hcz8_10 := cellS39_10 HGz8
    have hcz8_11 := cellS39_11 HGz8
    have hcz8_12 := cellS39_12 HGz8
    obtain ⟨hfz8_0, hfz8_1, hfz8_2, hfz8_3, hfz8_4, hfz8_5, hfz8_6, hfz8_7, hfz8_8⟩ := fr9 HGz8
    have hfz8_10 := blk_frozen HGz8 10
    have hfz8_11 := blk_frozen HGz8 11
    have hfz8_12 := blk_frozen HGz8 12
    clear HGz8 hgz8
    go_wp2
    go_meet
    case rel => exact ⟨_, (decide (s0_12 < 12)), (be_), H', ⟨B4x9_⟩, ⟨B4x6_⟩, ⟨B4x0_⟩, ⟨B4x1_⟩, ⟨B4x2_⟩⟩
   ·rw [if_neg c7] at H
    have c7b0 : decide (0 < s0_5) = false := decide_eq_false c7
    clear c7
    by_cases c9 : s0_6 = 2
    ·rw [if_pos c9] at H
     have c9b0 := beq_iff_eq.mpr c9
     have c9b1 := bne_eq_false_iff_eq.mpr c9
     clear c9
     have H' := Aside0.mk H
     clear H
     obtain ⟨HGz10, hgz10⟩ := HI0.out
     have hcz10_0 := cellS39_0 HGz10
     have hcz10_1 := cellS39_1 HGz10
     have hcz10_2 := cellS39_2 HGz10
     have hcz10_3 := cellS39_3 HGz10
     have hcz10_4 := cellS39_4 HGz10
     have hcz10_5 := cellS39_5 HGz10
     have hcz10_6 := cellS39_6 HGz10
     have hcz10_7 := cellS39_7 HGz10
     have hcz10_8 := cellS39_8 HGz10
     have hcz10_9 := cellS39_9 HGz10
     have hcz10_10 := cellS39_10 HGz10
     have hcz10_11 := cellS39_11 HGz10
     have hcz10_12 := cellS39_12 HGz10
     obtain ⟨hfz10_0, hfz10_1, hfz10_2, hfz10_3, hfz10_4, hfz10_5, hfz10_6, hfz10_7, hfz10_8⟩ := fr9 HGz10
     have hfz10_10 := blk_frozen HGz10 10
     have hfz10_11 := blk_frozen HGz10 11
     have hfz10_12 := blk_frozen HGz10 12
     clear HGz10 hgz10
     go_wp2
     go_meet
     case rel => exact ⟨_, (decide (s0_12 < 12)), (be_), H', ⟨B4x9_⟩, ⟨B4x6_⟩, ⟨B4x0_⟩, ⟨B4x1_⟩, ⟨B4x2_⟩⟩
    ·rw [if_neg c9] at H
     have c9b0 := beq_eq_false_iff_ne.mpr c9
     have c9b1 := bne_iff_ne.mpr c9
     have H' := Aside0.mk H
     clear H
     obtain ⟨HGz11, hgz11⟩ := HI0.out
     have hcz11_0 := cellS39_0 HGz11
     have hcz11_1 := cellS39_1 HGz11
     have hcz11_2 := cellS39_2 HGz11
     have hcz11_3 := cellS39_3 HGz11
     have hcz11_4 := cellS39_4 HGz11
     have hcz11_5 := cellS39_5 HGz11
     have hcz11_6 := cellS39_6 HGz11
     have hcz11_7 := cellS39_7 HGz11
     have hcz11_8 := cellS39_8 HGz11
     have hcz11_9 := cellS39_9 HGz11
     have hcz11_10 := cellS39_10 HGz11
     have hcz11_11 := cellS39_11 HGz11
     have hcz11_12 := cellS39_12 HGz11
     obtain ⟨hfz11_0, hfz11_1, hfz11_2, hfz11_3, hfz11_4, hfz11_5, hfz11_6, hfz11_7, hfz11_8⟩ := fr9 HGz11
     have hfz11_10 := blk_frozen HGz11 10
     have hfz11_11 := blk_frozen HGz11 11
     have hfz11_12 := blk_frozen HGz11 12
     clear HGz11 hgz11
     go_wp2
     go_meet
     case rel => exact ⟨_, (false), (be_), H', ⟨B4x9_⟩, ⟨B4x6_⟩, ⟨B4x0_⟩, ⟨B4x1_⟩, ⟨B4x2_⟩⟩
  ·rw [if_neg c6] at H
   have c6b0 : decide (s0_11 ≤ a1) = false := decide_eq_false c6
   clear c6
   (first | rw [c6b0] | (simp only [i64_w, i32_w]; rw [c6b0]) | skip)
   have H' := Aside0.mk H
   clear H
   obtain ⟨HGz12, hgz12⟩ := HI0.out
   have hcz12_0 := cellS39_0 HGz12
   have hcz12_1 := cellS39_1 HGz12
   have hcz12_2 := cellS39_2 HGz12
   have hcz12_3 := cellS39_3 HGz12
   have hcz12_4 := cellS39_4 HGz12
   have hcz12_5 := cellS39_5 HGz12
   have hcz12_6 := cellS39_6 HGz12
   have hcz12_7 := cellS39_7 HGz12
   have hcz12_8 := cellS39_8 HGz12
   have hcz12_9 := cellS39_9 HGz12
   have hcz12_10 := cellS39_10 HGz12
   have hcz12_11 := cellS39_11 HGz12
   have hcz12_12 := cellS39_12 HGz12
   obtain ⟨hfz12_0, hfz12_1, hfz12_2, hfz12_3, hfz12_4, hfz12_5, hfz12_6, hfz12_7, hfz12_8⟩ := fr9 HGz12
   have hfz12_10 := blk_frozen HGz12 10
   have hfz12_11 := blk_frozen HGz12 11
   have hfz12_12 := blk_frozen HGz12 12
   clear HGz12 hgz12
   go_wp2
   go_meet
   case rel => exact ⟨_, (false), (be_), H', ⟨B4x9_⟩, ⟨B4x6_⟩, ⟨B4x0_⟩, ⟨B4x1_⟩, ⟨B4x2_⟩⟩
 case rest => as_aux_lemma =>
  clear HC3
  obtain ⟨kq, x35_2, rfl, HA, HJ2, HO_5, HI0, HK, HB⟩ := hcut
  cases kq with
  | zero => exact absurd HA.out (by simp [spec_l13Open.j0])
  | succ kj2 =>
   have H := HA.out
   clear HA
   simp only [spec_l13Open.j0] at H
   have HC13 := Aside0.mk H
   clear H
   go_upto_if 35 with (fail)
   go_cut [] (fun wc => ∃ (kq : Nat) (x1005_12 : Int) (x1006_12 : Int), Aside0 (spec_l13Open.j1 kq a1 y136 s0_0 s0_1 s0_2 s0_3 s0_4 x1005_12 x1006_12 s0_7 s0_8 s0_9 s0_10 s0_11 s0_12 = some (r1, r2, r3, r4, r5, r6, r7, r8, r9, r10, r11, r12, r13)) ∧ Aside0 (kq ≤ kj2) ∧ Aside0 (Kd.R k28 28 wc w.heap.size (fun _ => True) v137 y136) ∧ Aside0 (IsS39 w0 wc g s0_0 s0_1 s0_2 s0_3 s0_4 x1005_12 x1006_12 s0_7 s0_8 s0_9v s0_10 s0_11 s0_12) ∧ Aside0 (KeepBut w wc g none) ∧ Aside0 (Below w0.heap.size w0 wc))
   case first => as_aux_lemma =>
    have H := HC13.out
    clear HC13
    by_cases c14 : x35_2 = true
    ·subst c14
     rw [if_pos rfl] at H
     by_cases c15 : s0_6 = 2
     ·rw [if_pos c15] at H
      have c15b0 := beq_iff_eq.mpr c15
      have c15b1 := bne_eq_false_iff_eq.mpr c15
      clear c15
      (first | rw [c15b0] | (simp only [i64_w, i32_w]; rw [c15b0]) | skip)
      have H' := Aside0.mk H
      clear H
      obtain ⟨HGz16, hgz16⟩ := HI0.out
      have hcz16_0 := cellS39_0 HGz16
      have hcz16_1 := cellS39_1 HGz16
      have hcz16_2 := cellS39_2 HGz16
      have hcz16_3 := cellS39_3 HGz16
      have hcz16_4 := cellS39_4 HGz16
      have hcz16_5 := cellS39_5 HGz16
      have hcz16_6 := cellS39_6 HGz16
      have hcz16_7 := cellS39_7 HGz16
      have hcz16_8 := cellS39_8 HGz16
      have hcz16_9 := cellS39_9 HGz16
      have hcz16_10 := cellS39_10 HGz16
      have hcz16_11 := cellS39_11 HGz16
      have hcz16_12 := cellS39_12 HGz16
      obtain ⟨hfz16_0, hfz16_1, hfz16_2, hfz16_3, hfz16_4, hfz16_5, hfz16_6, hfz16_7, hfz16_8⟩ := fr9 HGz16
      have hfz16_10 := blk_frozen HGz16 10
      have hfz16_11 := blk_frozen HGz16 11
      have hfz16_12 := blk_frozen HGz16 12
      clear HGz16 hgz16
      go_wp2
      go_meet
      case rel => exact ⟨_, (0), (1), H', ⟨B4x10_⟩, ⟨(by (with_reducible repeat (first | apply Kd.R_alloc | apply Kd.R_drewN | apply Kd.R_drew)); exact Kd.R_mono (Kd.R_far (p := ⟨g, 6, none⟩) (Kd.R_far (p := ⟨g, 5, none⟩) (IsS39.apart HI0.out HO_5.out (by decide)) (fun _ hk => hk.2) (.int .i64 0)) (fun _ hk => hk.2) (.int .i64 1)) (fun _ hk => trivial))⟩, ⟨B4x0_⟩, ⟨B4x1_⟩, ⟨B4x2_⟩⟩
     ·rw [if_neg c15] at H
      have c15b0 := beq_eq_false_iff_ne.mpr c15
      have c15b1 := bne_iff_ne.mpr c15
      (first | rw [c15b0] | (simp only [i64_w, i32_w]; rw [c15b0]) | skip)
      have H' := Aside0.mk H
      clear H
      obtain ⟨HGz17, hgz17⟩ := HI0.out
      have hcz17_0 := cellS39_0 HGz17
      have hcz17_1 := cellS39_1 HGz17
      have hcz17_2 := cellS39_2 HGz17
      have hcz17_3 := cellS39_3 HGz17
      have hcz17_4 := cellS39_4 HGz17
      have hcz17_5 := cellS39_5 HGz17
      have hcz17_6 := cellS39_6 HGz17
      have hcz17_7 := cellS39_7 HGz17
      have hcz17_8 := cellS39_8 HGz17
      have hcz17_9 := cellS39_9 HGz17
      have hcz17_10 := cellS39_10 HGz17
      have hcz17_11 := cellS39_11 HGz17
      have hcz17_12 := cellS39_12 HGz17
      obtain ⟨hfz17_0, hfz17_1, hfz17_2, hfz17_3, hfz17_4, hfz17_5, hfz17_6, hfz17_7, hfz17_8⟩ := fr9 HGz17
      have hfz17_10 := blk_frozen HGz17 10
      have hfz17_11 := blk_frozen HGz17 11
      have hfz17_12 := blk_frozen HGz17 12
      clear HGz17 hgz17
      go_wp2
      go_meet
      case rel => exact ⟨_, (0), (s0_6), H', ⟨B4x10_⟩, ⟨(by (with_reducible repeat (first | apply Kd.R_alloc | apply Kd.R_drewN | apply Kd.R_drew)); exact Kd.R_mono (Kd.R_far (p := ⟨g, 5, none⟩) (IsS39.apart HI0.out HO_5.out (by decide)) (fun _ hk => hk.2) (.int .i64 0)) (fun _ hk => trivial))⟩, ⟨B4x0_⟩, ⟨B4x1_⟩, ⟨B4x2_⟩⟩
    ·replace c14 := Bool.eq_false_iff.mpr c14
     subst c14
     rw [if_neg (show ¬ (false = true) by decide)] at H
     have H' := Aside0.mk H
     clear H
     go_wp2
     go_meet
     case rel => exact ⟨_, (s0_5), (s0_6), H', ⟨B4x10_⟩, ⟨B4x3_⟩, ⟨B4x0_⟩, ⟨B4x1_⟩, ⟨B4x2_⟩⟩
   case rest => as_aux_lemma =>
    clear HC13
    obtain ⟨kq, x1005_12, x1006_12, HA, HJ12, HO_5, HI0, HK, HB⟩ := hcut
    cases kq with
    | zero => exact absurd HA.out (by simp [spec_l13Open.j1])
    | succ kj12 =>
     have H := HA.out
     clear HA
     simp only [spec_l13Open.j1] at H
     have H' := Aside0.mk H
     clear H
     go_wp2
     go_loopg [5] kj12 (fun kq v5 w' => ∃ (x5_3 : List (S28)) (x1005_3 : Int), Aside0 (spec_l13Open.l0 kq a1 x5_3 s0_0 s0_1 s0_2 s0_3 s0_4 x1005_3 x1006_12 s0_7 s0_8 s0_9 s0_10 s0_11 s0_12 = some (r1, r2, r3, r4, r5, r6, r7, r8, r9, r10, r11, r12, r13)) ∧ Aside0 (kq ≤ kj12) ∧ Aside0 (Kd.R k28 28 w' w.heap.size (fun _ => True) v5 x5_3) ∧ Aside0 (IsS39 w0 w' g s0_0 s0_1 s0_2 s0_3 s0_4 x1005_3 x1006_12 s0_7 s0_8 s0_9v s0_10 s0_11 s0_12) ∧ Aside0 (KeepBut w w' g none) ∧ Aside0 (Below w0.heap.size w0 w'))
     case atStart => exact ⟨(y136), (x1005_12), H', ⟨Nat.le_refl _⟩, ⟨B4x3_⟩, ⟨B4x0_⟩, ⟨B4x1_⟩, ⟨B4x2_⟩⟩
     case round => as_aux_lemma =>
      clear H'
      obtain ⟨x5_3, x1005_3, HA, HK3, HO_5, HI0, HK, HB⟩ := hrel
      cases gk with
      | zero => exact absurd HA.out (by simp [spec_l13Open.l0])
      | succ k3 =>
       have H := HA.out
       clear HA
       simp only [spec_l13Open.l0] at H
       have HC18 := Aside0.mk H
       clear H
       go_upto_region 6 with (fail)
       go_cut [63] (fun v63 wc => ∃ (kq : Nat) (x63_17 : Bool), v63 = .bool x63_17 ∧ Aside0 (spec_l13Open.j3 kq a1 x5_3 x63_17 s0_0 s0_1 s0_2 s0_3 s0_4 x1005_3 x1006_12 s0_7 s0_8 s0_9 s0_10 s0_11 s0_12 = some (r1, r2, r3, r4, r5, r6, r7, r8, r9, r10, r11, r12, r13)) ∧ Aside0 (kq ≤ k3) ∧ Aside0 (Kd.R k28 28 wc w.heap.size (fun _ => True) u5 x5_3) ∧ Aside0 (IsS39 w0 wc g s0_0 s0_1 s0_2 s0_3 s0_4 x1005_3 x1006_12 s0_7 s0_8 s0_9v s0_10 s0_11 s0_12) ∧ Aside0 (KeepBut w wc g none) ∧ Aside0 (Below w0.heap.size w0 wc))
       case first => as_aux_lemma =>
        have H := HC18.out
        clear HC18
        by_cases c19 : x1005_3 < (s0_4.size : Int)
        ·rw [if_pos c19] at H
         have c19b0 : decide (x1005_3 < (s0_4.size : Int)) = true := decide_eq_true c19
         clear c19
         (first | rw [c19b0] | (simp only [i64_w, i32_w]; rw [c19b0]) | skip)
         have H' := Aside0.mk H
         clear H
         try go_wp2
         replace HO_5 := Aside0.mk (Kd.R_drew HO_5.out)
         replace HI0 := Aside0.mk (IsS39.drew HI0.out)
         replace HK := Aside0.mk (keep_drew HK.out)
         replace HB := Aside0.mk (below_drew1 HB.out)
         refine start_ (n := 17) (S := fun w' => w'.cell? ⟨g, 0, none⟩ = some (.int .i64 s0_0) ∧ w'.cell? ⟨g, 1, none⟩ = some (.int .i64 s0_1) ∧ w'.cell? ⟨g, 2, none⟩ = some (.int .i64 s0_2) ∧ w'.cell? ⟨g, 3, none⟩ = some (.int .i64 s0_3) ∧ w'.cell? ⟨g, 4, none⟩ = some (.string s0_4) ∧ w'.cell? ⟨g, 5, none⟩ = some (.int .i64 x1005_3) ∧ w'.cell? ⟨g, 6, none⟩ = some (.int .i64 x1006_12) ∧ w'.cell? ⟨g, 7, none⟩ = some (.bool s0_7) ∧ w'.cell? ⟨g, 8, none⟩ = some (.string s0_8) ∧ w'.cell? ⟨g, 10, none⟩ = some (.bool s0_10) ∧ w'.cell? ⟨g, 11, none⟩ = some (.int .i64 s0_11) ∧ w'.cell? ⟨g, 12, none⟩ = some (.int .i64 s0_12)) (ds := []) #[false, false, false, false, false, false, false, false, false, false, false, false, false, false, false, false, false] B4x5_ rfl rfl ⟨(blk_cell HI0.out.1 0).trans rfl, (blk_cell HI0.out.1 1).trans rfl, (blk_cell HI0.out.1 2).trans rfl, (blk_cell HI0.out.1 3).trans rfl, (blk_cell HI0.out.1 4).trans rfl, (blk_cell HI0.out.1 5).trans rfl, (blk_cell HI0.out.1 6).trans rfl, (blk_cell HI0.out.1 7).trans rfl, (blk_cell HI0.out.1 8).trans rfl, (blk_cell HI0.out.1 10).trans rfl, (blk_cell HI0.out.1 11).trans rfl, (blk_cell HI0.out.1 12).trans rfl⟩ (fun hHeld => ?_); refine with_tabW spec_l13Open.tab6 spec_l13Open.bits6 (fun HT_ HW_ => ?_)
         generalize wr.drew = w20 at HO_5 HI0 HK HB hHeld ⊢
         refine pu_ 0 47 HT_ ?_
         refine pu_ 1 48 HT_ ?_
         refine pu_ 2 49 HT_ ?_
         refine pu_ 4 51 HT_ ?_
         refine pu_ 5 52 HT_ ?_
         refine pu_ 6 53 HT_ ?_
         refine ta_ 3 50 HT_ HW_ hHeld ?_
         refine ta_ 7 54 HT_ HW_ hHeld ?_
         refine pu_ 8 55 HT_ ?_
         refine pu_ 9 56 HT_ ?_
         refine pu_ 10 57 HT_ ?_
         refine pu_ 11 58 HT_ ?_
         refine pu_ 12 59 HT_ ?_
         refine pu_ 13 60 HT_ ?_
         refine ta_ 14 61 HT_ HW_ hHeld ?_
         refine pu_ 15 62 HT_ ?_
         refine pu_ 16 63 HT_ ?_
         refine done_ (done_of HT_.out B4x5_) ?_
         try go_wp2
         go_meet
         case rel => exact ⟨_, (decide (x1005_3 < 24)), (be_), H', ⟨B4x12_⟩, ⟨B4x3_⟩, ⟨B4x0_⟩, ⟨B4x1_⟩, ⟨B4x2_⟩⟩
        ·rw [if_neg c19] at H
         have c19b0 : decide (x1005_3 < (s0_4.size : Int)) = false := decide_eq_false c19
         clear c19
         (first | rw [c19b0] | (simp only [i64_w, i32_w]; rw [c19b0]) | skip)
         have H' := Aside0.mk H
         clear H
         try go_wp2
         replace HO_5 := Aside0.mk (Kd.R_drew HO_5.out)
         replace HI0 := Aside0.mk (IsS39.drew HI0.out)
         replace HK := Aside0.mk (keep_drew HK.out)
         replace HB := Aside0.mk (below_drew1 HB.out)
         refine start_ (n := 17) (S := fun w' => w'.cell? ⟨g, 0, none⟩ = some (.int .i64 s0_0) ∧ w'.cell? ⟨g, 1, none⟩ = some (.int .i64 s0_1) ∧ w'.cell? ⟨g, 2, none⟩ = some (.int .i64 s0_2) ∧ w'.cell? ⟨g, 3, none⟩ = some (.int .i64 s0_3) ∧ w'.cell? ⟨g, 4, none⟩ = some (.string s0_4) ∧ w'.cell? ⟨g, 5, none⟩ = some (.int .i64 x1005_3) ∧ w'.cell? ⟨g, 6, none⟩ = some (.int .i64 x1006_12) ∧ w'.cell? ⟨g, 7, none⟩ = some (.bool s0_7) ∧ w'.cell? ⟨g, 8, none⟩ = some (.string s0_8) ∧ w'.cell? ⟨g, 10, none⟩ = some (.bool s0_10) ∧ w'.cell? ⟨g, 11, none⟩ = some (.int .i64 s0_11) ∧ w'.cell? ⟨g, 12, none⟩ = some (.int .i64 s0_12)) (ds := []) #[false, false, false, false, false, false, false, false, false, false, false, false, false, false, false, false, false] B4x5_ rfl rfl ⟨(blk_cell HI0.out.1 0).trans rfl, (blk_cell HI0.out.1 1).trans rfl, (blk_cell HI0.out.1 2).trans rfl, (blk_cell HI0.out.1 3).trans rfl, (blk_cell HI0.out.1 4).trans rfl, (blk_cell HI0.out.1 5).trans rfl, (blk_cell HI0.out.1 6).trans rfl, (blk_cell HI0.out.1 7).trans rfl, (blk_cell HI0.out.1 8).trans rfl, (blk_cell HI0.out.1 10).trans rfl, (blk_cell HI0.out.1 11).trans rfl, (blk_cell HI0.out.1 12).trans rfl⟩ (fun hHeld => ?_); refine with_tabW spec_l13Open.tab6 spec_l13Open.bits6 (fun HT_ HW_ => ?_)
         generalize wr.drew = w21 at HO_5 HI0 HK HB hHeld ⊢
         refine pu_ 0 47 HT_ ?_
         refine pu_ 1 48 HT_ ?_
         refine pu_ 2 49 HT_ ?_
         refine pu_ 4 51 HT_ ?_
         refine pu_ 5 52 HT_ ?_
         refine pu_ 6 53 HT_ ?_
         refine ta_ 3 50 HT_ HW_ hHeld ?_
         refine ta_ 7 54 HT_ HW_ hHeld ?_
         refine pu_ 8 55 HT_ ?_
         refine pu_ 9 56 HT_ ?_
         refine pu_ 10 57 HT_ ?_
         refine of_ 11 58 HT_ ?_
         refine of_ 12 59 HT_ ?_
         refine of_ 13 60 HT_ ?_
         refine of_ 14 61 HT_ ?_
         refine of_ 15 62 HT_ ?_
         refine pu_ 16 63 HT_ ?_
         refine done_ (done_of HT_.out B4x5_) ?_
         try go_wp2
         go_meet
         case rel => exact ⟨_, (false), (be_), H', ⟨B4x12_⟩, ⟨B4x3_⟩, ⟨B4x0_⟩, ⟨B4x1_⟩, ⟨B4x2_⟩⟩
       case rest => as_aux_lemma =>
        clear HC18
        obtain ⟨kq, x63_17, rfl, HA, HJ17, HO_5, HI0, HK, HB⟩ := hcut
        cases kq with
        | zero => exact absurd HA.out (by simp [spec_l13Open.j3])
        | succ kj17 =>
         have H := HA.out
         clear HA
         simp only [spec_l13Open.j3] at H
         by_cases c22 : x63_17 = true
         ·subst c22
          rw [if_pos rfl] at H
          replace H := bsi H
          obtain ⟨t139, A23, H⟩ := H
          (try dsimp only at H)
          replace H := bsi H
          obtain ⟨t140, A24, H⟩ := H
          (try dsimp only at H)
          replace H := bsi H
          obtain ⟨t141, A25, H⟩ := H
          (try dsimp only at H)
          by_cases c26 : 0 ≤ x1005_3
          rotate_left
          ·rw [if_neg c26] at H
           exact absurd H (by simp)
          rw [if_pos c26] at H
          have c26b0 := eq_true c26
          have c26b1 : decide (0 ≤ x1005_3) = true := decide_eq_true c26
          clear c26
          by_cases c27 : x1005_3 ≤ (wrap64 (x1005_3 + t140))
          rotate_left
          ·rw [if_neg c27] at H
           exact absurd H (by simp)
          rw [if_pos c27] at H
          have c27b0 := eq_true c27
          have c27b1 : decide (x1005_3 ≤ (wrap64 (x1005_3 + t140))) = true := decide_eq_true c27
          by_cases c28 : (wrap64 (x1005_3 + t140)) ≤ (s0_4.size : Int)
          rotate_left
          ·rw [if_neg c28] at H
           exact absurd H (by simp)
          rw [if_pos c28] at H
          have c28b0 := eq_true c28
          have c28b1 : decide ((wrap64 (x1005_3 + t140)) ≤ (s0_4.size : Int)) = true := decide_eq_true c28
          by_cases c29 : x5_3.length < 3518437208883
          rotate_left
          ·rw [if_neg c29] at H
           exact absurd H (by simp)
          rw [if_pos c29] at H
          have LMc29 := Aside0.mk c29
          clear c29
          obtain ⟨y142, hy142⟩ : ∃ y_ : List (S28), y_ = (x5_3 ++ [(⟨t141, s0_3, 2, s0_4.extract (x1005_3 : Int).toNat ((wrap64 (x1005_3 + t140)) : Int).toNat⟩ : S28)]) := ⟨_, rfl⟩
          replace H : (spec_l13Open.l0 kj17 a1 y142 s0_0 s0_1 s0_2 s0_3 s0_4 (wrap64 (x1005_3 + t140)) x1006_12 s0_7 s0_8 s0_9 s0_10 s0_11 s0_12) = some (r1, r2, r3, r4, r5, r6, r7, r8, r9, r10, r11, r12, r13) := by first | (rw [hy142]; with_reducible exact H) | (have H2_ := (Option.bind_some _ _).symm.trans H; rw [hy142]; with_reducible exact H2_) | (have H2_ := (Option.bind_some _ _).symm.trans H; with_reducible exact H2_) | with_reducible exact H | (rw [hy142]; exact H) | exact H
          have Ny142 := Aside0.mk hy142
          clear hy142
          have H' := Aside0.mk H
          clear H
          try go_wp2
          replace HO_5 := Aside0.mk (Kd.R_drew HO_5.out)
          replace HI0 := Aside0.mk (IsS39.drew HI0.out)
          replace HK := Aside0.mk (keep_drew HK.out)
          replace HB := Aside0.mk (below_drew1 HB.out)
          refine start_ (n := 13) (S := fun w' => w'.cell? ⟨g, 0, none⟩ = some (.int .i64 s0_0) ∧ w'.cell? ⟨g, 1, none⟩ = some (.int .i64 s0_1) ∧ w'.cell? ⟨g, 2, none⟩ = some (.int .i64 s0_2) ∧ w'.cell? ⟨g, 3, none⟩ = some (.int .i64 s0_3) ∧ w'.cell? ⟨g, 4, none⟩ = some (.string s0_4) ∧ w'.cell? ⟨g, 5, none⟩ = some (.int .i64 x1005_3) ∧ w'.cell? ⟨g, 6, none⟩ = some (.int .i64 x1006_12) ∧ w'.cell? ⟨g, 7, none⟩ = some (.bool s0_7) ∧ w'.cell? ⟨g, 8, none⟩ = some (.string s0_8) ∧ w'.cell? ⟨g, 10, none⟩ = some (.bool s0_10) ∧ w'.cell? ⟨g, 11, none⟩ = some (.int .i64 s0_11) ∧ w'.cell? ⟨g, 12, none⟩ = some (.int .i64 s0_12)) (ds := []) #[false, false, false, false, false, false, false, false, false, false, false, false, false] B4x5_ rfl rfl ⟨(blk_cell HI0.out.1 0).trans rfl, (blk_cell HI0.out.1 1).trans rfl, (blk_cell HI0.out.1 2).trans rfl, (blk_cell HI0.out.1 3).trans rfl, (blk_cell HI0.out.1 4).trans rfl, (blk_cell HI0.out.1 5).trans rfl, (blk_cell HI0.out.1 6).trans rfl, (blk_cell HI0.out.1 7).trans rfl, (blk_cell HI0.out.1 8).trans rfl, (blk_cell HI0.out.1 10).trans rfl, (blk_cell HI0.out.1 11).trans rfl, (blk_cell HI0.out.1 12).trans rfl⟩ (fun hHeld => ?_); refine with_tabW spec_l13Open.tab7 spec_l13Open.bits7 (fun HT_ HW_ => ?_)
          generalize wc.drew = w30 at HO_5 HI0 HK HB hHeld ⊢
          refine pu_ 0 64 HT_ ?_
          refine pu_ 1 65 HT_ ?_
          refine pu_ 2 66 HT_ ?_
          refine pu_ 6 70 HT_ ?_
          refine pu_ 7 71 HT_ ?_
          refine pu_ 8 72 HT_ ?_
          refine ta_ 3 67 HT_ HW_ hHeld ?_
          refine pu_ 4 68 HT_ ?_
          refine ta_ 9 73 HT_ HW_ hHeld ?_
          refine one_ (i := 5) (N := some 69) #[true, true, true, true, true, true, true, true, true, true, false, false, false] rfl rfl (one_of HT_.out B4x5_) (by decide) (fun K hK => ?_)
          refine goes_ Try.func131 B4x5_ rfl #[.int .i64 (s0_4.size : Int), .int .i64 24] (by rfl) rfl rfl B4x4_ ?_
          with_reducible refine (spec_l13Less.calls (s0_4.size : Int) 24 t139 _ A23.out).mono ?_
          rintro e w' ⟨rfl, ⟨nd, rfl⟩⟩
          refine ⟨_, rfl, ?_⟩
          refine hK.out _ _ ⟨(blk_cell HI0.out.1 0).trans rfl, (blk_cell HI0.out.1 1).trans rfl, (blk_cell HI0.out.1 2).trans rfl, (blk_cell HI0.out.1 3).trans rfl, (blk_cell HI0.out.1 4).trans rfl, (blk_cell HI0.out.1 5).trans rfl, (blk_cell HI0.out.1 6).trans rfl, (blk_cell HI0.out.1 7).trans rfl, (blk_cell HI0.out.1 8).trans rfl, (blk_cell HI0.out.1 10).trans rfl, (blk_cell HI0.out.1 11).trans rfl, (blk_cell HI0.out.1 12).trans rfl⟩ (fun hHeld => ?_)
          clear hK K
          refine norm_ (a' := ?_) ?_ ?_
          rotate_left
          ·show Act.put _ (some 69) _ = _
           simp only [Act.put, List.setIfInBounds_toArray, List.set_cons_zero, List.set_cons_succ, i64_w, i32_w]
           rfl
          refine pu_ 10 74 HT_ ?_
          refine one_ (i := 11) (N := some 75) #[true, true, true, true, true, true, true, true, true, true, true, true, false] rfl rfl (one_of HT_.out B4x5_) (by decide) (fun K hK => ?_)
          refine goes_ Try.func131 B4x5_ rfl #[.int .i64 8, .int .i64 (wrap64 (t139 - x1005_3))] (by rfl) rfl rfl B4x4_ ?_
          with_reducible refine (spec_l13Less.calls 8 (wrap64 (t139 - x1005_3)) t140 _ A24.out).mono ?_
          rintro e w' ⟨rfl, ⟨nd, rfl⟩⟩
          refine ⟨_, rfl, ?_⟩
          refine hK.out _ _ ⟨(blk_cell HI0.out.1 0).trans rfl, (blk_cell HI0.out.1 1).trans rfl, (blk_cell HI0.out.1 2).trans rfl, (blk_cell HI0.out.1 3).trans rfl, (blk_cell HI0.out.1 4).trans rfl, (blk_cell HI0.out.1 5).trans rfl, (blk_cell HI0.out.1 6).trans rfl, (blk_cell HI0.out.1 7).trans rfl, (blk_cell HI0.out.1 8).trans rfl, (blk_cell HI0.out.1 10).trans rfl, (blk_cell HI0.out.1 11).trans rfl, (blk_cell HI0.out.1 12).trans rfl⟩ (fun hHeld => ?_)
          clear hK K
          refine norm_ (a' := ?_) ?_ ?_
          rotate_left
          ·show Act.put _ (some 75) _ = _
           simp only [Act.put, List.setIfInBounds_toArray, List.set_cons_zero, List.set_cons_succ, i64_w, i32_w]
           rfl
          refine pu_ 12 6 HT_ ?_
          refine done_ (done_of HT_.out B4x5_) ?_
          try go_wp2
          (try (rw [drewN_self w30]; generalize hq_ : World.drewN w30 _ = w30; have n0_ : Aside0 (Kd.R k28 28 w30 w.heap.size (fun _ => True) u5 x5_3) := ⟨(by rw [← hq_]; exact B4x3_)⟩; have n1_ : Aside0 (IsS39 w0 w30 g s0_0 s0_1 s0_2 s0_3 s0_4 x1005_3 x1006_12 s0_7 s0_8 s0_9v s0_10 s0_11 s0_12) := ⟨(by rw [← hq_]; exact B4x0_)⟩; have n2_ : Aside0 (KeepBut w w30 g none) := ⟨(by rw [← hq_]; exact B4x1_)⟩; have n3_ : Aside0 (Below w0.heap.size w0 w30) := ⟨(by rw [← hq_]; exact B4x2_)⟩; clear HO_5 HI0 HK HB hq_; have HO_5 := n0_; have HI0 := n1_; have HK := n2_; have HB := n3_; clear n0_ n1_ n2_ n3_))
          (try (rw [drewN_self w30]; generalize hq_ : World.drewN w30 _ = w30; have n0_ : Aside0 (Kd.R k28 28 w30 w.heap.size (fun _ => True) u5 x5_3) := ⟨(by rw [← hq_]; exact B4x3_)⟩; have n1_ : Aside0 (IsS39 w0 w30 g s0_0 s0_1 s0_2 s0_3 s0_4 x1005_3 x1006_12 s0_7 s0_8 s0_9v s0_10 s0_11 s0_12) := ⟨(by rw [← hq_]; exact B4x0_)⟩; have n2_ : Aside0 (KeepBut w w30 g none) := ⟨(by rw [← hq_]; exact B4x1_)⟩; have n3_ : Aside0 (Below w0.heap.size w0 w30) := ⟨(by rw [← hq_]; exact B4x2_)⟩; clear HO_5 HI0 HK HB hq_; have HO_5 := n0_; have HI0 := n1_; have HK := n2_; have HB := n3_; clear n0_ n1_ n2_ n3_))
          replace HO_5 := Aside0.mk (Kd.R_drew HO_5.out)
          replace HI0 := Aside0.mk (IsS39.drew HI0.out)
          replace HK := Aside0.mk (keep_drew HK.out)
          replace HB := Aside0.mk (below_drew1 HB.out)
          refine start_ (n := 33) (S := fun w' => w'.cell? ⟨g, 0, none⟩ = some (.int .i64 s0_0) ∧ w'.cell? ⟨g, 1, none⟩ = some (.int .i64 s0_1) ∧ w'.cell? ⟨g, 2, none⟩ = some (.int .i64 s0_2) ∧ w'.cell? ⟨g, 3, none⟩ = some (.int .i64 s0_3) ∧ w'.cell? ⟨g, 4, none⟩ = some (.string s0_4) ∧ w'.cell? ⟨g, 5, none⟩ = some (.int .i64 x1005_3) ∧ w'.cell? ⟨g, 6, none⟩ = some (.int .i64 x1006_12) ∧ w'.cell? ⟨g, 7, none⟩ = some (.bool s0_7) ∧ w'.cell? ⟨g, 8, none⟩ = some (.string s0_8) ∧ w'.cell? ⟨g, 10, none⟩ = some (.bool s0_10) ∧ w'.cell? ⟨g, 11, none⟩ = some (.int .i64 s0_11) ∧ w'.cell? ⟨g, 12, none⟩ = some (.int .i64 s0_12)) (ds := []) #[false, false, false, false, false, false, false, false, false, false, false, false, false, false, false, false, false, false, false, false, false, false, false, false, false, false, false, false, false, false, false, false, false] B4x5_ rfl rfl ⟨(blk_cell HI0.out.1 0).trans rfl, (blk_cell HI0.out.1 1).trans rfl, (blk_cell HI0.out.1 2).trans rfl, (blk_cell HI0.out.1 3).trans rfl, (blk_cell HI0.out.1 4).trans rfl, (blk_cell HI0.out.1 5).trans rfl, (blk_cell HI0.out.1 6).trans rfl, (blk_cell HI0.out.1 7).trans rfl, (blk_cell HI0.out.1 8).trans rfl, (blk_cell HI0.out.1 10).trans rfl, (blk_cell HI0.out.1 11).trans rfl, (blk_cell HI0.out.1 12).trans rfl⟩ (fun hHeld => ?_); refine with_tabW spec_l13Open.tab8 spec_l13Open.bits8 (fun HT_ HW_ => ?_)
          generalize w30.drew = w31 at HO_5 HI0 HK HB hHeld ⊢
          refine pu_ 0 76 HT_ ?_
          refine pu_ 1 77 HT_ ?_
          refine pu_ 2 78 HT_ ?_
          refine pu_ 3 79 HT_ ?_
          refine pu_ 5 81 HT_ ?_
          refine pu_ 6 82 HT_ ?_
          refine pu_ 7 83 HT_ ?_
          refine pu_ 10 86 HT_ ?_
          refine pu_ 11 87 HT_ ?_
          refine pu_ 12 88 HT_ ?_
          refine pu_ 14 90 HT_ ?_
          refine pu_ 15 91 HT_ ?_
          refine pu_ 16 92 HT_ ?_
          refine pu_ 18 94 HT_ ?_
          refine pu_ 19 95 HT_ ?_
          refine pu_ 20 96 HT_ ?_
          refine pu_ 22 98 HT_ ?_
          refine pu_ 23 99 HT_ ?_
          refine pu_ 24 100 HT_ ?_
          refine pu_ 26 102 HT_ ?_
          refine ta_ 4 80 HT_ HW_ hHeld ?_
          refine ta_ 8 84 HT_ HW_ hHeld ?_
          refine ta_ 13 89 HT_ HW_ hHeld ?_
          refine ta_ 17 93 HT_ HW_ hHeld ?_
          refine ta_ 21 97 HT_ HW_ hHeld ?_
          refine ta_ 25 101 HT_ HW_ hHeld ?_
          refine pu_ 27 103 HT_ ?_
          refine pu_ 28 104 HT_ ?_
          refine one_ (i := 9) (N := some 85) #[true, true, true, true, true, true, true, true, true, true, true, true, true, true, true, true, true, true, true, true, true, true, true, true, true, true, true, true, true, false, false, false, false] rfl rfl (one_of HT_.out B4x5_) (by decide) (fun K hK => ?_)
          refine goes_ Try.func132 B4x5_ rfl #[.int .i64 s0_2, .int .i64 x1005_3] (by rfl) rfl rfl B4x4_ ?_
          with_reducible refine (spec_AddNum.calls s0_2 x1005_3 t141 _ A25.out).mono ?_
          rintro e w' ⟨rfl, ⟨nd, rfl⟩⟩
          refine ⟨_, rfl, ?_⟩
          refine hK.out _ _ ⟨(blk_cell HI0.out.1 0).trans rfl, (blk_cell HI0.out.1 1).trans rfl, (blk_cell HI0.out.1 2).trans rfl, (blk_cell HI0.out.1 3).trans rfl, (blk_cell HI0.out.1 4).trans rfl, (blk_cell HI0.out.1 5).trans rfl, (blk_cell HI0.out.1 6).trans rfl, (blk_cell HI0.out.1 7).trans rfl, (blk_cell HI0.out.1 8).trans rfl, (blk_cell HI0.out.1 10).trans rfl, (blk_cell HI0.out.1 11).trans rfl, (blk_cell HI0.out.1 12).trans rfl⟩ (fun hHeld => ?_)
          clear hK K
          refine norm_ (a' := ?_) ?_ ?_
          rotate_left
          ·show Act.put _ (some 85) _ = _
           simp only [Act.put, List.setIfInBounds_toArray, List.set_cons_zero, List.set_cons_succ, i64_w, i32_w]
           rfl
          refine pu_ 29 105 HT_ ?_
          refine one_ (i := 30) (N := some 106) #[true, true, true, true, true, true, true, true, true, true, true, true, true, true, true, true, true, true, true, true, true, true, true, true, true, true, true, true, true, true, true, false, false] rfl rfl (one_of HT_.out B4x5_) (by decide) (fun K hK => ?_)
          refine value_ (w1 := ?_) (v := ?_) (by rfl) rfl ?_ ?_
          rotate_left 2
          ·go_simp
           constructor
           ·rfl
           ·rfl
          refine hK.out _ _ ⟨(blk_cell (blk_alloc HI0.out.1 _) 0).trans rfl, (blk_cell (blk_alloc HI0.out.1 _) 1).trans rfl, (blk_cell (blk_alloc HI0.out.1 _) 2).trans rfl, (blk_cell (blk_alloc HI0.out.1 _) 3).trans rfl, (blk_cell (blk_alloc HI0.out.1 _) 4).trans rfl, (blk_cell (blk_alloc HI0.out.1 _) 5).trans rfl, (blk_cell (blk_alloc HI0.out.1 _) 6).trans rfl, (blk_cell (blk_alloc HI0.out.1 _) 7).trans rfl, (blk_cell (blk_alloc HI0.out.1 _) 8).trans rfl, (blk_cell (blk_alloc HI0.out.1 _) 10).trans rfl, (blk_cell (blk_alloc HI0.out.1 _) 11).trans rfl, (blk_cell (blk_alloc HI0.out.1 _) 12).trans rfl⟩ (fun hHeld => ?_)
          clear hK K
          refine norm_ (a' := ?_) ?_ ?_
          rotate_left
          ·show Act.put _ (some 106) _ = _
           simp only [Act.put, List.setIfInBounds_toArray, List.set_cons_zero, List.set_cons_succ, i64_w, i32_w]
           rfl
          refine one_ (i := 31) (N := some 107) #[true, true, true, true, true, true, true, true, true, true, true, true, true, true, true, true, true, true, true, true, true, true, true, true, true, true, true, true, true, true, true, true, false] rfl rfl (one_of HT_.out B4x5_) (by decide) (fun K hK => ?_)
          refine Kd.R_append_step k28 w.heap.size (by rfl) (.tmp 76) (.tmp 106) 40 28 (.agg #[(.int .i64 0), (.int .i64 0), (.int .i64 0), (.string ⟨#[]⟩)]) 40 rfl Try.underlying40 info28 rfl (by decide) (by omega) u5 x5_3 (⟨t141, s0_3, 2, s0_4.extract (x1005_3 : Int).toNat ((wrap64 (x1005_3 + t140)) : Int).toNat⟩ : S28) [.int .i64 t141, .int .i64 s0_3, .int .i64 2, .string (s0_4.extract (x1005_3 : Int).toNat ((wrap64 (x1005_3 + t140)) : Int).toNat)] (fun _ => True) (fun _ => False) rfl rfl ?aP (fun _ hk => hk.elim) ?aF ?aO (Below.refl _ _) ?aS ?aL ?_
          (case aP => exact k28_mkM _ _ _ (⟨t141, s0_3, 2, s0_4.extract (x1005_3 : Int).toNat ((wrap64 (x1005_3 + t140)) : Int).toNat⟩ : S28))
          (case aF => exact (fun _ _ => trivial))
          (case aO => exact B4x3_)
          (case aS => exact B4x7_)
          (case aL => have := LMc29.out; omega)
          intro v143 w32 ho hb hg hat
          rw [← Ny142.out] at ho
          replace HB := Aside0.mk (below_weaken B4x2_ HL.out hb)
          replace HI0 := Aside0.mk (IsS39.grown B4x0_ hg (IsS39.own_ne HI0.out HO_5.out (by decide)))
          replace HK := Aside0.mk (KeepBut.trans B4x1_ (KeepBut.of_grown hg g) (Kd.R_base2 HO_5.out))
          have HO144 := Aside0.mk (ho)
          clear HO_5
          clear ho hb hg hat
          refine hK.out _ _ ⟨(blk_cell HI0.out.1 0).trans rfl, (blk_cell HI0.out.1 1).trans rfl, (blk_cell HI0.out.1 2).trans rfl, (blk_cell HI0.out.1 3).trans rfl, (blk_cell HI0.out.1 4).trans rfl, (blk_cell HI0.out.1 5).trans rfl, (blk_cell HI0.out.1 6).trans rfl, (blk_cell HI0.out.1 7).trans rfl, (blk_cell HI0.out.1 8).trans rfl, (blk_cell HI0.out.1 10).trans rfl, (blk_cell HI0.out.1 11).trans rfl, (blk_cell HI0.out.1 12).trans rfl⟩ (fun hHeld => ?_)
          clear hK K
          refine norm_ (a' := ?_) ?_ ?_
          rotate_left
          ·show Act.put _ (some 107) _ = _
           simp only [Act.put, List.setIfInBounds_toArray, List.set_cons_zero, List.set_cons_succ, i64_w, i32_w]
           rfl
          refine pu_ 32 5 HT_ ?_
          refine done_ (done_of HT_.out B4x5_) ?_
          obtain ⟨HGz33, hgz33⟩ := HI0.out
          have hcz33_0 := cellS39_0 HGz33
          have hcz33_1 := cellS39_1 HGz33
          have hcz33_2 := cellS39_2 HGz33
          have hcz33_3 := cellS39_3 HGz33
          have hcz33_4 := cellS39_4 HGz33
          have hcz33_5 := cellS39_5 HGz33
          have hcz33_6 := cellS39_6 HGz33
          have hcz33_7 := cellS39_7 HGz33
          have hcz33_8 := cellS39_8 HGz33
          have hcz33_9 := cellS39_9 HGz33
          have hcz33_10 := cellS39_10 HGz33
          have hcz33_11 := cellS39_11 HGz33
          have hcz33_12 := cellS39_12 HGz33
          obtain ⟨hfz33_0, hfz33_1, hfz33_2, hfz33_3, hfz33_4, hfz33_5, hfz33_6, hfz33_7, hfz33_8⟩ := fr9 HGz33
          have hfz33_10 := blk_frozen HGz33 10
          have hfz33_11 := blk_frozen HGz33 11
          have hfz33_12 := blk_frozen HGz33 12
          clear HGz33 hgz33
          try go_wp2
          go_roundg kj17
          case measure => have := HJ2.out; have := HJ12.out; have := HK3.out; have := HJ17.out; omega
          case rel => exact ⟨(y142), (wrap64 (x1005_3 + t140)), H', ⟨(by have := HJ2.out; have := HJ12.out; have := HK3.out; have := HJ17.out; omega)⟩, ⟨(by (with_reducible repeat (first | apply Kd.R_alloc | apply Kd.R_drewN | apply Kd.R_drew)); exact Kd.R_mono (Kd.R_far (p := ⟨g, 5, none⟩) (IsS39.apart HI0.out HO144.out (by decide)) (fun _ hk => hk.2) (.int .i64 (wrap64 (x1005_3 + t140)))) (fun _ hk => trivial))⟩, ⟨B4x0_⟩, ⟨B4x1_⟩, ⟨B4x2_⟩⟩
         ·replace c22 := Bool.eq_false_iff.mpr c22
          subst c22
          rw [if_neg (show ¬ (false = true) by decide)] at H
          have HC34 := Aside0.mk H
          clear H
          go_upto_region 10 with (fail)
          go_cut [133] (fun v133 wc => ∃ (kq : Nat) (x133_33 : Bool), v133 = .bool x133_33 ∧ Aside0 (spec_l13Open.j4 kq a1 x5_3 x133_33 s0_0 s0_1 s0_2 s0_3 s0_4 x1005_3 x1006_12 s0_7 s0_8 s0_9 s0_10 s0_11 s0_12 = some (r1, r2, r3, r4, r5, r6, r7, r8, r9, r10, r11, r12, r13)) ∧ Aside0 (kq ≤ kj17) ∧ Aside0 (Kd.R k28 28 wc w.heap.size (fun _ => True) u5 x5_3) ∧ Aside0 (IsS39 w0 wc g s0_0 s0_1 s0_2 s0_3 s0_4 x1005_3 x1006_12 s0_7 s0_8 s0_9v s0_10 s0_11 s0_12) ∧ Aside0 (KeepBut w wc g none) ∧ Aside0 (Below w0.heap.size w0 wc))
          case first => as_aux_lemma =>
           have H := HC34.out
           clear HC34
           by_cases c35 : x1006_12 = 1
           ·rw [if_pos c35] at H
            have c35b0 := beq_iff_eq.mpr c35
            have c35b1 := bne_eq_false_iff_eq.mpr c35
            clear c35
            (first | rw [c35b0] | (simp only [i64_w, i32_w]; rw [c35b0]) | skip)
            have H' := Aside0.mk H
            clear H
            try go_wp2
            replace HO_5 := Aside0.mk (Kd.R_drew HO_5.out)
            replace HI0 := Aside0.mk (IsS39.drew HI0.out)
            replace HK := Aside0.mk (keep_drew HK.out)
            replace HB := Aside0.mk (below_drew1 HB.out)
            refine start_ (n := 17) (S := fun w' => w'.cell? ⟨g, 0, none⟩ = some (.int .i64 s0_0) ∧ w'.cell? ⟨g, 1, none⟩ = some (.int .i64 s0_1) ∧ w'.cell? ⟨g, 2, none⟩ = some (.int .i64 s0_2) ∧ w'.cell? ⟨g, 3, none⟩ = some (.int .i64 s0_3) ∧ w'.cell? ⟨g, 4, none⟩ = some (.string s0_4) ∧ w'.cell? ⟨g, 5, none⟩ = some (.int .i64 x1005_3) ∧ w'.cell? ⟨g, 6, none⟩ = some (.int .i64 x1006_12) ∧ w'.cell? ⟨g, 7, none⟩ = some (.bool s0_7) ∧ w'.cell? ⟨g, 8, none⟩ = some (.string s0_8) ∧ w'.cell? ⟨g, 10, none⟩ = some (.bool s0_10) ∧ w'.cell? ⟨g, 11, none⟩ = some (.int .i64 s0_11) ∧ w'.cell? ⟨g, 12, none⟩ = some (.int .i64 s0_12)) (ds := []) #[false, false, false, false, false, false, false, false, false, false, false, false, false, false, false, false, false] B4x5_ rfl rfl ⟨(blk_cell HI0.out.1 0).trans rfl, (blk_cell HI0.out.1 1).trans rfl, (blk_cell HI0.out.1 2).trans rfl, (blk_cell HI0.out.1 3).trans rfl, (blk_cell HI0.out.1 4).trans rfl, (blk_cell HI0.out.1 5).trans rfl, (blk_cell HI0.out.1 6).trans rfl, (blk_cell HI0.out.1 7).trans rfl, (blk_cell HI0.out.1 8).trans rfl, (blk_cell HI0.out.1 10).trans rfl, (blk_cell HI0.out.1 11).trans rfl, (blk_cell HI0.out.1 12).trans rfl⟩ (fun hHeld => ?_); refine with_tabW spec_l13Open.tab10 spec_l13Open.bits10 (fun HT_ HW_ => ?_)
            generalize wc.drew = w36 at HO_5 HI0 HK HB hHeld ⊢
            refine pu_ 0 117 HT_ ?_
            refine pu_ 1 118 HT_ ?_
            refine pu_ 2 119 HT_ ?_
            refine ta_ 3 120 HT_ HW_ hHeld ?_
            refine pu_ 4 121 HT_ ?_
            refine pu_ 5 122 HT_ ?_
            refine pu_ 6 123 HT_ ?_
            refine pu_ 7 124 HT_ ?_
            refine pu_ 8 125 HT_ ?_
            refine pu_ 10 127 HT_ ?_
            refine pu_ 11 128 HT_ ?_
            refine pu_ 12 129 HT_ ?_
            refine ta_ 9 126 HT_ HW_ hHeld ?_
            refine ta_ 13 130 HT_ HW_ hHeld ?_
            refine pu_ 14 131 HT_ ?_
            refine pu_ 15 132 HT_ ?_
            refine pu_ 16 133 HT_ ?_
            refine done_ (done_of HT_.out B4x5_) ?_
            try go_wp2
            go_meet
            case rel => exact ⟨_, ((x1005_3 == (s0_4.size : Int))), (be_), H', ⟨B4x11_⟩, ⟨B4x3_⟩, ⟨B4x0_⟩, ⟨B4x1_⟩, ⟨B4x2_⟩⟩
           ·rw [if_neg c35] at H
            have c35b0 := beq_eq_false_iff_ne.mpr c35
            have c35b1 := bne_iff_ne.mpr c35
            (first | rw [c35b0] | (simp only [i64_w, i32_w]; rw [c35b0]) | skip)
            have H' := Aside0.mk H
            clear H
            try go_wp2
            replace HO_5 := Aside0.mk (Kd.R_drew HO_5.out)
            replace HI0 := Aside0.mk (IsS39.drew HI0.out)
            replace HK := Aside0.mk (keep_drew HK.out)
            replace HB := Aside0.mk (below_drew1 HB.out)
            refine start_ (n := 17) (S := fun w' => w'.cell? ⟨g, 0, none⟩ = some (.int .i64 s0_0) ∧ w'.cell? ⟨g, 1, none⟩ = some (.int .i64 s0_1) ∧ w'.cell? ⟨g, 2, none⟩ = some (.int .i64 s0_2) ∧ w'.cell? ⟨g, 3, none⟩ = some (.int .i64 s0_3) ∧ w'.cell? ⟨g, 4, none⟩ = some (.string s0_4) ∧ w'.cell? ⟨g, 5, none⟩ = some (.int .i64 x1005_3) ∧ w'.cell? ⟨g, 6, none⟩ = some (.int .i64 x1006_12) ∧ w'.cell? ⟨g, 7, none⟩ = some (.bool s0_7) ∧ w'.cell? ⟨g, 8, none⟩ = some (.string s0_8) ∧ w'.cell? ⟨g, 10, none⟩ = some (.bool s0_10) ∧ w'.cell? ⟨g, 11, none⟩ = some (.int .i64 s0_11) ∧ w'.cell? ⟨g, 12, none⟩ = some (.int .i64 s0_12)) (ds := []) #[false, false, false, false, false, false, false, false, false, false, false, false, false, false, false, false, false] B4x5_ rfl rfl ⟨(blk_cell HI0.out.1 0).trans rfl, (blk_cell HI0.out.1 1).trans rfl, (blk_cell HI0.out.1 2).trans rfl, (blk_cell HI0.out.1 3).trans rfl, (blk_cell HI0.out.1 4).trans rfl, (blk_cell HI0.out.1 5).trans rfl, (blk_cell HI0.out.1 6).trans rfl, (blk_cell HI0.out.1 7).trans rfl, (blk_cell HI0.out.1 8).trans rfl, (blk_cell HI0.out.1 10).trans rfl, (blk_cell HI0.out.1 11).trans rfl, (blk_cell HI0.out.1 12).trans rfl⟩ (fun hHeld => ?_); refine with_tabW spec_l13Open.tab10 spec_l13Open.bits10 (fun HT_ HW_ => ?_)
            generalize wc.drew = w37 at HO_5 HI0 HK HB hHeld ⊢
            refine pu_ 0 117 HT_ ?_
            refine pu_ 1 118 HT_ ?_
            refine pu_ 2 119 HT_ ?_
            refine ta_ 3 120 HT_ HW_ hHeld ?_
            refine pu_ 4 121 HT_ ?_
            refine pu_ 5 122 HT_ ?_
            refine of_ 6 123 HT_ ?_
            refine of_ 7 124 HT_ ?_
            refine of_ 8 125 HT_ ?_
            refine of_ 9 126 HT_ ?_
            refine of_ 10 127 HT_ ?_
            refine of_ 11 128 HT_ ?_
            refine of_ 12 129 HT_ ?_
            refine of_ 13 130 HT_ ?_
            refine of_ 14 131 HT_ ?_
            refine of_ 15 132 HT_ ?_
            refine pu_ 16 133 HT_ ?_
            refine done_ (done_of HT_.out B4x5_) ?_
            try go_wp2
            go_meet
            case rel => exact ⟨_, (false), (be_), H', ⟨B4x11_⟩, ⟨B4x3_⟩, ⟨B4x0_⟩, ⟨B4x1_⟩, ⟨B4x2_⟩⟩
          case rest => as_aux_lemma =>
           clear HC34
           try clear c22
           obtain ⟨kq, x133_33, rfl, HA, HJ33, HO_5, HI0, HK, HB⟩ := hcut
           cases kq with
           | zero => exact absurd HA.out (by simp [spec_l13Open.j4])
           | succ kj33 =>
            have H := HA.out
            clear HA
            simp only [spec_l13Open.j4] at H
            have HC38 := Aside0.mk H
            clear H
            go_upto_if 133 with (fail)
            go_cut [5] (fun v5 wc => ∃ (kq : Nat) (x5_37 : List (S28)) (x1006_37 : Int), Aside0 (spec_l13Open.j5 kq a1 x5_37 s0_0 s0_1 s0_2 s0_3 s0_4 x1005_3 x1006_37 s0_7 s0_8 s0_9 s0_10 s0_11 s0_12 = some (r1, r2, r3, r4, r5, r6, r7, r8, r9, r10, r11, r12, r13)) ∧ Aside0 (kq ≤ kj33) ∧ Aside0 (Kd.R k28 28 wc w.heap.size (fun _ => True) v5 x5_37) ∧ Aside0 (IsS39 w0 wc g s0_0 s0_1 s0_2 s0_3 s0_4 x1005_3 x1006_37 s0_7 s0_8 s0_9v s0_10 s0_11 s0_12) ∧ Aside0 (KeepBut w wc g none) ∧ Aside0 (Below w0.heap.size w0 wc))
            case first => as_aux_lemma =>
             have H := HC38.out
             clear HC38
             by_cases c39 : x133_33 = true
             ·subst c39
              rw [if_pos rfl] at H
              replace H := bsi H
              obtain ⟨t145, A40, H⟩ := H
              (try dsimp only at H)
              by_cases c41 : x5_3.length < 3518437208883
              rotate_left
              ·rw [if_neg c41] at H
               exact absurd H (by simp)
              rw [if_pos c41] at H
              have LMc41 := Aside0.mk c41
              clear c41
              obtain ⟨y146, hy146⟩ : ∃ y_ : List (S28), y_ = (x5_3 ++ [(⟨t145, s0_3, 6, (⟨#[]⟩ : ByteArray)⟩ : S28)]) := ⟨_, rfl⟩
              replace H : (spec_l13Open.j5 kj33 a1 y146 s0_0 s0_1 s0_2 s0_3 s0_4 x1005_3 2 s0_7 s0_8 s0_9 s0_10 s0_11 s0_12) = some (r1, r2, r3, r4, r5, r6, r7, r8, r9, r10, r11, r12, r13) := by first | (rw [hy146]; with_reducible exact H) | (have H2_ := (Option.bind_some _ _).symm.trans H; rw [hy146]; with_reducible exact H2_) | (have H2_ := (Option.bind_some _ _).symm.trans H; with_reducible exact H2_) | with_reducible exact H | (rw [hy146]; exact H) | exact H
              have Ny146 := Aside0.mk hy146
              clear hy146
              have H' := Aside0.mk H
              clear H
              try go_wp2
              replace HO_5 := Aside0.mk (Kd.R_drew HO_5.out)
              replace HI0 := Aside0.mk (IsS39.drew HI0.out)
              replace HK := Aside0.mk (keep_drew HK.out)
              replace HB := Aside0.mk (below_drew1 HB.out)
              refine start_ (n := 18) (S := fun w' => w'.cell? ⟨g, 0, none⟩ = some (.int .i64 s0_0) ∧ w'.cell? ⟨g, 1, none⟩ = some (.int .i64 s0_1) ∧ w'.cell? ⟨g, 2, none⟩ = some (.int .i64 s0_2) ∧ w'.cell? ⟨g, 3, none⟩ = some (.int .i64 s0_3) ∧ w'.cell? ⟨g, 4, none⟩ = some (.string s0_4) ∧ w'.cell? ⟨g, 5, none⟩ = some (.int .i64 x1005_3) ∧ w'.cell? ⟨g, 6, none⟩ = some (.int .i64 x1006_12) ∧ w'.cell? ⟨g, 7, none⟩ = some (.bool s0_7) ∧ w'.cell? ⟨g, 8, none⟩ = some (.string s0_8) ∧ w'.cell? ⟨g, 10, none⟩ = some (.bool s0_10) ∧ w'.cell? ⟨g, 11, none⟩ = some (.int .i64 s0_11) ∧ w'.cell? ⟨g, 12, none⟩ = some (.int .i64 s0_12)) (ds := []) #[false, false, false, false, false, false, false, false, false, false, false, false, false, false, false, false, false, false] B4x5_ rfl rfl ⟨(blk_cell HI0.out.1 0).trans rfl, (blk_cell HI0.out.1 1).trans rfl, (blk_cell HI0.out.1 2).trans rfl, (blk_cell HI0.out.1 3).trans rfl, (blk_cell HI0.out.1 4).trans rfl, (blk_cell HI0.out.1 5).trans rfl, (blk_cell HI0.out.1 6).trans rfl, (blk_cell HI0.out.1 7).trans rfl, (blk_cell HI0.out.1 8).trans rfl, (blk_cell HI0.out.1 10).trans rfl, (blk_cell HI0.out.1 11).trans rfl, (blk_cell HI0.out.1 12).trans rfl⟩ (fun hHeld => ?_); refine with_tabW spec_l13Open.tab11 spec_l13Open.bits11 (fun HT_ HW_ => ?_)
              generalize wc.drew = w42 at HO_5 HI0 HK HB hHeld ⊢
              refine pu_ 0 134 HT_ ?_
              refine pu_ 1 135 HT_ ?_
              refine pu_ 2 136 HT_ ?_
              refine pu_ 3 137 HT_ ?_
              refine pu_ 5 139 HT_ ?_
              refine pu_ 6 140 HT_ ?_
              refine pu_ 7 141 HT_ ?_
              refine pu_ 10 144 HT_ ?_
              refine pu_ 11 145 HT_ ?_
              refine pu_ 12 146 HT_ ?_
              refine ta_ 4 138 HT_ HW_ hHeld ?_
              refine ta_ 8 142 HT_ HW_ hHeld ?_
              refine ta_ 13 147 HT_ HW_ hHeld ?_
              refine one_ (i := 9) (N := some 143) #[true, true, true, true, true, true, true, true, true, true, true, true, true, true, false, false, false, false] rfl rfl (one_of HT_.out B4x5_) (by decide) (fun K hK => ?_)
              refine goes_ Try.func132 B4x5_ rfl #[.int .i64 s0_2, .int .i64 x1005_3] (by rfl) rfl rfl B4x4_ ?_
              with_reducible refine (spec_AddNum.calls s0_2 x1005_3 t145 _ A40.out).mono ?_
              rintro e w' ⟨rfl, ⟨nd, rfl⟩⟩
              refine ⟨_, rfl, ?_⟩
              refine hK.out _ _ ⟨(blk_cell HI0.out.1 0).trans rfl, (blk_cell HI0.out.1 1).trans rfl, (blk_cell HI0.out.1 2).trans rfl, (blk_cell HI0.out.1 3).trans rfl, (blk_cell HI0.out.1 4).trans rfl, (blk_cell HI0.out.1 5).trans rfl, (blk_cell HI0.out.1 6).trans rfl, (blk_cell HI0.out.1 7).trans rfl, (blk_cell HI0.out.1 8).trans rfl, (blk_cell HI0.out.1 10).trans rfl, (blk_cell HI0.out.1 11).trans rfl, (blk_cell HI0.out.1 12).trans rfl⟩ (fun hHeld => ?_)
              clear hK K
              refine norm_ (a' := ?_) ?_ ?_
              rotate_left
              ·show Act.put _ (some 143) _ = _
               simp only [Act.put, List.setIfInBounds_toArray, List.set_cons_zero, List.set_cons_succ, i64_w, i32_w]
               rfl
              refine pu_ 14 148 HT_ ?_
              refine one_ (i := 15) (N := some 149) #[true, true, true, true, true, true, true, true, true, true, true, true, true, true, true, true, false, false] rfl rfl (one_of HT_.out B4x5_) (by decide) (fun K hK => ?_)
              refine value_ (w1 := ?_) (v := ?_) (by rfl) rfl ?_ ?_
              rotate_left 2
              ·go_simp
               constructor
               ·rfl
               ·rfl
              refine hK.out _ _ ⟨(blk_cell (blk_alloc HI0.out.1 _) 0).trans rfl, (blk_cell (blk_alloc HI0.out.1 _) 1).trans rfl, (blk_cell (blk_alloc HI0.out.1 _) 2).trans rfl, (blk_cell (blk_alloc HI0.out.1 _) 3).trans rfl, (blk_cell (blk_alloc HI0.out.1 _) 4).trans rfl, (blk_cell (blk_alloc HI0.out.1 _) 5).trans rfl, (blk_cell (blk_alloc HI0.out.1 _) 6).trans rfl, (blk_cell (blk_alloc HI0.out.1 _) 7).trans rfl, (blk_cell (blk_alloc HI0.out.1 _) 8).trans rfl, (blk_cell (blk_alloc HI0.out.1 _) 10).trans rfl, (blk_cell (blk_alloc HI0.out.1 _) 11).trans rfl, (blk_cell (blk_alloc HI0.out.1 _) 12).trans rfl⟩ (fun hHeld => ?_)
              clear hK K
              refine norm_ (a' := ?_) ?_ ?_
              rotate_left
              ·show Act.put _ (some 149) _ = _
               simp only [Act.put, List.setIfInBounds_toArray, List.set_cons_zero, List.set_cons_succ, i64_w, i32_w]
               rfl
              refine one_ (i := 16) (N := some 150) #[true, true, true, true, true, true, true, true, true, true, true, true, true, true, true, true, true, false] rfl rfl (one_of HT_.out B4x5_) (by decide) (fun K hK => ?_)
              refine Kd.R_append_step k28 w.heap.size (by rfl) (.tmp 134) (.tmp 149) 40 28 (.agg #[(.int .i64 0), (.int .i64 0), (.int .i64 0), (.string ⟨#[]⟩)]) 40 rfl Try.underlying40 info28 rfl (by decide) (by omega) u5 x5_3 (⟨t145, s0_3, 6, (⟨#[]⟩ : ByteArray)⟩ : S28) [.int .i64 t145, .int .i64 s0_3, .int .i64 6, .string (⟨#[]⟩ : ByteArray)] (fun _ => True) (fun _ => False) rfl rfl ?aP (fun _ hk => hk.elim) ?aF ?aO (Below.refl _ _) ?aS ?aL ?_
              (case aP => exact k28_mkM _ _ _ (⟨t145, s0_3, 6, (⟨#[]⟩ : ByteArray)⟩ : S28))
              (case aF => exact (fun _ _ => trivial))
              (case aO => exact B4x3_)
              (case aS => exact B4x7_)
              (case aL => have := LMc41.out; omega)
              intro v147 w43 ho hb hg hat
              rw [← Ny146.out] at ho
              replace HB := Aside0.mk (below_weaken B4x2_ HL.out hb)
              replace HI0 := Aside0.mk (IsS39.grown B4x0_ hg (IsS39.own_ne HI0.out HO_5.out (by decide)))
              replace HK := Aside0.mk (KeepBut.trans B4x1_ (KeepBut.of_grown hg g) (Kd.R_base2 HO_5.out))
              have HO148 := Aside0.mk (ho)
              clear HO_5
              clear ho hb hg hat
              refine hK.out _ _ ⟨(blk_cell HI0.out.1 0).trans rfl, (blk_cell HI0.out.1 1).trans rfl, (blk_cell HI0.out.1 2).trans rfl, (blk_cell HI0.out.1 3).trans rfl, (blk_cell HI0.out.1 4).trans rfl, (blk_cell HI0.out.1 5).trans rfl, (blk_cell HI0.out.1 6).trans rfl, (blk_cell HI0.out.1 7).trans rfl, (blk_cell HI0.out.1 8).trans rfl, (blk_cell HI0.out.1 10).trans rfl, (blk_cell HI0.out.1 11).trans rfl, (blk_cell HI0.out.1 12).trans rfl⟩ (fun hHeld => ?_)
              clear hK K
              refine norm_ (a' := ?_) ?_ ?_
              rotate_left
              ·show Act.put _ (some 150) _ = _
               simp only [Act.put, List.setIfInBounds_toArray, List.set_cons_zero, List.set_cons_succ, i64_w, i32_w]
               rfl
              refine pu_ 17 5 HT_ ?_
              refine done_ (done_of HT_.out B4x5_) ?_
              obtain ⟨HGz44, hgz44⟩ := HI0.out
              have hcz44_0 := cellS39_0 HGz44
              have hcz44_1 := cellS39_1 HGz44
              have hcz44_2 := cellS39_2 HGz44
              have hcz44_3 := cellS39_3 HGz44
              have hcz44_4 := cellS39_4 HGz44
              have hcz44_5 := cellS39_5 HGz44
              have hcz44_6 := cellS39_6 HGz44
              have hcz44_7 := cellS39_7 HGz44
              have hcz44_8 := cellS39_8 HGz44
              have hcz44_9 := cellS39_9 HGz44
              have hcz44_10 := cellS39_10 HGz44
              have hcz44_11 := cellS39_11 HGz44
              have hcz44_12 := cellS39_12 HGz44
              obtain ⟨hfz44_0, hfz44_1, hfz44_2, hfz44_3, hfz44_4, hfz44_5, hfz44_6, hfz44_7, hfz44_8⟩ := fr9 HGz44
              have hfz44_10 := blk_frozen HGz44 10
              have hfz44_11 := blk_frozen HGz44 11
              have hfz44_12 := blk_frozen HGz44 12
              clear HGz44 hgz44
              try go_wp2
              go_meet
              case rel => exact ⟨_, (y146), (2), H', ⟨B4x8_⟩, ⟨(by (with_reducible repeat (first | apply Kd.R_alloc | apply Kd.R_drewN | apply Kd.R_drew)); exact Kd.R_mono (Kd.R_far (p := ⟨g, 6, none⟩) (IsS39.apart HI0.out HO148.out (by decide)) (fun _ hk => hk.2) (.int .i64 2)) (fun _ hk => trivial))⟩, ⟨B4x0_⟩, ⟨B4x1_⟩, ⟨B4x2_⟩⟩
             ·replace c39 := Bool.eq_false_iff.mpr c39
              subst c39
              rw [if_neg (show ¬ (false = true) by decide)] at H
              have H' := Aside0.mk H
              clear H
              go_wp2
              go_meet
              case rel => exact ⟨_, (x5_3), (x1006_12), H', ⟨B4x8_⟩, ⟨B4x3_⟩, ⟨B4x0_⟩, ⟨B4x1_⟩, ⟨B4x2_⟩⟩
            case rest => as_aux_lemma =>
             clear HC38
             try clear c22
             obtain ⟨kq, x5_37, x1006_37, HA, HJ37, HO_5, HI0, HK, HB⟩ := hcut
             cases kq with
             | zero => exact absurd HA.out (by simp [spec_l13Open.j5])
             | succ kj37 =>
              have H := HA.out
              clear HA
              simp only [spec_l13Open.j5] at H
              by_cases c45 : (x5_37.length : Int) > 0
              ·rw [if_pos c45] at H
               have c45b0 : decide (0 < (x5_37.length : Int)) = true := decide_eq_true c45
               have c45b1 : decide (0 < x5_37.length) = true := decide_eq_true (by omega)
               clear c45
               replace H := bsi H
               obtain ⟨⟨t149, t150, t151, t152, t153, t154, t155, t156, t157, t158, t159, t160⟩, A46, H⟩ := H
               (try dsimp only at H)
               simp only [Option.some.injEq, Prod.mk.injEq] at H
               obtain ⟨rfl, rfl, rfl, rfl, rfl, rfl, rfl, rfl, rfl, rfl, rfl, rfl, rfl⟩ := H
               obtain ⟨Ao47, co47, eo47⟩ := Kd.R_slice HO_5.out
               subst eo47
               go_wp2_with (first | ((with_reducible refine gate_callee (f := 71) rfl ?_); refine goesL_ (some 159) rfl rfl Try.func71 B4x5_ rfl #[.pointer (some ⟨g, 0, none⟩), .int .i64 a1] rfl B4x4_ ?_; (with_reducible refine (spec_l13Again.calls kj37 g s0_0 s0_1 s0_2 s0_3 s0_4 x1005_3 x1006_37 s0_7 s0_8 s0_9 s0_9v s0_10 s0_11 s0_12 a1 t149 t150 t151 t152 t153 t154 t155 t156 t157 t158 t159 t160 w0 _ ?side1 ?side2 A46.out).mono ?_); (case side1 => exact B4x0_); (case side2 => exact B4x2_); rintro e w48 ⟨rfl, hi, hb, hk⟩; refine ⟨_, rfl, ?_⟩; replace HO_5 := Aside0.mk (Kd.R_mono (Kd.R_keep (IsS39.apart (show IsS39 w0 _ g s0_0 s0_1 s0_2 s0_3 s0_4 x1005_3 x1006_37 s0_7 s0_8 s0_9v s0_10 s0_11 s0_12 from B4x0_) B4x3_ (by decide)) hk (fun _ h => h.2)) (fun _ h => h.1)); replace HK := Aside0.mk (KeepBut.trans B4x1_ hk (.inl rfl)); replace HB := Aside0.mk (hb); replace HI0 := Aside0.mk (hi); (try clear hb hk hi)))
               go_ret
               exact ⟨_, by first | rfl | (simp [errW_none, errW_some] <;> rfl) | (simp [*, errW_none, errW_some] <;> rfl), by (with_reducible repeat (first | apply Kd.R_alloc | apply Kd.R_drewN | apply Kd.R_drew)); exact HO_5.out, by repeat (first | (with_reducible first | exact HI0.out | apply IsS39.alloc | apply IsS39.drewN | apply IsS39.drew | apply IsS39.set_0 | apply IsS39.set_1 | apply IsS39.set_2 | apply IsS39.set_3 | apply IsS39.set_4 | apply IsS39.set_5 | apply IsS39.set_6 | apply IsS39.set_7 | apply IsS39.set_8 | apply IsS39.set_10 | apply IsS39.set_11 | apply IsS39.set_12) | exact HI0.out), by repeat (first | (with_reducible first | exact HB.out | apply below_alloc | apply pw_below_drewN | apply below_drew1 | refine below_set ?_ (IsS39.ge HI0.out)) | exact HB.out), by repeat (first | (with_reducible first | exact HK.out | apply KeepBut.set_ | apply keep_drewN | apply keep_drew | apply keep_alloc) | exact HK.out)⟩
              ·rw [if_neg c45] at H
               have c45b0 : decide (0 < (x5_37.length : Int)) = false := decide_eq_false c45
               have c45b1 : decide (0 < x5_37.length) = false := decide_eq_false (by omega)
               clear c45
               by_cases c49 : s0_10 = true
               ·subst c49
                rw [if_pos rfl] at H
                by_cases c50 : x1006_37 = 2
                ·rw [if_pos c50] at H
                 have c50b0 := beq_iff_eq.mpr c50
                 have c50b1 := bne_eq_false_iff_eq.mpr c50
                 clear c50
                 replace H := bsi H
                 obtain ⟨t161, A51, H⟩ := H
                 (try dsimp only at H)
                 by_cases c52 : x5_37.length < 3518437208883
                 rotate_left
                 ·rw [if_neg c52] at H
                  exact absurd H (by simp)
                 rw [if_pos c52] at H
                 have LMc52 := Aside0.mk c52
                 clear c52
                 obtain ⟨y162, hy162⟩ : ∃ y_ : List (S28), y_ = (x5_37 ++ [(⟨t161, s0_3, 2, (⟨#[]⟩ : ByteArray)⟩ : S28)]) := ⟨_, rfl⟩
                 replace H : (some (y162, s0_0, s0_1, s0_2, s0_3, s0_4, x1005_3, x1006_37, s0_7, s0_8, false, s0_11, s0_12)) = some (r1, r2, r3, r4, r5, r6, r7, r8, r9, r10, r11, r12, r13) := by first | (rw [hy162]; with_reducible exact H) | (have H2_ := (Option.bind_some _ _).symm.trans H; rw [hy162]; with_reducible exact H2_) | (have H2_ := (Option.bind_some _ _).symm.trans H; with_reducible exact H2_) | with_reducible exact H | (rw [hy162]; exact H) | exact H
                 have Ny162 := Aside0.mk hy162
                 clear hy162
                 simp only [Option.some.injEq, Prod.mk.injEq] at H
                 obtain ⟨rfl, rfl, rfl, rfl, rfl, rfl, rfl, rfl, rfl, rfl, rfl, rfl, rfl⟩ := H
                 obtain ⟨Ao53, co53, eo53⟩ := Kd.R_slice HO_5.out
                 subst eo53
                 obtain ⟨HGz54, hgz54⟩ := HI0.out
                 have hcz54_0 := cellS39_0 HGz54
                 have hcz54_1 := cellS39_1 HGz54
                 have hcz54_2 := cellS39_2 HGz54
                 have hcz54_3 := cellS39_3 HGz54
                 have hcz54_4 := cellS39_4 HGz54
                 have hcz54_5 := cellS39_5 HGz54
                 have hcz54_6 := cellS39_6 HGz54
                 have hcz54_7 := cellS39_7 HGz54
                 have hcz54_8 := cellS39_8 HGz54
                 have hcz54_9 := cellS39_9 HGz54
                 have hcz54_10 := cellS39_10 HGz54
                 have hcz54_11 := cellS39_11 HGz54
                 have hcz54_12 := cellS39_12 HGz54
                 obtain ⟨hfz54_0, hfz54_1, hfz54_2, hfz54_3, hfz54_4, hfz54_5, hfz54_6, hfz54_7, hfz54_8⟩ := fr9 HGz54
                 have hfz54_10 := blk_frozen HGz54 10
                 have hfz54_11 := blk_frozen HGz54 11
                 have hfz54_12 := blk_frozen HGz54 12
                 clear HGz54 hgz54
                 try go_wp2
                 replace HO_5 := Aside0.mk (Kd.R_drew HO_5.out)
                 replace HI0 := Aside0.mk (IsS39.drew HI0.out)
                 replace HK := Aside0.mk (keep_drew HK.out)
                 replace HB := Aside0.mk (below_drew1 HB.out)
                 refine start_ (n := 15) (S := fun w' => w'.cell? ⟨g, 0, none⟩ = some (.int .i64 s0_0) ∧ w'.cell? ⟨g, 1, none⟩ = some (.int .i64 s0_1) ∧ w'.cell? ⟨g, 2, none⟩ = some (.int .i64 s0_2) ∧ w'.cell? ⟨g, 3, none⟩ = some (.int .i64 s0_3) ∧ w'.cell? ⟨g, 4, none⟩ = some (.string s0_4) ∧ w'.cell? ⟨g, 5, none⟩ = some (.int .i64 x1005_3) ∧ w'.cell? ⟨g, 6, none⟩ = some (.int .i64 x1006_37) ∧ w'.cell? ⟨g, 7, none⟩ = some (.bool s0_7) ∧ w'.cell? ⟨g, 8, none⟩ = some (.string s0_8) ∧ w'.cell? ⟨g, 10, none⟩ = some (.bool true) ∧ w'.cell? ⟨g, 11, none⟩ = some (.int .i64 s0_11) ∧ w'.cell? ⟨g, 12, none⟩ = some (.int .i64 s0_12)) (ds := []) #[false, false, false, false, false, false, false, false, false, false, false, false, false, false, false] B4x5_ rfl rfl ⟨(blk_cell HI0.out.1 0).trans rfl, (blk_cell HI0.out.1 1).trans rfl, (blk_cell HI0.out.1 2).trans rfl, (blk_cell HI0.out.1 3).trans rfl, (blk_cell HI0.out.1 4).trans rfl, (blk_cell HI0.out.1 5).trans rfl, (blk_cell HI0.out.1 6).trans rfl, (blk_cell HI0.out.1 7).trans rfl, (blk_cell HI0.out.1 8).trans rfl, (blk_cell HI0.out.1 10).trans rfl, (blk_cell HI0.out.1 11).trans rfl, (blk_cell HI0.out.1 12).trans rfl⟩ (fun hHeld => ?_); refine with_tabW spec_l13Open.tab20 spec_l13Open.bits20 (fun HT_ HW_ => ?_)
                 generalize wc.drew = w55 at HO_5 HI0 HK HB hHeld ⊢
                 refine pu_ 0 176 HT_ ?_
                 refine pu_ 1 177 HT_ ?_
                 refine pu_ 2 178 HT_ ?_
                 refine pu_ 3 179 HT_ ?_
                 refine pu_ 5 181 HT_ ?_
                 refine pu_ 7 183 HT_ ?_
                 refine pu_ 8 184 HT_ ?_
                 refine pu_ 9 185 HT_ ?_
                 refine ta_ 4 180 HT_ HW_ hHeld ?_
                 refine ta_ 10 186 HT_ HW_ hHeld ?_
                 refine one_ (i := 6) (N := some 182) #[true, true, true, true, true, true, true, true, true, true, true, false, false, false, false] rfl rfl (one_of HT_.out B4x5_) (by decide) (fun K hK => ?_)
                 refine goes_ Try.func132 B4x5_ rfl #[.int .i64 s0_2, .int .i64 (wrap64 (x1005_3 + 1))] (by rfl) rfl rfl B4x4_ ?_
                 with_reducible refine (spec_AddNum.calls s0_2 (wrap64 (x1005_3 + 1)) t161 _ A51.out).mono ?_
                 rintro e w' ⟨rfl, ⟨nd, rfl⟩⟩
                 refine ⟨_, rfl, ?_⟩
                 refine hK.out _ _ ⟨(blk_cell HI0.out.1 0).trans rfl, (blk_cell HI0.out.1 1).trans rfl, (blk_cell HI0.out.1 2).trans rfl, (blk_cell HI0.out.1 3).trans rfl, (blk_cell HI0.out.1 4).trans rfl, (blk_cell HI0.out.1 5).trans rfl, (blk_cell HI0.out.1 6).trans rfl, (blk_cell HI0.out.1 7).trans rfl, (blk_cell HI0.out.1 8).trans rfl, (blk_cell HI0.out.1 10).trans rfl, (blk_cell HI0.out.1 11).trans rfl, (blk_cell HI0.out.1 12).trans rfl⟩ (fun hHeld => ?_)
                 clear hK K
                 refine norm_ (a' := ?_) ?_ ?_
                 rotate_left
                 ·show Act.put _ (some 182) _ = _
                  simp only [Act.put, List.setIfInBounds_toArray, List.set_cons_zero, List.set_cons_succ, i64_w, i32_w]
                  rfl
                 refine pu_ 11 187 HT_ ?_
                 refine one_ (i := 12) (N := some 188) #[true, true, true, true, true, true, true, true, true, true, true, true, true, false, false] rfl rfl (one_of HT_.out B4x5_) (by decide) (fun K hK => ?_)
                 refine value_ (w1 := ?_) (v := ?_) (by rfl) rfl ?_ ?_
                 rotate_left 2
                 ·go_simp
                  constructor
                  ·rfl
                  ·rfl
                 refine hK.out _ _ ⟨(blk_cell (blk_alloc HI0.out.1 _) 0).trans rfl, (blk_cell (blk_alloc HI0.out.1 _) 1).trans rfl, (blk_cell (blk_alloc HI0.out.1 _) 2).trans rfl, (blk_cell (blk_alloc HI0.out.1 _) 3).trans rfl, (blk_cell (blk_alloc HI0.out.1 _) 4).trans rfl, (blk_cell (blk_alloc HI0.out.1 _) 5).trans rfl, (blk_cell (blk_alloc HI0.out.1 _) 6).trans rfl, (blk_cell (blk_alloc HI0.out.1 _) 7).trans rfl, (blk_cell (blk_alloc HI0.out.1 _) 8).trans rfl, (blk_cell (blk_alloc HI0.out.1 _) 10).trans rfl, (blk_cell (blk_alloc HI0.out.1 _) 11).trans rfl, (blk_cell (blk_alloc HI0.out.1 _) 12).trans rfl⟩ (fun hHeld => ?_)
                 clear hK K
                 refine norm_ (a' := ?_) ?_ ?_
                 rotate_left
                 ·show Act.put _ (some 188) _ = _
                  simp only [Act.put, List.setIfInBounds_toArray, List.set_cons_zero, List.set_cons_succ, i64_w, i32_w]
                  rfl
                 refine one_ (i := 13) (N := some 189) #[true, true, true, true, true, true, true, true, true, true, true, true, true, true, false] rfl rfl (one_of HT_.out B4x5_) (by decide) (fun K hK => ?_)
                 refine Kd.R_append_step k28 w.heap.size (by rfl) (.tmp 176) (.tmp 188) 40 28 (.agg #[(.int .i64 0), (.int .i64 0), (.int .i64 0), (.string ⟨#[]⟩)]) 40 rfl Try.underlying40 info28 rfl (by decide) (by omega) (.slice Ao53 x5_37.length co53) x5_37 (⟨t161, s0_3, 2, (⟨#[]⟩ : ByteArray)⟩ : S28) [.int .i64 t161, .int .i64 s0_3, .int .i64 2, .string (⟨#[]⟩ : ByteArray)] (fun _ => True) (fun _ => False) rfl rfl ?aP (fun _ hk => hk.elim) ?aF ?aO (Below.refl _ _) ?aS ?aL ?_
                 (case aP => exact k28_mkM _ _ _ (⟨t161, s0_3, 2, (⟨#[]⟩ : ByteArray)⟩ : S28))
                 (case aF => exact (fun _ _ => trivial))
                 (case aO => exact B4x3_)
                 (case aS => exact B4x7_)
                 (case aL => have := LMc52.out; omega)
                 intro v163 w56 ho hb hg hat
                 rw [← Ny162.out] at ho
                 replace HB := Aside0.mk (below_weaken B4x2_ HL.out hb)
                 replace HI0 := Aside0.mk (IsS39.grown B4x0_ hg (IsS39.own_ne HI0.out HO_5.out (by decide)))
                 replace HK := Aside0.mk (KeepBut.trans B4x1_ (KeepBut.of_grown hg g) (Kd.R_base2 HO_5.out))
                 have HO164 := Aside0.mk (ho)
                 clear HO_5
                 clear ho hb hg hat
                 refine hK.out _ _ ⟨(blk_cell HI0.out.1 0).trans rfl, (blk_cell HI0.out.1 1).trans rfl, (blk_cell HI0.out.1 2).trans rfl, (blk_cell HI0.out.1 3).trans rfl, (blk_cell HI0.out.1 4).trans rfl, (blk_cell HI0.out.1 5).trans rfl, (blk_cell HI0.out.1 6).trans rfl, (blk_cell HI0.out.1 7).trans rfl, (blk_cell HI0.out.1 8).trans rfl, (blk_cell HI0.out.1 10).trans rfl, (blk_cell HI0.out.1 11).trans rfl, (blk_cell HI0.out.1 12).trans rfl⟩ (fun hHeld => ?_)
                 clear hK K
                 refine norm_ (a' := ?_) ?_ ?_
                 rotate_left
                 ·show Act.put _ (some 189) _ = _
                  simp only [Act.put, List.setIfInBounds_toArray, List.set_cons_zero, List.set_cons_succ, i64_w, i32_w]
                  rfl
                 refine pu_ 14 5 HT_ ?_
                 refine done_ (done_of HT_.out B4x5_) ?_
                 obtain ⟨HGz57, hgz57⟩ := HI0.out
                 have hcz57_0 := cellS39_0 HGz57
                 have hcz57_1 := cellS39_1 HGz57
                 have hcz57_2 := cellS39_2 HGz57
                 have hcz57_3 := cellS39_3 HGz57
                 have hcz57_4 := cellS39_4 HGz57
                 have hcz57_5 := cellS39_5 HGz57
                 have hcz57_6 := cellS39_6 HGz57
                 have hcz57_7 := cellS39_7 HGz57
                 have hcz57_8 := cellS39_8 HGz57
                 have hcz57_9 := cellS39_9 HGz57
                 have hcz57_10 := cellS39_10 HGz57
                 have hcz57_11 := cellS39_11 HGz57
                 have hcz57_12 := cellS39_12 HGz57
                 obtain ⟨hfz57_0, hfz57_1, hfz57_2, hfz57_3, hfz57_4, hfz57_5, hfz57_6, hfz57_7, hfz57_8⟩ := fr9 HGz57
                 have hfz57_10 := blk_frozen HGz57 10
                 have hfz57_11 := blk_frozen HGz57 11
                 have hfz57_12 := blk_frozen HGz57 12
                 clear HGz57 hgz57
                 try go_wp2
                 go_ret
                 exact ⟨_, by first | rfl | (simp [errW_none, errW_some] <;> rfl) | (simp [*, errW_none, errW_some] <;> rfl), by (with_reducible repeat (first | apply Kd.R_alloc | apply Kd.R_drewN | apply Kd.R_drew)); exact Kd.R_mono (Kd.R_far (p := ⟨g, 10, none⟩) (IsS39.apart HI0.out HO164.out (by decide)) (fun _ hk => hk.2) (.bool false)) (fun _ hk => trivial), by repeat (first | (with_reducible first | exact HI0.out | apply IsS39.alloc | apply IsS39.drewN | apply IsS39.drew | apply IsS39.set_0 | apply IsS39.set_1 | apply IsS39.set_2 | apply IsS39.set_3 | apply IsS39.set_4 | apply IsS39.set_5 | apply IsS39.set_6 | apply IsS39.set_7 | apply IsS39.set_8 | apply IsS39.set_10 | apply IsS39.set_11 | apply IsS39.set_12) | exact HI0.out), by repeat (first | (with_reducible first | exact HB.out | apply below_alloc | apply pw_below_drewN | apply below_drew1 | refine below_set ?_ (IsS39.ge HI0.out)) | exact HB.out), by repeat (first | (with_reducible first | exact HK.out | apply KeepBut.set_ | apply keep_drewN | apply keep_drew | apply keep_alloc) | exact HK.out)⟩
                ·rw [if_neg c50] at H
                 have c50b0 := beq_eq_false_iff_ne.mpr c50
                 have c50b1 := bne_iff_ne.mpr c50
                 replace H := bsi H
                 obtain ⟨t165, A58, H⟩ := H
                 (try dsimp only at H)
                 by_cases c59 : x5_37.length < 3518437208883
                 rotate_left
                 ·rw [if_neg c59] at H
                  exact absurd H (by simp)
                 rw [if_pos c59] at H
                 have LMc59 := Aside0.mk c59
                 clear c59
                 obtain ⟨y166, hy166⟩ : ∃ y_ : List (S28), y_ = (x5_37 ++ [(⟨t165, s0_3, 2, (⟨#[]⟩ : ByteArray)⟩ : S28)]) := ⟨_, rfl⟩
                 replace H : (some (y166, s0_0, s0_1, s0_2, s0_3, s0_4, x1005_3, x1006_37, s0_7, s0_8, false, s0_11, s0_12)) = some (r1, r2, r3, r4, r5, r6, r7, r8, r9, r10, r11, r12, r13) := by first | (rw [hy166]; with_reducible exact H) | (have H2_ := (Option.bind_some _ _).symm.trans H; rw [hy166]; with_reducible exact H2_) | (have H2_ := (Option.bind_some _ _).symm.trans H; with_reducible exact H2_) | with_reducible exact H | (rw [hy166]; exact H) | exact H
                 have Ny166 := Aside0.mk hy166
                 clear hy166
                 simp only [Option.some.injEq, Prod.mk.injEq] at H
                 obtain ⟨rfl, rfl, rfl, rfl, rfl, rfl, rfl, rfl, rfl, rfl, rfl, rfl, rfl⟩ := H
                 obtain ⟨Ao60, co60, eo60⟩ := Kd.R_slice HO_5.out
                 subst eo60
                 obtain ⟨HGz61, hgz61⟩ := HI0.out
                 have hcz61_0 := cellS39_0 HGz61
                 have hcz61_1 := cellS39_1 HGz61
                 have hcz61_2 := cellS39_2 HGz61
                 have hcz61_3 := cellS39_3 HGz61
                 have hcz61_4 := cellS39_4 HGz61
                 have hcz61_5 := cellS39_5 HGz61
                 have hcz61_6 := cellS39_6 HGz61
                 have hcz61_7 := cellS39_7 HGz61
                 have hcz61_8 := cellS39_8 HGz61
                 have hcz61_9 := cellS39_9 HGz61
                 have hcz61_10 := cellS39_10 HGz61
                 have hcz61_11 := cellS39_11 HGz61
                 have hcz61_12 := cellS39_12 HGz61
                 obtain ⟨hfz61_0, hfz61_1, hfz61_2, hfz61_3, hfz61_4, hfz61_5, hfz61_6, hfz61_7, hfz61_8⟩ := fr9 HGz61
                 have hfz61_10 := blk_frozen HGz61 10
                 have hfz61_11 := blk_frozen HGz61 11
                 have hfz61_12 := blk_frozen HGz61 12
                 clear HGz61 hgz61
                 try go_wp2
                 replace HO_5 := Aside0.mk (Kd.R_drew HO_5.out)
                 replace HI0 := Aside0.mk (IsS39.drew HI0.out)
                 replace HK := Aside0.mk (keep_drew HK.out)
                 replace HB := Aside0.mk (below_drew1 HB.out)
                 refine start_ (n := 15) (S := fun w' => w'.cell? ⟨g, 0, none⟩ = some (.int .i64 s0_0) ∧ w'.cell? ⟨g, 1, none⟩ = some (.int .i64 s0_1) ∧ w'.cell? ⟨g, 2, none⟩ = some (.int .i64 s0_2) ∧ w'.cell? ⟨g, 3, none⟩ = some (.int .i64 s0_3) ∧ w'.cell? ⟨g, 4, none⟩ = some (.string s0_4) ∧ w'.cell? ⟨g, 5, none⟩ = some (.int .i64 x1005_3) ∧ w'.cell? ⟨g, 6, none⟩ = some (.int .i64 x1006_37) ∧ w'.cell? ⟨g, 7, none⟩ = some (.bool s0_7) ∧ w'.cell? ⟨g, 8, none⟩ = some (.string s0_8) ∧ w'.cell? ⟨g, 10, none⟩ = some (.bool true) ∧ w'.cell? ⟨g, 11, none⟩ = some (.int .i64 s0_11) ∧ w'.cell? ⟨g, 12, none⟩ = some (.int .i64 s0_12)) (ds := []) #[false, false, false, false, false, false, false, false, false, false, false, false, false, false, false] B4x5_ rfl rfl ⟨(blk_cell HI0.out.1 0).trans rfl, (blk_cell HI0.out.1 1).trans rfl, (blk_cell HI0.out.1 2).trans rfl, (blk_cell HI0.out.1 3).trans rfl, (blk_cell HI0.out.1 4).trans rfl, (blk_cell HI0.out.1 5).trans rfl, (blk_cell HI0.out.1 6).trans rfl, (blk_cell HI0.out.1 7).trans rfl, (blk_cell HI0.out.1 8).trans rfl, (blk_cell HI0.out.1 10).trans rfl, (blk_cell HI0.out.1 11).trans rfl, (blk_cell HI0.out.1 12).trans rfl⟩ (fun hHeld => ?_); refine with_tabW spec_l13Open.tab20 spec_l13Open.bits20 (fun HT_ HW_ => ?_)
                 generalize wc.drew = w62 at HO_5 HI0 HK HB hHeld ⊢
                 refine pu_ 0 176 HT_ ?_
                 refine pu_ 1 177 HT_ ?_
                 refine pu_ 2 178 HT_ ?_
                 refine pu_ 3 179 HT_ ?_
                 refine pu_ 5 181 HT_ ?_
                 refine pu_ 7 183 HT_ ?_
                 refine pu_ 8 184 HT_ ?_
                 refine pu_ 9 185 HT_ ?_
                 refine ta_ 4 180 HT_ HW_ hHeld ?_
                 refine ta_ 10 186 HT_ HW_ hHeld ?_
                 refine one_ (i := 6) (N := some 182) #[true, true, true, true, true, true, true, true, true, true, true, false, false, false, false] rfl rfl (one_of HT_.out B4x5_) (by decide) (fun K hK => ?_)
                 refine goes_ Try.func132 B4x5_ rfl #[.int .i64 s0_2, .int .i64 x1005_3] (by rfl) rfl rfl B4x4_ ?_
                 with_reducible refine (spec_AddNum.calls s0_2 x1005_3 t165 _ A58.out).mono ?_
                 rintro e w' ⟨rfl, ⟨nd, rfl⟩⟩
                 refine ⟨_, rfl, ?_⟩
                 refine hK.out _ _ ⟨(blk_cell HI0.out.1 0).trans rfl, (blk_cell HI0.out.1 1).trans rfl, (blk_cell HI0.out.1 2).trans rfl, (blk_cell HI0.out.1 3).trans rfl, (blk_cell HI0.out.1 4).trans rfl, (blk_cell HI0.out.1 5).trans rfl, (blk_cell HI0.out.1 6).trans rfl, (blk_cell HI0.out.1 7).trans rfl, (blk_cell HI0.out.1 8).trans rfl, (blk_cell HI0.out.1 10).trans rfl, (blk_cell HI0.out.1 11).trans rfl, (blk_cell HI0.out.1 12).trans rfl⟩ (fun hHeld => ?_)
                 clear hK K
                 refine norm_ (a' := ?_) ?_ ?_
                 rotate_left
                 ·show Act.put _ (some 182) _ = _
                  simp only [Act.put, List.setIfInBounds_toArray, List.set_cons_zero, List.set_cons_succ, i64_w, i32_w]
                  rfl
                 refine pu_ 11 187 HT_ ?_
                 refine one_ (i := 12) (N := some 188) #[true, true, true, true, true, true, true, true, true, true, true, true, true, false, false] rfl rfl (one_of HT_.out B4x5_) (by decide) (fun K hK => ?_)
                 refine value_ (w1 := ?_) (v := ?_) (by rfl) rfl ?_ ?_
                 rotate_left 2
                 ·go_simp
                  constructor
                  ·rfl
                  ·rfl
                 refine hK.out _ _ ⟨(blk_cell (blk_alloc HI0.out.1 _) 0).trans rfl, (blk_cell (blk_alloc HI0.out.1 _) 1).trans rfl, (blk_cell (blk_alloc HI0.out.1 _) 2).trans rfl, (blk_cell (blk_alloc HI0.out.1 _) 3).trans rfl, (blk_cell (blk_alloc HI0.out.1 _) 4).trans rfl, (blk_cell (blk_alloc HI0.out.1 _) 5).trans rfl, (blk_cell (blk_alloc HI0.out.1 _) 6).trans rfl, (blk_cell (blk_alloc HI0.out.1 _) 7).trans rfl, (blk_cell (blk_alloc HI0.out.1 _) 8).trans rfl, (blk_cell (blk_alloc HI0.out.1 _) 10).trans rfl, (blk_cell (blk_alloc HI0.out.1 _) 11).trans rfl, (blk_cell (blk_alloc HI0.out.1 _) 12).trans rfl⟩ (fun hHeld => ?_)
                 clear hK K
                 refine norm_ (a' := ?_) ?_ ?_
                 rotate_left
                 ·show Act.put _ (some 188) _ = _
                  simp only [Act.put, List.setIfInBounds_toArray, List.set_cons_zero, List.set_cons_succ, i64_w, i32_w]
                  rfl
                 refine one_ (i := 13) (N := some 189) #[true, true, true, true, true, true, true, true, true, true, true, true, true, true, false] rfl rfl (one_of HT_.out B4x5_) (by decide) (fun K hK => ?_)
                 refine Kd.R_append_step k28 w.heap.size (by rfl) (.tmp 176) (.tmp 188) 40 28 (.agg #[(.int .i64 0), (.int .i64 0), (.int .i64 0), (.string ⟨#[]⟩)]) 40 rfl Try.underlying40 info28 rfl (by decide) (by omega) (.slice Ao60 x5_37.length co60) x5_37 (⟨t165, s0_3, 2, (⟨#[]⟩ : ByteArray)⟩ : S28) [.int .i64 t165, .int .i64 s0_3, .int .i64 2, .string (⟨#[]⟩ : ByteArray)] (fun _ => True) (fun _ => False) rfl rfl ?aP (fun _ hk => hk.elim) ?aF ?aO (Below.refl _ _) ?aS ?aL ?_
                 (case aP => exact k28_mkM _ _ _ (⟨t165, s0_3, 2, (⟨#[]⟩ : ByteArray)⟩ : S28))
                 (case aF => exact (fun _ _ => trivial))
                 (case aO => exact B4x3_)
                 (case aS => exact B4x7_)
                 (case aL => have := LMc59.out; omega)
                 intro v167 w63 ho hb hg hat
                 rw [← Ny166.out] at ho
                 replace HB := Aside0.mk (below_weaken B4x2_ HL.out hb)
                 replace HI0 := Aside0.mk (IsS39.grown B4x0_ hg (IsS39.own_ne HI0.out HO_5.out (by decide)))
                 replace HK := Aside0.mk (KeepBut.trans B4x1_ (KeepBut.of_grown hg g) (Kd.R_base2 HO_5.out))
                 have HO168 := Aside0.mk (ho)
                 clear HO_5
                 clear ho hb hg hat
                 refine hK.out _ _ ⟨(blk_cell HI0.out.1 0).trans rfl, (blk_cell HI0.out.1 1).trans rfl, (blk_cell HI0.out.1 2).trans rfl, (blk_cell HI0.out.1 3).trans rfl, (blk_cell HI0.out.1 4).trans rfl, (blk_cell HI0.out.1 5).trans rfl, (blk_cell HI0.out.1 6).trans rfl, (blk_cell HI0.out.1 7).trans rfl, (blk_cell HI0.out.1 8).trans rfl, (blk_cell HI0.out.1 10).trans rfl, (blk_cell HI0.out.1 11).trans rfl, (blk_cell HI0.out.1 12).trans rfl⟩ (fun hHeld => ?_)
                 clear hK K
                 refine norm_ (a' := ?_) ?_ ?_
                 rotate_left
                 ·show Act.put _ (some 189) _ = _
                  simp only [Act.put, List.setIfInBounds_toArray, List.set_cons_zero, List.set_cons_succ, i64_w, i32_w]
                  rfl
                 refine pu_ 14 5 HT_ ?_
                 refine done_ (done_of HT_.out B4x5_) ?_
                 obtain ⟨HGz64, hgz64⟩ := HI0.out
                 have hcz64_0 := cellS39_0 HGz64
                 have hcz64_1 := cellS39_1 HGz64
                 have hcz64_2 := cellS39_2 HGz64
                 have hcz64_3 := cellS39_3 HGz64
                 have hcz64_4 := cellS39_4 HGz64
                 have hcz64_5 := cellS39_5 HGz64
                 have hcz64_6 := cellS39_6 HGz64
                 have hcz64_7 := cellS39_7 HGz64
                 have hcz64_8 := cellS39_8 HGz64
                 have hcz64_9 := cellS39_9 HGz64
                 have hcz64_10 := cellS39_10 HGz64
                 have hcz64_11 := cellS39_11 HGz64
                 have hcz64_12 := cellS39_12 HGz64
                 obtain ⟨hfz64_0, hfz64_1, hfz64_2, hfz64_3, hfz64_4, hfz64_5, hfz64_6, hfz64_7, hfz64_8⟩ := fr9 HGz64
                 have hfz64_10 := blk_frozen HGz64 10
                 have hfz64_11 := blk_frozen HGz64 11
                 have hfz64_12 := blk_frozen HGz64 12
                 clear HGz64 hgz64
                 try go_wp2
                 go_ret
                 exact ⟨_, by first | rfl | (simp [errW_none, errW_some] <;> rfl) | (simp [*, errW_none, errW_some] <;> rfl), by (with_reducible repeat (first | apply Kd.R_alloc | apply Kd.R_drewN | apply Kd.R_drew)); exact Kd.R_mono (Kd.R_far (p := ⟨g, 10, none⟩) (IsS39.apart HI0.out HO168.out (by decide)) (fun _ hk => hk.2) (.bool false)) (fun _ hk => trivial), by repeat (first | (with_reducible first | exact HI0.out | apply IsS39.alloc | apply IsS39.drewN | apply IsS39.drew | apply IsS39.set_0 | apply IsS39.set_1 | apply IsS39.set_2 | apply IsS39.set_3 | apply IsS39.set_4 | apply IsS39.set_5 | apply IsS39.set_6 | apply IsS39.set_7 | apply IsS39.set_8 | apply IsS39.set_10 | apply IsS39.set_11 | apply IsS39.set_12) | exact HI0.out), by repeat (first | (with_reducible first | exact HB.out | apply below_alloc | apply pw_below_drewN | apply below_drew1 | refine below_set ?_ (IsS39.ge HI0.out)) | exact HB.out), by repeat (first | (with_reducible first | exact HK.out | apply KeepBut.set_ | apply keep_drewN | apply keep_drew | apply keep_alloc) | exact HK.out)⟩
               ·replace c49 := Bool.eq_false_iff.mpr c49
                subst c49
                rw [if_neg (show ¬ (false = true) by decide)] at H
                simp only [Option.some.injEq, Prod.mk.injEq] at H
                obtain ⟨rfl, rfl, rfl, rfl, rfl, rfl, rfl, rfl, rfl, rfl, rfl, rfl, rfl⟩ := H
                obtain ⟨Ao65, co65, eo65⟩ := Kd.R_slice HO_5.out
                subst eo65
                obtain ⟨HGz66, hgz66⟩ := HI0.out
                have hcz66_0 := cellS39_0 HGz66
                have hcz66_1 := cellS39_1 HGz66
                have hcz66_2 := cellS39_2 HGz66
                have hcz66_3 := cellS39_3 HGz66
                have hcz66_4 := cellS39_4 HGz66
                have hcz66_5 := cellS39_5 HGz66
                have hcz66_6 := cellS39_6 HGz66
                have hcz66_7 := cellS39_7 HGz66
                have hcz66_8 := cellS39_8 HGz66
                have hcz66_9 := cellS39_9 HGz66
                have hcz66_10 := cellS39_10 HGz66
                have hcz66_11 := cellS39_11 HGz66
                have hcz66_12 := cellS39_12 HGz66
                obtain ⟨hfz66_0, hfz66_1, hfz66_2, hfz66_3, hfz66_4, hfz66_5, hfz66_6, hfz66_7, hfz66_8⟩ := fr9 HGz66
                have hfz66_10 := blk_frozen HGz66 10
                have hfz66_11 := blk_frozen HGz66 11
                have hfz66_12 := blk_frozen HGz66 12
                clear HGz66 hgz66
                go_wp2
                go_ret
                exact ⟨_, by first | rfl | (simp [errW_none, errW_some] <;> rfl) | (simp [*, errW_none, errW_some] <;> rfl), by (with_reducible repeat (first | apply Kd.R_alloc | apply Kd.R_drewN | apply Kd.R_drew)); exact HO_5.out, by repeat (first | (with_reducible first | exact HI0.out | apply IsS39.alloc | apply IsS39.drewN | apply IsS39.drew | apply IsS39.set_0 | apply IsS39.set_1 | apply IsS39.set_2 | apply IsS39.set_3 | apply IsS39.set_4 | apply IsS39.set_5 | apply IsS39.set_6 | apply IsS39.set_7 | apply IsS39.set_8 | apply IsS39.set_10 | apply IsS39.set_11 | apply IsS39.set_12) | exact HI0.out), by repeat (first | (with_reducible first | exact HB.out | apply below_alloc | apply pw_below_drewN | apply below_drew1 | refine below_set ?_ (IsS39.ge HI0.out)) | exact HB.out), by repeat (first | (with_reducible first | exact HK.out | apply KeepBut.set_ | apply keep_drewN | apply keep_drew | apply keep_alloc) | exact HK.out)⟩

end Go.Proofs.Ytmknnoeggkgkgaa.QFnExactPush
