/- Functions that a law reaches, as functions of Lean, and the walks that show that the calls come to their answers: written by a program of this project out of the translation. No condition. -/
import Derived.Test.YtjijbffecppeiaaQFnExactShutx0
import Derived.Test.YtjijbffecppeiaaQFnExactShutx2
import Derived.Test.YtjijbffecppeiaaShort2
import Derived.Test.YtjijbffecppeiaaShort
namespace Go.Proofs.Ytjijbffecppeiaa.QFnExactShut
open Go.RowKit Go.Proofs.YtjijbffecppeiaaW.PrintWords Go.Proofs.YtjijbffecppeiaaW.PrintLast Go.Proofs.YtjijbffecppeiaaW.PrintMore Go.Proofs.Ytjijbffecppeiaa.Short
attribute [local go_sem] max2_int min2_int max_two min_two max_three min_three max_four min_four   -- for this text's walks alone
set_option linter.unusedVariables false
set_option linter.unusedSimpArgs false

/-! ### spec_StreamOk: function 16 -/
mutual
def spec_StreamOk.j0 : Nat → Bool → Int → Int → Int → Int → ByteArray → Int → Int → Bool → ByteArray → List (S112) → Bool → Int → Int → Option (Bool)
 | 0, _, _, _, _, _, _, _, _, _, _, _, _, _, _ => none
 | k + 1, x47, x131000, x131001, x131002, x131003, x131004, x131005, x131006, x131007, x131008, x131009, x131010, x131011, x131012 => if x47 = true then (some false) else (if x131006 = 2 then (if x131005 = (x131004.size : Int) then (if x131006 = 3 then (if x131004.toList = ([] : List UInt8) then (if (x131008.size : Int) > 1000 then (spec_StreamOk.j1 k true x131000 x131001 x131002 x131003 x131004 x131005 x131006 x131007 x131008 x131009 x131010 x131011 x131012) else (if (x131009.length : Int) > 8 then (spec_StreamOk.j1 k true x131000 x131001 x131002 x131003 x131004 x131005 x131006 x131007 x131008 x131009 x131010 x131011 x131012) else ((spec_l01In.f x131011 0 1000000000).bind fun t138 => (if t138 = true then ((spec_l01In.f x131012 0 12).bind fun t139 => (spec_StreamOk.j1 k (!t139) x131000 x131001 x131002 x131003 x131004 x131005 x131006 x131007 x131008 x131009 x131010 x131011 x131012)) else (spec_StreamOk.j1 k true x131000 x131001 x131002 x131003 x131004 x131005 x131006 x131007 x131008 x131009 x131010 x131011 x131012))))) else (spec_StreamOk.j1 k true x131000 x131001 x131002 x131003 x131004 x131005 x131006 x131007 x131008 x131009 x131010 x131011 x131012)) else (if (x131008.size : Int) > 1000 then (spec_StreamOk.j1 k true x131000 x131001 x131002 x131003 x131004 x131005 x131006 x131007 x131008 x131009 x131010 x131011 x131012) else (if (x131009.length : Int) > 8 then (spec_StreamOk.j1 k true x131000 x131001 x131002 x131003 x131004 x131005 x131006 x131007 x131008 x131009 x131010 x131011 x131012) else ((spec_l01In.f x131011 0 1000000000).bind fun t140 => (if t140 = true then ((spec_l01In.f x131012 0 12).bind fun t141 => (spec_StreamOk.j1 k (!t141) x131000 x131001 x131002 x131003 x131004 x131005 x131006 x131007 x131008 x131009 x131010 x131011 x131012)) else (spec_StreamOk.j1 k true x131000 x131001 x131002 x131003 x131004 x131005 x131006 x131007 x131008 x131009 x131010 x131011 x131012)))))) else (spec_StreamOk.j1 k true x131000 x131001 x131002 x131003 x131004 x131005 x131006 x131007 x131008 x131009 x131010 x131011 x131012)) else (if x131006 = 3 then (if x131004.toList = ([] : List UInt8) then (if (x131008.size : Int) > 1000 then (spec_StreamOk.j1 k true x131000 x131001 x131002 x131003 x131004 x131005 x131006 x131007 x131008 x131009 x131010 x131011 x131012) else (if (x131009.length : Int) > 8 then (spec_StreamOk.j1 k true x131000 x131001 x131002 x131003 x131004 x131005 x131006 x131007 x131008 x131009 x131010 x131011 x131012) else ((spec_l01In.f x131011 0 1000000000).bind fun t142 => (if t142 = true then ((spec_l01In.f x131012 0 12).bind fun t143 => (spec_StreamOk.j1 k (!t143) x131000 x131001 x131002 x131003 x131004 x131005 x131006 x131007 x131008 x131009 x131010 x131011 x131012)) else (spec_StreamOk.j1 k true x131000 x131001 x131002 x131003 x131004 x131005 x131006 x131007 x131008 x131009 x131010 x131011 x131012))))) else (spec_StreamOk.j1 k true x131000 x131001 x131002 x131003 x131004 x131005 x131006 x131007 x131008 x131009 x131010 x131011 x131012)) else (if (x131008.size : Int) > 1000 then (spec_StreamOk.j1 k true x131000 x131001 x131002 x131003 x131004 x131005 x131006 x131007 x131008 x131009 x131010 x131011 x131012) else (if (x131009.length : Int) > 8 then (spec_StreamOk.j1 k true x131000 x131001 x131002 x131003 x131004 x131005 x131006 x131007 x131008 x131009 x131010 x131011 x131012) else ((spec_l01In.f x131011 0 1000000000).bind fun t144 => (if t144 = true then ((spec_l01In.f x131012 0 12).bind fun t145 => (spec_StreamOk.j1 k (!t145) x131000 x131001 x131002 x131003 x131004 x131005 x131006 x131007 x131008 x131009 x131010 x131011 x131012)) else (spec_StreamOk.j1 k true x131000 x131001 x131002 x131003 x131004 x131005 x131006 x131007 x131008 x131009 x131010 x131011 x131012)))))))
def spec_StreamOk.j1 : Nat → Bool → Int → Int → Int → Int → ByteArray → Int → Int → Bool → ByteArray → List (S112) → Bool → Int → Int → Option (Bool)
 | 0, _, _, _, _, _, _, _, _, _, _, _, _, _, _ => none
 | k + 1, x92, x131000, x131001, x131002, x131003, x131004, x131005, x131006, x131007, x131008, x131009, x131010, x131011, x131012 => if x92 = true then (some false) else (spec_StreamOk.l0 k 0 x131000 x131001 x131002 x131003 x131004 x131005 x131006 x131007 x131008 x131009 x131010 x131011 x131012)
def spec_StreamOk.l0 : Nat → Int → Int → Int → Int → Int → ByteArray → Int → Int → Bool → ByteArray → List (S112) → Bool → Int → Int → Option (Bool)
 | 0, _, _, _, _, _, _, _, _, _, _, _, _, _, _ => none
 | k + 1, x3, x131000, x131001, x131002, x131003, x131004, x131005, x131006, x131007, x131008, x131009, x131010, x131011, x131012 => if x3 < (x131009.length : Int) then (if 0 ≤ x3 then ((spec_l01In.f ((rd_T112 x131009 x3).f0) 0 65535).bind fun t147 => (if t147 = true then ((spec_l01In.f (((rd_T112 x131009 x3).f1).size : Int) 1 8).bind fun t149 => (if t149 = true then (spec_StreamOk.l0 k (wrap64 (x3 + 1)) x131000 x131001 x131002 x131003 x131004 x131005 x131006 x131007 x131008 x131009 x131010 x131011 x131012) else (some false))) else (some false))) else (none)) else (some true)
end
def spec_StreamOk.f (k : Nat) (a0_0 : Int) (a0_1 : Int) (a0_2 : Int) (a0_3 : Int) (a0_4 : ByteArray) (a0_5 : Int) (a0_6 : Int) (a0_7 : Bool) (a0_8 : ByteArray) (l0_9 : List (S112)) (a0_10 : Bool) (a0_11 : Int) (a0_12 : Int) : Option (Bool) := (spec_l01In.f a0_0 0 4).bind fun t131 => (if t131 = true then ((spec_l01In.f a0_1 0 65535).bind fun t132 => (if t132 = true then ((spec_l01In.f a0_2 0 65535).bind fun t133 => (if t133 = true then ((spec_l01In.f a0_3 0 65535).bind fun t134 => (if t134 = true then (if (a0_4.size : Int) > 200 then (spec_StreamOk.j0 k true a0_0 a0_1 a0_2 a0_3 a0_4 a0_5 a0_6 a0_7 a0_8 l0_9 a0_10 a0_11 a0_12) else ((spec_l13Less.f (a0_4.size : Int) 24).bind fun t135 => ((spec_l01In.f a0_5 0 t135).bind fun t136 => (if t136 = true then ((spec_l01In.f a0_6 0 3).bind fun t137 => (spec_StreamOk.j0 k (!t137) a0_0 a0_1 a0_2 a0_3 a0_4 a0_5 a0_6 a0_7 a0_8 l0_9 a0_10 a0_11 a0_12)) else (spec_StreamOk.j0 k true a0_0 a0_1 a0_2 a0_3 a0_4 a0_5 a0_6 a0_7 a0_8 l0_9 a0_10 a0_11 a0_12))))) else (spec_StreamOk.j0 k true a0_0 a0_1 a0_2 a0_3 a0_4 a0_5 a0_6 a0_7 a0_8 l0_9 a0_10 a0_11 a0_12))) else (spec_StreamOk.j0 k true a0_0 a0_1 a0_2 a0_3 a0_4 a0_5 a0_6 a0_7 a0_8 l0_9 a0_10 a0_11 a0_12))) else (spec_StreamOk.j0 k true a0_0 a0_1 a0_2 a0_3 a0_4 a0_5 a0_6 a0_7 a0_8 l0_9 a0_10 a0_11 a0_12))) else (spec_StreamOk.j0 k true a0_0 a0_1 a0_2 a0_3 a0_4 a0_5 a0_6 a0_7 a0_8 l0_9 a0_10 a0_11 a0_12))
theorem spec_StreamOk.mono_l : ∀ k, (∀ y0 y1 y2 y3 y4 y5 y6 y7 y8 y9 y10 y11 y12 y13, LeO (spec_StreamOk.j0 k y0 y1 y2 y3 y4 y5 y6 y7 y8 y9 y10 y11 y12 y13) (spec_StreamOk.j0 (k + 1) y0 y1 y2 y3 y4 y5 y6 y7 y8 y9 y10 y11 y12 y13)) ∧ (∀ y0 y1 y2 y3 y4 y5 y6 y7 y8 y9 y10 y11 y12 y13, LeO (spec_StreamOk.j1 k y0 y1 y2 y3 y4 y5 y6 y7 y8 y9 y10 y11 y12 y13) (spec_StreamOk.j1 (k + 1) y0 y1 y2 y3 y4 y5 y6 y7 y8 y9 y10 y11 y12 y13)) ∧ (∀ y0 y1 y2 y3 y4 y5 y6 y7 y8 y9 y10 y11 y12 y13, LeO (spec_StreamOk.l0 k y0 y1 y2 y3 y4 y5 y6 y7 y8 y9 y10 y11 y12 y13) (spec_StreamOk.l0 (k + 1) y0 y1 y2 y3 y4 y5 y6 y7 y8 y9 y10 y11 y12 y13))
 | 0 => ⟨fun _ _ _ _ _ _ _ _ _ _ _ _ _ _ r h => by simp [spec_StreamOk.j0] at h, fun _ _ _ _ _ _ _ _ _ _ _ _ _ _ r h => by simp [spec_StreamOk.j1] at h, fun _ _ _ _ _ _ _ _ _ _ _ _ _ _ r h => by simp [spec_StreamOk.l0] at h⟩
 | k + 1 => by
  obtain ⟨ih0, ih1, ih2⟩ := spec_StreamOk.mono_l k
  refine ⟨?_, ?_, ?_⟩
  ·intro y0 y1 y2 y3 y4 y5 y6 y7 y8 y9 y10 y11 y12 y13
   unfold spec_StreamOk.j0
   repeat' first
   | (with_reducible exact ih0 _ _ _ _ _ _ _ _ _ _ _ _ _ _)
   | (with_reducible exact ih1 _ _ _ _ _ _ _ _ _ _ _ _ _ _)
   | (with_reducible exact ih2 _ _ _ _ _ _ _ _ _ _ _ _ _ _)
   | (with_reducible exact LeO.refl _)
   | (with_reducible exact LeO.none _)
   | (with_reducible refine LeO.ite ?_ ?_)
   | (with_reducible refine LeO.bind ?_ (fun _ => ?_))
   | exact ih0 _ _ _ _ _ _ _ _ _ _ _ _ _ _
   | exact ih1 _ _ _ _ _ _ _ _ _ _ _ _ _ _
   | exact ih2 _ _ _ _ _ _ _ _ _ _ _ _ _ _
   | exact LeO.none _
   | refine LeO.ite ?_ ?_
   | refine LeO.bind ?_ (fun _ => ?_)
  ·intro y0 y1 y2 y3 y4 y5 y6 y7 y8 y9 y10 y11 y12 y13
   unfold spec_StreamOk.j1
   repeat' first
   | (with_reducible exact ih0 _ _ _ _ _ _ _ _ _ _ _ _ _ _)
   | (with_reducible exact ih1 _ _ _ _ _ _ _ _ _ _ _ _ _ _)
   | (with_reducible exact ih2 _ _ _ _ _ _ _ _ _ _ _ _ _ _)
   | (with_reducible exact LeO.refl _)
   | (with_reducible exact LeO.none _)
   | (with_reducible refine LeO.ite ?_ ?_)
   | (with_reducible refine LeO.bind ?_ (fun _ => ?_))
   | exact ih0 _ _ _ _ _ _ _ _ _ _ _ _ _ _
   | exact ih1 _ _ _ _ _ _ _ _ _ _ _ _ _ _
   | exact ih2 _ _ _ _ _ _ _ _ _ _ _ _ _ _
   | exact LeO.none _
   | refine LeO.ite ?_ ?_
   | refine LeO.bind ?_ (fun _ => ?_)
  ·intro y0 y1 y2 y3 y4 y5 y6 y7 y8 y9 y10 y11 y12 y13
   unfold spec_StreamOk.l0
   repeat' first
   | (with_reducible exact ih0 _ _ _ _ _ _ _ _ _ _ _ _ _ _)
   | (with_reducible exact ih1 _ _ _ _ _ _ _ _ _ _ _ _ _ _)
   | (with_reducible exact ih2 _ _ _ _ _ _ _ _ _ _ _ _ _ _)
   | (with_reducible exact LeO.refl _)
   | (with_reducible exact LeO.none _)
   | (with_reducible refine LeO.ite ?_ ?_)
   | (with_reducible refine LeO.bind ?_ (fun _ => ?_))
   | exact ih0 _ _ _ _ _ _ _ _ _ _ _ _ _ _
   | exact ih1 _ _ _ _ _ _ _ _ _ _ _ _ _ _
   | exact ih2 _ _ _ _ _ _ _ _ _ _ _ _ _ _
   | exact LeO.none _
   | refine LeO.ite ?_ ?_
   | refine LeO.bind ?_ (fun _ => ?_)
theorem spec_StreamOk.mono : ∀ a0 a1 a2 a3 a4 a5 a6 a7 a8 a9 a10 a11 a12 k, LeO (spec_StreamOk.f k a0 a1 a2 a3 a4 a5 a6 a7 a8 a9 a10 a11 a12) (spec_StreamOk.f (k + 1) a0 a1 a2 a3 a4 a5 a6 a7 a8 a9 a10 a11 a12) := by
 intro a0 a1 a2 a3 a4 a5 a6 a7 a8 a9 a10 a11 a12 k
 obtain ⟨ih0, ih1, ih2⟩ := spec_StreamOk.mono_l k
 unfold spec_StreamOk.f
 repeat' first
   | (with_reducible exact ih0 _ _ _ _ _ _ _ _ _ _ _ _ _ _)
   | (with_reducible exact ih1 _ _ _ _ _ _ _ _ _ _ _ _ _ _)
   | (with_reducible exact ih2 _ _ _ _ _ _ _ _ _ _ _ _ _ _)
   | (with_reducible exact LeO.refl _)
   | (with_reducible exact LeO.none _)
   | (with_reducible refine LeO.ite ?_ ?_)
   | (with_reducible refine LeO.bind ?_ (fun _ => ?_))
   | exact ih0 _ _ _ _ _ _ _ _ _ _ _ _ _ _
   | exact ih1 _ _ _ _ _ _ _ _ _ _ _ _ _ _
   | exact ih2 _ _ _ _ _ _ _ _ _ _ _ _ _ _
   | exact LeO.none _
   | refine LeO.ite ?_ ?_
   | refine LeO.bind ?_ (fun _ => ?_)
def spec_StreamOk.T1 : Bool × List (List Nat × List Nat) := (true, [([], []), ([0], [0]), ([1], [1]), ([2], [2]), ([3, 2], [3]), ([4], [4]), ([5, 4], [4, 5]), ([6, 4, 4], [4, 6]), ([7, 4], [4, 7]), ([4, 8], [4, 8]), ([9, 7], [9]), ([10], [10]), ([11, 10], [10, 11]), ([12, 10, 10], [10, 12]), ([13, 10], [10, 13]), ([10, 14], [10, 14]), ([15, 13], [15]), ([16], [16]), ([17, 16], [16, 17]), ([18, 16, 16], [16, 18]), ([19, 16], [16, 19]), ([16, 20], [16, 20]), ([21, 19], [21]), ([22], [22]), ([23, 22], [22, 23]), ([24, 22], [22, 24]), ([25, 22], [22, 25]), ([22, 26], [22, 26]), ([27, 22], [27]), ([28], [28]), ([29, 28], [28, 29]), ([28], [28]), ([31, 28], [28, 31]), ([32, 28], [28, 32]), ([33, 28, 28], [28, 33]), ([30, 34, 34, 28], [28, 30, 34]), ([35, 28], [28, 35]), ([28, 36], [28, 36]), ([37, 35], [37]), ([38], [38]), ([39, 38], [38, 39]), ([40, 38, 38], [38, 40]), ([41, 38], [38, 41]), ([38, 42], [38, 42])])
def spec_StreamOk.B1 : List Nat := [0, 1, 3, 7, 15, 31, 63, 127, 255, 511, 1023, 2047, 4095, 8191, 16383, 32767, 65535, 131071, 262143, 524287, 1048575, 2097151, 4194303, 8388607, 16777215, 33554431, 67108863, 134217727, 268435455, 536870911, 1073741823, 536870911, 2684354559, 6979321855, 15569256447, 34359738367, 68719476735, 137438953471, 274877906943, 549755813887, 1099511627775, 2199023255551, 4398046511103, 8796093022207]
theorem spec_StreamOk.tab1 : rtab .any (opsOf Try.f16 1) = spec_StreamOk.T1 := by kernel_rfl
theorem spec_StreamOk.bits1 : waitsOk spec_StreamOk.T1.2 spec_StreamOk.B1 = true := by kernel_rfl
set_option hygiene false
local macro:max "G0_" : tactic => `(tactic| (first | (with_reducible first | exact HB.out | apply below_alloc | apply pw_below_drewN | apply below_drew1 | refine below_set ?_ GE130.out) | exact HB.out))
local macro:max "G1_" : term => `((by (try simp only [List.map_toArray, List.map_cons, List.map_nil]); first | done | rfl | (simp only [List.length_drop, List.length_take]; rfl)))
local macro:max "G2_" : term => `(⟨by (with_reducible repeat (first | refine blk_drewN ?_ _ | refine blk_drew ?_ | refine blk_alloc ?_ _)); exact BK130.out⟩)
local macro:max "G3_" : term => `((.slice A0_9 l0_9.length c0_9))
local macro:max "G4_" : term => `((blk_cell BK130.out 10))
local macro:max "G5_" : term => `((blk_cell BK130.out 11))
local macro:max "G6_" : term => `((blk_cell BK130.out 12))
local macro:max "G7_" : term => `((blk_cell BK130.out 0))
local macro:max "G8_" : term => `((blk_cell BK130.out 1))
local macro:max "G9_" : term => `((blk_cell BK130.out 2))
local macro:max "G10_" : term => `((blk_cell BK130.out 3))
local macro:max "G11_" : term => `((blk_cell BK130.out 4))
local macro:max "G12_" : term => `((blk_cell BK130.out 5))
local macro:max "G13_" : term => `((blk_cell BK130.out 6))
local macro:max "G14_" : term => `((blk_cell BK130.out 7))
local macro:max "G15_" : term => `((blk_cell BK130.out 8))
local macro:max "G16_" : term => `((blk_cell BK130.out 9))
local macro:max "G17_" : term => `(#[.int .i64 a0_0, .int .i64 a0_1, .int .i64 a0_2, .int .i64 a0_3, .string a0_4, .int .i64 a0_5, .int .i64 a0_6, .bool a0_7, .string a0_8, G3_, .bool a0_10, .int .i64 a0_11, .int .i64 a0_12])
local macro:max "G18_" : term => `((by repeat (first | (with_reducible first | exact HB.out | apply below_alloc | apply pw_below_drewN | apply below_drew1) | exact HB.out)))
local macro:max "G19_" : term => `((by first | (with_reducible assumption) | assumption))
local macro:max "G20_" : term => `(⟨by have := HJ1.out; first | omega | exact Nat.le_refl _⟩)
local macro:max "G21_" : term => `(#[.int .i64 ((rd_T112 l0_9 x3_3).f0), .int .i64 0, .int .i64 65535])
local macro:max "G22_" : tactic => `(tactic| (with_reducible refine gate_callee (f := 81) rfl ?_))
local macro:max "G23_" : tactic => `(tactic| (with_reducible refine (spec_l01In.calls ((rd_T112 l0_9 x3_3).f0) 0 65535 true _ A74.out).mono ?_))
local macro:max "G24_" : term => `(⟨by first | omega | exact Nat.le_refl _⟩)
local macro "J0_" : tactic => `(tactic| ((rintro e w' ⟨rfl, ⟨nd, rfl⟩⟩); (refine ⟨_, rfl, ?_⟩); (refine hK.out _ _ ⟨(G7_).trans rfl, (G8_).trans rfl, (G9_).trans rfl, (G10_).trans rfl, (G11_).trans rfl, (G12_).trans rfl, (G13_).trans rfl, (G14_).trans rfl, (G15_).trans rfl, (G16_).trans rfl, (G4_).trans rfl, (G5_).trans rfl, (G6_).trans rfl⟩ (fun hHeld => ?_)); (clear hK K); (refine norm_ (a' := ?_) ?_ ?_); (rotate_left)))
local macro "J1_" : tactic => `(tactic| ((have H' := Aside0.mk H); (clear H); (try go_wp2); (have n0_ := Aside0.mk (blk_drew BK130.out)); (have n1_ := Aside0.mk (below_drew1 HB.out)); (clear BK130); (clear HB); (have BK130 := n0_); (have HB := n1_); (clear n0_ n1_); (refine start_ (n := 44) (S := fun w' => w'.cell? ⟨gb130, 0, none⟩ = some (.int .i64 a0_0) ∧ w'.cell? ⟨gb130, 1, none⟩ = some (.int .i64 a0_1) ∧ w'.cell? ⟨gb130, 2, none⟩ = some (.int .i64 a0_2) ∧ w'.cell? ⟨gb130, 3, none⟩ = some (.int .i64 a0_3) ∧ w'.cell? ⟨gb130, 4, none⟩ = some (.string a0_4) ∧ w'.cell? ⟨gb130, 5, none⟩ = some (.int .i64 a0_5) ∧ w'.cell? ⟨gb130, 6, none⟩ = some (.int .i64 a0_6) ∧ w'.cell? ⟨gb130, 7, none⟩ = some (.bool a0_7) ∧ w'.cell? ⟨gb130, 8, none⟩ = some (.string a0_8) ∧ w'.cell? ⟨gb130, 9, none⟩ = some G3_ ∧ w'.cell? ⟨gb130, 10, none⟩ = some (.bool a0_10) ∧ w'.cell? ⟨gb130, 11, none⟩ = some (.int .i64 a0_11) ∧ w'.cell? ⟨gb130, 12, none⟩ = some (.int .i64 a0_12)) (ds := []) #[false, false, false, false, false, false, false, false, false, false, false, false, false, false, false, false, false, false, false, false, false, false, false, false, false, false, false, false, false, false, false, false, false, false, false, false, false, false, false, false, false, false, false, false] (by kernel_rfl) rfl rfl ⟨(G7_).trans rfl, (G8_).trans rfl, (G9_).trans rfl, (G10_).trans rfl, (G11_).trans rfl, (G12_).trans rfl, (G13_).trans rfl, (G14_).trans rfl, (G15_).trans rfl, (G16_).trans rfl, (G4_).trans rfl, (G5_).trans rfl, (G6_).trans rfl⟩ (fun hHeld => ?_); refine with_tabW spec_StreamOk.tab1 spec_StreamOk.bits1 (fun HT_ HW_ => ?_))))
local macro "J2_" : tactic => `(tactic| ((go_meet); (case rel => exact ⟨_, (true), (by be_), H', G20_, G2_, ⟨by repeat G0_⟩⟩)))
local macro "J3_" : tactic => `(tactic| ((refine pu_ 0 4 HT_ ?_); (refine ta_ 1 5 HT_ HW_ hHeld ?_); (refine one_ (i := 2) (N := some 6) #[true, true, true, false, false, false, false, false, false, false, false, false, false, false, false, false, false, false, false, false, false, false, false, false, false, false, false, false, false, false, false, false, false, false, false, false, false, false, false, false, false, false, false, false] rfl rfl (one_of HT_.out (by kernel_rfl)) (by decide) (fun K hK => ?_)); (refine goes_ Try.func81 (by kernel_rfl) rfl #[.int .i64 a0_0, .int .i64 0, .int .i64 4] (by rfl) rfl rfl G1_ ?_)))
local macro "J4_" : tactic => `(tactic| ((refine pu_ 3 7 HT_ ?_); (refine pu_ 4 8 HT_ ?_); (refine pu_ 5 9 HT_ ?_); (refine ta_ 6 10 HT_ HW_ hHeld ?_); (refine one_ (i := 7) (N := some 11) #[true, true, true, true, true, true, true, true, false, false, false, false, false, false, false, false, false, false, false, false, false, false, false, false, false, false, false, false, false, false, false, false, false, false, false, false, false, false, false, false, false, false, false, false] rfl rfl (one_of HT_.out (by kernel_rfl)) (by decide) (fun K hK => ?_)); (refine goes_ Try.func81 (by kernel_rfl) rfl #[.int .i64 a0_1, .int .i64 0, .int .i64 65535] (by rfl) rfl rfl G1_ ?_)))
local macro "J5_" : tactic => `(tactic| ((refine pu_ 27 31 HT_ ?_); (refine pu_ 28 32 HT_ ?_); (refine of_ 29 33 HT_ ?_); (refine of_ 30 34 HT_ ?_); (refine of_ 31 35 HT_ ?_); (refine of_ 32 36 HT_ ?_); (refine of_ 33 37 HT_ ?_); (refine of_ 34 38 HT_ ?_); (refine of_ 35 39 HT_ ?_); (refine of_ 36 40 HT_ ?_); (refine pu_ 37 41 HT_ ?_); (refine pu_ 38 42 HT_ ?_); (refine of_ 39 43 HT_ ?_); (refine of_ 40 44 HT_ ?_); (refine of_ 41 45 HT_ ?_); (refine of_ 42 46 HT_ ?_); (refine pu_ 43 47 HT_ ?_); (refine done_ (done_of HT_.out (by kernel_rfl)) ?_); (try go_wp2); (go_meet); (case rel => exact ⟨_, (true), (by be_), H', G24_, G2_, ⟨by repeat G0_⟩⟩)))
local macro "J6_" : tactic => `(tactic| ((refine pu_ 8 12 HT_ ?_); (refine pu_ 9 13 HT_ ?_); (refine pu_ 10 14 HT_ ?_); (refine pu_ 11 15 HT_ ?_); (refine ta_ 12 16 HT_ HW_ hHeld ?_); (refine one_ (i := 13) (N := some 17) #[true, true, true, true, true, true, true, true, true, true, true, true, true, true, false, false, false, false, false, false, false, false, false, false, false, false, false, false, false, false, false, false, false, false, false, false, false, false, false, false, false, false, false, false] rfl rfl (one_of HT_.out (by kernel_rfl)) (by decide) (fun K hK => ?_)); (refine goes_ Try.func81 (by kernel_rfl) rfl #[.int .i64 a0_2, .int .i64 0, .int .i64 65535] (by rfl) rfl rfl G1_ ?_)))
local macro "J7_" : tactic => `(tactic| ((simp only [Act.put, List.setIfInBounds_toArray, List.set_cons_zero, List.set_cons_succ, i64_w, i32_w])))
local macro "J8_" : tactic => `(tactic| ((refine pu_ 14 18 HT_ ?_); (refine pu_ 15 19 HT_ ?_); (refine pu_ 16 20 HT_ ?_); (refine pu_ 17 21 HT_ ?_); (refine ta_ 18 22 HT_ HW_ hHeld ?_); (refine one_ (i := 19) (N := some 23) #[true, true, true, true, true, true, true, true, true, true, true, true, true, true, true, true, true, true, true, true, false, false, false, false, false, false, false, false, false, false, false, false, false, false, false, false, false, false, false, false, false, false, false, false] rfl rfl (one_of HT_.out (by kernel_rfl)) (by decide) (fun K hK => ?_)); (refine goes_ Try.func81 (by kernel_rfl) rfl #[.int .i64 a0_3, .int .i64 0, .int .i64 65535] (by rfl) rfl rfl G1_ ?_)))
local macro "J9_" : tactic => `(tactic| ((go_ret); (exact ⟨by first | rfl | (simp [errW_none, errW_some] <;> rfl) | (simp [*, errW_none, errW_some] <;> rfl), by repeat G0_⟩)))
local macro "J10_" : tactic => `(tactic| ((have p146 : 0 ≤ (x3_3 : Int) := of_decide_eq_true G19_); (have q146 : x3_3 < (l0_9.length : Int) := of_decide_eq_true G19_); (obtain ⟨ad146, e146, hx146_0, hx146_1⟩ := at_T112 HR0_9.out x3_3 p146 q146); (cases e146); (replace hx146_0 := (HB.out.cell (World.block_lt_of_cell? w _ hx146_0)).trans hx146_0); (replace hx146_1 := (HB.out.cell (World.block_lt_of_cell? w _ hx146_1)).trans hx146_1); (replace p146 := eq_true p146); (replace q146 := eq_true q146)))
local macro "J11_" : tactic => `(tactic| ((refine pu_ 20 24 HT_ ?_); (refine pu_ 21 25 HT_ ?_); (refine pu_ 22 26 HT_ ?_); (refine pu_ 23 27 HT_ ?_); (refine ta_ 24 28 HT_ HW_ hHeld ?_); (refine pu_ 25 29 HT_ ?_); (refine pu_ 26 30 HT_ ?_); (refine pu_ 27 31 HT_ ?_); (refine pu_ 28 32 HT_ ?_); (refine pu_ 29 33 HT_ ?_); (refine pu_ 31 35 HT_ ?_); (refine ta_ 30 34 HT_ HW_ hHeld ?_); (refine ta_ 32 36 HT_ HW_ hHeld ?_); (refine pu_ 33 37 HT_ ?_); (refine one_ (i := 34) (N := some 38) #[true, true, true, true, true, true, true, true, true, true, true, true, true, true, true, true, true, true, true, true, true, true, true, true, true, true, true, true, true, true, true, true, true, true, true, false, false, false, false, false, false, false, false, false] rfl rfl (one_of HT_.out (by kernel_rfl)) (by decide) (fun K hK => ?_)); (refine goes_ Try.func82 (by kernel_rfl) rfl #[.int .i64 (a0_4.size : Int), .int .i64 24] (by rfl) rfl rfl G1_ ?_)))
local macro "J12_" : tactic => `(tactic| ((refine one_ (i := 35) (N := some 39) #[true, true, true, true, true, true, true, true, true, true, true, true, true, true, true, true, true, true, true, true, true, true, true, true, true, true, true, true, true, true, true, true, true, true, true, true, false, false, false, false, false, false, false, false] rfl rfl (one_of HT_.out (by kernel_rfl)) (by decide) (fun K hK => ?_)); (refine goes_ Try.func81 (by kernel_rfl) rfl #[.int .i64 a0_5, .int .i64 0, .int .i64 t135] (by rfl) rfl rfl G1_ ?_)))
local macro "J13_" : tactic => `(tactic| ((refine pu_ 15 19 HT_ ?_); (refine pu_ 16 20 HT_ ?_); (refine of_ 17 21 HT_ ?_); (refine of_ 18 22 HT_ ?_); (refine of_ 19 23 HT_ ?_); (refine of_ 20 24 HT_ ?_); (refine pu_ 21 25 HT_ ?_); (refine pu_ 22 26 HT_ ?_); (refine of_ 23 27 HT_ ?_); (refine of_ 24 28 HT_ ?_); (refine of_ 25 29 HT_ ?_); (refine of_ 26 30 HT_ ?_)))
local macro "J14_" : tactic => `(tactic| ((replace H := Option.bind_eq_some_iff.mp H)))
local macro "J15_" : tactic => `(tactic| ((have H' := Aside0.mk H); (clear H)))
local macro "J16_" : tactic => `(tactic| ((rw [if_neg (show ¬ (false = true) by decide)] at H)))
local macro "J17_" : tactic => `(tactic| ((try clear hcz39_11); (try clear hcz39_12); (try clear hcz41_0); (try clear hcz41_1); (try clear hcz41_10); (try clear hcz41_11); (try clear hcz41_12); (try clear hcz41_2); (try clear hcz41_3); (try clear hcz41_4); (try clear hcz41_5); (try clear hcz41_6); (try clear hcz41_7); (try clear hcz41_8); (try clear hcz41_9); (try clear hcz43_0); (try clear hcz43_1); (try clear hcz43_10); (try clear hcz43_11); (try clear hcz43_12); (try clear hcz43_2); (try clear hcz43_3); (try clear hcz43_4); (try clear hcz43_5)))
local macro "J18_" : tactic => `(tactic| ((try clear hcz43_6); (try clear hcz43_7); (try clear hcz43_8); (try clear hcz43_9); (try clear hcz47_0); (try clear hcz47_1); (try clear hcz47_10); (try clear hcz47_11); (try clear hcz47_12); (try clear hcz47_2); (try clear hcz47_3); (try clear hcz47_4); (try clear hcz47_5); (try clear hcz47_6); (try clear hcz47_7); (try clear hcz47_8); (try clear hcz47_9); (try clear hcz48_0); (try clear hcz48_1); (try clear hcz48_10); (try clear hcz48_11); (try clear hcz48_12); (try clear hcz48_2); (try clear hcz48_3)))
local macro "J19_" : tactic => `(tactic| ((try clear hcz48_4); (try clear hcz48_5); (try clear hcz48_6); (try clear hcz48_7); (try clear hcz48_8); (try clear hcz48_9); (try clear hcz49_0); (try clear hcz49_1); (try clear hcz49_10); (try clear hcz49_11); (try clear hcz49_12); (try clear hcz49_2); (try clear hcz49_3); (try clear hcz49_4); (try clear hcz49_5); (try clear hcz49_6); (try clear hcz49_7); (try clear hcz49_8); (try clear hcz49_9); (try clear hcz53_0); (try clear hcz53_1); (try clear hcz53_10); (try clear hcz53_11); (try clear hcz53_12)))
local macro "J20_" : tactic => `(tactic| ((try clear hcz53_4); (try clear hcz53_5); (try clear hcz53_6); (try clear hcz53_7); (try clear hcz53_8); (try clear hcz53_9); (try clear hcz55_0); (try clear hcz55_1); (try clear hcz55_10); (try clear hcz55_11); (try clear hcz55_12); (try clear hcz55_2); (try clear hcz55_3); (try clear hcz55_4); (try clear hcz55_5); (try clear hcz55_6); (try clear hcz55_7); (try clear hcz55_8); (try clear hcz55_9); (try clear hcz59_0); (try clear hcz59_1); (try clear hcz59_10); (try clear hcz59_11); (try clear hcz59_12)))
local macro "J21_" : tactic => `(tactic| ((try clear hcz59_4); (try clear hcz59_5); (try clear hcz59_6); (try clear hcz59_7); (try clear hcz59_8); (try clear hcz59_9); (try clear hcz60_0); (try clear hcz60_1); (try clear hcz60_10); (try clear hcz60_11); (try clear hcz60_12); (try clear hcz60_2); (try clear hcz60_3); (try clear hcz60_4); (try clear hcz60_5); (try clear hcz60_6); (try clear hcz60_7); (try clear hcz60_8); (try clear hcz60_9); (try clear hcz61_0); (try clear hcz61_1); (try clear hcz61_10); (try clear hcz61_11); (try clear hcz61_12)))
local macro "J22_" : tactic => `(tactic| ((try clear hcz61_4); (try clear hcz61_5); (try clear hcz61_6); (try clear hcz61_7); (try clear hcz61_8); (try clear hcz61_9); (try clear hcz63_0); (try clear hcz63_1); (try clear hcz63_10); (try clear hcz63_11); (try clear hcz63_12); (try clear hcz63_2); (try clear hcz63_3); (try clear hcz63_4); (try clear hcz63_5); (try clear hcz63_6); (try clear hcz63_7); (try clear hcz63_8); (try clear hcz63_9); (try clear hcz65_0); (try clear hcz65_1); (try clear hcz65_10); (try clear hcz65_11); (try clear hcz65_12)))
local macro "J23_" : tactic => `(tactic| ((try clear hcz65_4); (try clear hcz65_5); (try clear hcz65_6); (try clear hcz65_7); (try clear hcz65_8); (try clear hcz65_9); (try clear hcz69_0); (try clear hcz69_1); (try clear hcz69_10); (try clear hcz69_11); (try clear hcz69_12); (try clear hcz69_2); (try clear hcz69_3); (try clear hcz69_4); (try clear hcz69_5); (try clear hcz69_6); (try clear hcz69_7); (try clear hcz69_8); (try clear hcz69_9); (try clear hcz70_0); (try clear hcz70_1); (try clear hcz70_10); (try clear hcz70_11); (try clear hcz70_12)))
local macro "J24_" : tactic => `(tactic| ((try clear hcz70_4); (try clear hcz70_5); (try clear hcz70_6); (try clear hcz70_7); (try clear hcz70_8); (try clear hcz70_9); (try clear hfz39_0); (try clear hfz39_1); (try clear hfz39_10); (try clear hfz39_11); (try clear hfz39_12); (try clear hfz39_2); (try clear hfz39_3); (try clear hfz39_4); (try clear hfz39_5); (try clear hfz39_6); (try clear hfz39_7); (try clear hfz39_8); (try clear hfz39_9); (try clear hfz41_0); (try clear hfz41_1); (try clear hfz41_10); (try clear hfz41_11); (try clear hfz41_12)))
local macro "J25_" : tactic => `(tactic| ((try clear hfz41_4); (try clear hfz41_5); (try clear hfz41_6); (try clear hfz41_7); (try clear hfz41_8); (try clear hfz41_9); (try clear hfz43_0); (try clear hfz43_1); (try clear hfz43_10); (try clear hfz43_11); (try clear hfz43_12); (try clear hfz43_2); (try clear hfz43_3); (try clear hfz43_4); (try clear hfz43_5); (try clear hfz43_6); (try clear hfz43_7); (try clear hfz43_8); (try clear hfz43_9); (try clear hfz47_0); (try clear hfz47_1); (try clear hfz47_10); (try clear hfz47_11); (try clear hfz47_12)))
local macro "J26_" : tactic => `(tactic| ((try clear hfz47_4); (try clear hfz47_5); (try clear hfz47_6); (try clear hfz47_7); (try clear hfz47_8); (try clear hfz47_9); (try clear hfz48_0); (try clear hfz48_1); (try clear hfz48_10); (try clear hfz48_11); (try clear hfz48_12); (try clear hfz48_2); (try clear hfz48_3); (try clear hfz48_4); (try clear hfz48_5); (try clear hfz48_6); (try clear hfz48_7); (try clear hfz48_8); (try clear hfz48_9); (try clear hfz49_0); (try clear hfz49_1); (try clear hfz49_10); (try clear hfz49_11); (try clear hfz49_12)))
local macro "J27_" : tactic => `(tactic| ((try clear hfz49_4); (try clear hfz49_5); (try clear hfz49_6); (try clear hfz49_7); (try clear hfz49_8); (try clear hfz49_9); (try clear hfz53_0); (try clear hfz53_1); (try clear hfz53_10); (try clear hfz53_11); (try clear hfz53_12); (try clear hfz53_2); (try clear hfz53_3); (try clear hfz53_4); (try clear hfz53_5); (try clear hfz53_6); (try clear hfz53_7); (try clear hfz53_8); (try clear hfz53_9); (try clear hfz55_0); (try clear hfz55_1); (try clear hfz55_10); (try clear hfz55_11); (try clear hfz55_12)))
local macro "J28_" : tactic => `(tactic| ((try clear hfz55_4); (try clear hfz55_5); (try clear hfz55_6); (try clear hfz55_7); (try clear hfz55_8); (try clear hfz55_9); (try clear hfz59_0); (try clear hfz59_1); (try clear hfz59_10); (try clear hfz59_11); (try clear hfz59_12); (try clear hfz59_2); (try clear hfz59_3); (try clear hfz59_4); (try clear hfz59_5); (try clear hfz59_6); (try clear hfz59_7); (try clear hfz59_8); (try clear hfz59_9); (try clear hfz60_0); (try clear hfz60_1); (try clear hfz60_10); (try clear hfz60_11); (try clear hfz60_12)))
local macro "J29_" : tactic => `(tactic| ((try clear hfz60_4); (try clear hfz60_5); (try clear hfz60_6); (try clear hfz60_7); (try clear hfz60_8); (try clear hfz60_9); (try clear hfz61_0); (try clear hfz61_1); (try clear hfz61_10); (try clear hfz61_11); (try clear hfz61_12); (try clear hfz61_2); (try clear hfz61_3); (try clear hfz61_4); (try clear hfz61_5); (try clear hfz61_6); (try clear hfz61_7); (try clear hfz61_8); (try clear hfz61_9); (try clear hfz63_0); (try clear hfz63_1); (try clear hfz63_10); (try clear hfz63_11); (try clear hfz63_12)))
local macro "J30_" : tactic => `(tactic| ((try clear hfz63_4); (try clear hfz63_5); (try clear hfz63_6); (try clear hfz63_7); (try clear hfz63_8); (try clear hfz63_9); (try clear hfz65_0); (try clear hfz65_1); (try clear hfz65_10); (try clear hfz65_11); (try clear hfz65_12); (try clear hfz65_2); (try clear hfz65_3); (try clear hfz65_4); (try clear hfz65_5); (try clear hfz65_6); (try clear hfz65_7); (try clear hfz65_8); (try clear hfz65_9); (try clear hfz69_0); (try clear hfz69_1); (try clear hfz69_10); (try clear hfz69_11); (try clear hfz69_12)))
local macro "J31_" : tactic => `(tactic| ((try clear hfz69_2); (try clear hfz69_3); (try clear hfz69_4); (try clear hfz69_5); (try clear hfz69_6); (try clear hfz69_7); (try clear hfz69_8); (try clear hfz69_9); (try clear hfz70_0); (try clear hfz70_1); (try clear hfz70_10); (try clear hfz70_11); (try clear hfz70_12); (try clear hfz70_2); (try clear hfz70_3); (try clear hfz70_4); (try clear hfz70_5); (try clear hfz70_6); (try clear hfz70_7); (try clear hfz70_8); (try clear hfz70_9)))
local macro "J32_" : tactic => `(tactic| ((try clear c26b0); (try clear c26b1); (try clear c27); (try clear c27b0); (try clear c27b1); (try clear c28); (try clear c28b0); (try clear c28b1); (try clear c40); (try clear c40b0); (try clear c40b1); (try clear c42); (try clear c42b0); (try clear c42b1); (try clear c45); (try clear c50); (try clear c50b0); (try clear c50b1); (try clear c51); (try clear c51b0); (try clear c51b1); (try clear c52); (try clear c52b0); (try clear c52b1)))
local macro "J33_" : tactic => `(tactic| ((try dsimp only at H)))
local macro "J34_" : tactic => `(tactic| ((rw [if_pos rfl] at H)))
local macro "J35_" : tactic => `(tactic| ((try clear c54); (try clear c54b0); (try clear c54b1); (try clear c57); (try clear c62); (try clear c62b0); (try clear c62b1); (try clear c64); (try clear c64b0); (try clear c64b1); (try clear c67)))
local macro "J36_" : tactic => `(tactic| ((refine pu_ 9 13 HT_ ?_); (refine pu_ 10 14 HT_ ?_); (refine of_ 11 15 HT_ ?_); (refine of_ 12 16 HT_ ?_); (refine of_ 13 17 HT_ ?_); (refine of_ 14 18 HT_ ?_)))
local macro "J37_" : tactic => `(tactic| ((obtain rfl := Option.some.inj H)))
local macro "J38_" : tactic => `(tactic| ((refine pu_ 43 47 HT_ ?_); (refine done_ (done_of HT_.out (by kernel_rfl)) ?_); (try go_wp2); (go_meet)))
local macro "J39_" : tactic => `(tactic| ((clear c12); (first | rw [c12b0] | (simp only [i64_w, i32_w]; rw [c12b0]) | skip)))
local macro "J40_" : tactic => `(tactic| ((refine pu_ 20 24 HT_ ?_); (refine pu_ 21 25 HT_ ?_); (refine pu_ 22 26 HT_ ?_)))
local macro "J41_" : tactic => `(tactic| ((refine pu_ 36 40 HT_ ?_); (refine pu_ 37 41 HT_ ?_); (refine pu_ 38 42 HT_ ?_)))
local macro "J42_" : tactic => `(tactic| ((try clear c2); (try clear p2); (try clear c4); (try clear c5); (try clear c6)))
local macro "J43_" : tactic => `(tactic| ((first | rw [c26b0] | (simp only [i64_w, i32_w]; rw [c26b0]) | skip)))
set_option hygiene true
set_option maxHeartbeats 8000000 in
set_option maxRecDepth 100000 in
theorem spec_StreamOk.calls (k : Nat) (a0_0 : Int) (a0_1 : Int) (a0_2 : Int) (a0_3 : Int) (a0_4 : ByteArray) (a0_5 : Int) (a0_6 : Int) (a0_7 : Bool) (a0_8 : ByteArray) (A0_9 : Option Addr) (c0_9 : Nat) (l0_9 : List (S112)) (a0_10 : Bool) (a0_11 : Int) (a0_12 : Int) (r : Bool) (w : World) (hr0_9 : Kd.C k112 w A0_9 l0_9.length l0_9) (hc0_9 : l0_9.length ≤ c0_9) (h : spec_StreamOk.f k a0_0 a0_1 a0_2 a0_3 a0_4 a0_5 a0_6 a0_7 a0_8 l0_9 a0_10 a0_11 a0_12 = some r) :
  Calls Try.prog 16 #[.agg #[.int .i64 a0_0, .int .i64 a0_1, .int .i64 a0_2, .int .i64 a0_3, .string a0_4, .int .i64 a0_5, .int .i64 a0_6, .bool a0_7, .string a0_8, .slice A0_9 l0_9.length c0_9, .bool a0_10, .int .i64 a0_11, .int .i64 a0_12]] w fun e w' => e = .returned (.bool r) ∧ Below w.heap.size w w' := by
 have hu29 := Try.underlying29
 have HR0_9 := Aside0.mk hr0_9
 have HC0_9 := Aside0.mk hc0_9
 clear hr0_9 hc0_9
 have HB := Aside0.mk (Below.refl w.heap.size w)
 have H : ((spec_l01In.f a0_0 0 4).bind fun t131 => (if t131 = true then ((spec_l01In.f a0_1 0 65535).bind fun t132 => (if t132 = true then ((spec_l01In.f a0_2 0 65535).bind fun t133 => (if t133 = true then ((spec_l01In.f a0_3 0 65535).bind fun t134 => (if t134 = true then (if (a0_4.size : Int) > 200 then (spec_StreamOk.j0 k true a0_0 a0_1 a0_2 a0_3 a0_4 a0_5 a0_6 a0_7 a0_8 l0_9 a0_10 a0_11 a0_12) else ((spec_l13Less.f (a0_4.size : Int) 24).bind fun t135 => ((spec_l01In.f a0_5 0 t135).bind fun t136 => (if t136 = true then ((spec_l01In.f a0_6 0 3).bind fun t137 => (spec_StreamOk.j0 k (!t137) a0_0 a0_1 a0_2 a0_3 a0_4 a0_5 a0_6 a0_7 a0_8 l0_9 a0_10 a0_11 a0_12)) else (spec_StreamOk.j0 k true a0_0 a0_1 a0_2 a0_3 a0_4 a0_5 a0_6 a0_7 a0_8 l0_9 a0_10 a0_11 a0_12))))) else (spec_StreamOk.j0 k true a0_0 a0_1 a0_2 a0_3 a0_4 a0_5 a0_6 a0_7 a0_8 l0_9 a0_10 a0_11 a0_12))) else (spec_StreamOk.j0 k true a0_0 a0_1 a0_2 a0_3 a0_4 a0_5 a0_6 a0_7 a0_8 l0_9 a0_10 a0_11 a0_12))) else (spec_StreamOk.j0 k true a0_0 a0_1 a0_2 a0_3 a0_4 a0_5 a0_6 a0_7 a0_8 l0_9 a0_10 a0_11 a0_12))) else (spec_StreamOk.j0 k true a0_0 a0_1 a0_2 a0_3 a0_4 a0_5 a0_6 a0_7 a0_8 l0_9 a0_10 a0_11 a0_12))) = some r := h
 clear h
 have HC2 := Aside0.mk H
 clear H
 go_enter Try.func16, Try.ntmps16
 go_upto_region 1 with (first | ((with_reducible refine gate_dst (N := 1) rfl ?_); (try (refine gate_guard (by rfl) ?_; dsimp only)); refine box_event ?hg (N := 1) ?hd (cs := #[.int .i64 a0_0, .int .i64 a0_1, .int .i64 a0_2, .int .i64 a0_3, .string a0_4, .int .i64 a0_5, .int .i64 a0_6, .bool a0_7, .string a0_8, .slice A0_9 l0_9.length c0_9, .bool a0_10, .int .i64 a0_11, .int .i64 a0_12]) (t := 29) ?hr ?_; (case hd => rfl); (case hg => rfl); (case hr => first | (go_simp; done) | (go_simp; rfl)); intro gb130 hg w3 hbox hb; have n0_ := Aside0.mk (below_step G18_ hb); have n1_ := Aside0.mk (hbox); have n2_ := Aside0.mk ((by rw [hg]; exact (below_size G18_) : w.heap.size ≤ gb130)); have n3_ := Aside0.mk ((by rw [hg]; exact (below_size G18_) : w.heap.size ≤ gb130)); clear HB; have HB := n0_; have BK130 := n1_; have GW130 := n2_; have GE130 := n3_; clear n0_ n1_ n2_ n3_; clear hb hbox hg))
 (try simp only [Act.put, List.setIfInBounds_toArray, List.set_cons_zero, List.set_cons_succ])
 go_cut [47] (fun v47 wc => ∃ (kq : Nat) (x47_1 : Bool), v47 = .bool x47_1 ∧ Aside0 (spec_StreamOk.j0 kq x47_1 a0_0 a0_1 a0_2 a0_3 a0_4 a0_5 a0_6 a0_7 a0_8 l0_9 a0_10 a0_11 a0_12 = some r) ∧ Aside0 (kq ≤ k) ∧ Aside0 (wc.heap[gb130]? = some (.cells G17_ 29 (0, 0))) ∧ Aside0 (Below w.heap.size w wc))
 case first =>
  have H := HC2.out
  clear HC2
  J14_
  obtain ⟨t131, A40, H⟩ := H
  J33_
  have A4 := Aside0.mk A40
  clear A40
  by_cases c5 : t131 = true
  ·subst c5
   J34_
   J14_
   obtain ⟨t132, A60, H⟩ := H
   J33_
   have A6 := Aside0.mk A60
   clear A60
   by_cases c7 : t132 = true
   ·subst c7
    J34_
    J14_
    obtain ⟨t133, A80, H⟩ := H
    J33_
    have A8 := Aside0.mk A80
    clear A80
    by_cases c9 : t133 = true
    ·subst c9
     J34_
     J14_
     obtain ⟨t134, A100, H⟩ := H
     J33_
     have A10 := Aside0.mk A100
     clear A100
     by_cases c11 : t134 = true
     ·subst c11
      J34_
      by_cases c12 : (a0_4.size : Int) > 200
      ·rw [if_pos c12] at H
       have c12b0 : decide (200 < (a0_4.size : Int)) = true := decide_eq_true c12
       have c12b1 : decide (200 < a0_4.size) = true := decide_eq_true (by omega)
       J39_
       J1_
       generalize w3.drew = w13 at BK130 HB hHeld ⊢
       J3_
       with_reducible refine (spec_l01In.calls a0_0 0 4 true _ A4.out).mono ?_
       J0_
       ·show Act.put _ (some 6) _ = _
        J7_
        rfl
       J4_
       with_reducible refine (spec_l01In.calls a0_1 0 65535 true _ A6.out).mono ?_
       J0_
       ·show Act.put _ (some 11) _ = _
        J7_
        rfl
       J6_
       with_reducible refine (spec_l01In.calls a0_2 0 65535 true _ A8.out).mono ?_
       J0_
       ·show Act.put _ (some 17) _ = _
        J7_
        rfl
       J8_
       with_reducible refine (spec_l01In.calls a0_3 0 65535 true _ A10.out).mono ?_
       J0_
       ·show Act.put _ (some 23) _ = _
        J7_
        rfl
       J40_
       refine pu_ 23 27 HT_ ?_
       refine ta_ 24 28 HT_ HW_ hHeld ?_
       refine pu_ 25 29 HT_ ?_
       refine pu_ 26 30 HT_ ?_
       J5_
      ·rw [if_neg c12] at H
       have c12b0 : decide (200 < (a0_4.size : Int)) = false := decide_eq_false c12
       have c12b1 : decide (200 < a0_4.size) = false := decide_eq_false (by omega)
       J39_
       J14_
       obtain ⟨t135, A140, H⟩ := H
       J33_
       have A14 := Aside0.mk A140
       clear A140
       J14_
       obtain ⟨t136, A150, H⟩ := H
       J33_
       have A15 := Aside0.mk A150
       clear A150
       by_cases c16 : t136 = true
       ·subst c16
        J34_
        J14_
        obtain ⟨t137, A170, H⟩ := H
        J33_
        have A17 := Aside0.mk A170
        clear A170
        J1_
        generalize w3.drew = w18 at BK130 HB hHeld ⊢
        J3_
        with_reducible refine (spec_l01In.calls a0_0 0 4 true _ A4.out).mono ?_
        J0_
        ·show Act.put _ (some 6) _ = _
         J7_
         rfl
        J4_
        with_reducible refine (spec_l01In.calls a0_1 0 65535 true _ A6.out).mono ?_
        J0_
        ·show Act.put _ (some 11) _ = _
         J7_
         rfl
        J6_
        with_reducible refine (spec_l01In.calls a0_2 0 65535 true _ A8.out).mono ?_
        J0_
        ·show Act.put _ (some 17) _ = _
         J7_
         rfl
        J8_
        with_reducible refine (spec_l01In.calls a0_3 0 65535 true _ A10.out).mono ?_
        J0_
        ·show Act.put _ (some 23) _ = _
         J7_
         rfl
        J11_
        with_reducible refine (spec_l13Less.calls (a0_4.size : Int) 24 t135 _ A14.out).mono ?_
        J0_
        ·show Act.put _ (some 38) _ = _
         J7_
         rfl
        J12_
        with_reducible refine (spec_l01In.calls a0_5 0 t135 true _ A15.out).mono ?_
        J0_
        ·show Act.put _ (some 39) _ = _
         J7_
         rfl
        J41_
        refine pu_ 39 43 HT_ ?_
        refine ta_ 40 44 HT_ HW_ hHeld ?_
        refine one_ (i := 41) (N := some 45) #[true, true, true, true, true, true, true, true, true, true, true, true, true, true, true, true, true, true, true, true, true, true, true, true, true, true, true, true, true, true, true, true, true, true, true, true, true, true, true, true, true, true, false, false] rfl rfl (one_of HT_.out (by kernel_rfl)) (by decide) (fun K hK => ?_)
        refine goes_ Try.func81 (by kernel_rfl) rfl #[.int .i64 a0_6, .int .i64 0, .int .i64 3] (by rfl) rfl rfl G1_ ?_
        with_reducible refine (spec_l01In.calls a0_6 0 3 t137 _ A17.out).mono ?_
        J0_
        ·show Act.put _ (some 45) _ = _
         J7_
         rfl
        refine pu_ 42 46 HT_ ?_
        J38_
        case rel => exact ⟨_, (!t137), (by be_), H', G24_, G2_, ⟨by repeat G0_⟩⟩
       ·replace c16 := Bool.eq_false_iff.mpr c16
        subst c16
        J16_
        J1_
        generalize w3.drew = w19 at BK130 HB hHeld ⊢
        J3_
        with_reducible refine (spec_l01In.calls a0_0 0 4 true _ A4.out).mono ?_
        J0_
        ·show Act.put _ (some 6) _ = _
         J7_
         rfl
        J4_
        with_reducible refine (spec_l01In.calls a0_1 0 65535 true _ A6.out).mono ?_
        J0_
        ·show Act.put _ (some 11) _ = _
         J7_
         rfl
        J6_
        with_reducible refine (spec_l01In.calls a0_2 0 65535 true _ A8.out).mono ?_
        J0_
        ·show Act.put _ (some 17) _ = _
         J7_
         rfl
        J8_
        with_reducible refine (spec_l01In.calls a0_3 0 65535 true _ A10.out).mono ?_
        J0_
        ·show Act.put _ (some 23) _ = _
         J7_
         rfl
        J11_
        with_reducible refine (spec_l13Less.calls (a0_4.size : Int) 24 t135 _ A14.out).mono ?_
        J0_
        ·show Act.put _ (some 38) _ = _
         J7_
         rfl
        J12_
        with_reducible refine (spec_l01In.calls a0_5 0 t135 false _ A15.out).mono ?_
        J0_
        ·show Act.put _ (some 39) _ = _
         J7_
         rfl
        J41_
        refine of_ 39 43 HT_ ?_
        refine of_ 40 44 HT_ ?_
        refine of_ 41 45 HT_ ?_
        refine of_ 42 46 HT_ ?_
        J38_
        case rel => exact ⟨_, (true), (by be_), H', G24_, G2_, ⟨by repeat G0_⟩⟩
     ·replace c11 := Bool.eq_false_iff.mpr c11
      subst c11
      J16_
      J1_
      generalize w3.drew = w20 at BK130 HB hHeld ⊢
      J3_
      with_reducible refine (spec_l01In.calls a0_0 0 4 true _ A4.out).mono ?_
      J0_
      ·show Act.put _ (some 6) _ = _
       J7_
       rfl
      J4_
      with_reducible refine (spec_l01In.calls a0_1 0 65535 true _ A6.out).mono ?_
      J0_
      ·show Act.put _ (some 11) _ = _
       J7_
       rfl
      J6_
      with_reducible refine (spec_l01In.calls a0_2 0 65535 true _ A8.out).mono ?_
      J0_
      ·show Act.put _ (some 17) _ = _
       J7_
       rfl
      J8_
      with_reducible refine (spec_l01In.calls a0_3 0 65535 false _ A10.out).mono ?_
      J0_
      ·show Act.put _ (some 23) _ = _
       J7_
       rfl
      J40_
      refine of_ 23 27 HT_ ?_
      refine of_ 24 28 HT_ ?_
      refine of_ 25 29 HT_ ?_
      refine of_ 26 30 HT_ ?_
      J5_
    ·replace c9 := Bool.eq_false_iff.mpr c9
     subst c9
     J16_
     J1_
     generalize w3.drew = w21 at BK130 HB hHeld ⊢
     J3_
     with_reducible refine (spec_l01In.calls a0_0 0 4 true _ A4.out).mono ?_
     J0_
     ·show Act.put _ (some 6) _ = _
      J7_
      rfl
     J4_
     with_reducible refine (spec_l01In.calls a0_1 0 65535 true _ A6.out).mono ?_
     J0_
     ·show Act.put _ (some 11) _ = _
      J7_
      rfl
     J6_
     with_reducible refine (spec_l01In.calls a0_2 0 65535 false _ A8.out).mono ?_
     J0_
     ·show Act.put _ (some 17) _ = _
      J7_
      rfl
     refine pu_ 14 18 HT_ ?_
     J13_
     J5_
   ·replace c7 := Bool.eq_false_iff.mpr c7
    subst c7
    J16_
    J1_
    generalize w3.drew = w22 at BK130 HB hHeld ⊢
    J3_
    with_reducible refine (spec_l01In.calls a0_0 0 4 true _ A4.out).mono ?_
    J0_
    ·show Act.put _ (some 6) _ = _
     J7_
     rfl
    J4_
    with_reducible refine (spec_l01In.calls a0_1 0 65535 false _ A6.out).mono ?_
    J0_
    ·show Act.put _ (some 11) _ = _
     J7_
     rfl
    refine pu_ 8 12 HT_ ?_
    J36_
    J13_
    J5_
  ·replace c5 := Bool.eq_false_iff.mpr c5
   subst c5
   J16_
   J1_
   generalize w3.drew = w23 at BK130 HB hHeld ⊢
   J3_
   with_reducible refine (spec_l01In.calls a0_0 0 4 false _ A4.out).mono ?_
   J0_
   ·show Act.put _ (some 6) _ = _
    J7_
    rfl
   refine pu_ 3 7 HT_ ?_
   refine pu_ 4 8 HT_ ?_
   refine of_ 5 9 HT_ ?_
   refine of_ 6 10 HT_ ?_
   refine of_ 7 11 HT_ ?_
   refine of_ 8 12 HT_ ?_
   J36_
   J13_
   J5_
 case rest =>
  clear HC2
  try clear p2
  try clear c5
  try clear c7
  try clear c8
  obtain ⟨kq, x47_1, rfl, HA, HJ1, BK130, HB⟩ := hcut
  cases kq with
  | zero => exact absurd HA.out (by simp [spec_StreamOk.j0])
  | succ kj1 =>
   have H := HA.out
   clear HA
   simp only [spec_StreamOk.j0] at H
   by_cases c24 : x47_1 = true
   ·subst c24
    J34_
    J37_
    go_wp2
    J9_
   ·replace c24 := Bool.eq_false_iff.mpr c24
    subst c24
    J16_
    have HC25 := Aside0.mk H
    clear H
    go_upto_region 3 with (fail)
    go_cut [92] (fun v92 wc => ∃ (kq : Nat) (x92_24 : Bool), v92 = .bool x92_24 ∧ Aside0 (spec_StreamOk.j1 kq x92_24 a0_0 a0_1 a0_2 a0_3 a0_4 a0_5 a0_6 a0_7 a0_8 l0_9 a0_10 a0_11 a0_12 = some r) ∧ Aside0 (kq ≤ kj1) ∧ Aside0 (wc.heap[gb130]? = some (.cells G17_ 29 (0, 0))) ∧ Aside0 (Below w.heap.size w wc))
    case first =>
     have H := HC25.out
     clear HC25
     by_cases c26 : a0_6 = 2
     ·rw [if_pos c26] at H
      have c26b0 : (a0_6 == 2) = true := beq_iff_eq.mpr c26
      have c26b1 : (a0_6 != 2) = false := bne_eq_false_iff_eq.mpr c26
      clear c26
      J43_
      by_cases c27 : a0_5 = (a0_4.size : Int)
      ·rw [if_pos c27] at H
       have c27b0 : (a0_5 == (a0_4.size : Int)) = true := beq_iff_eq.mpr c27
       have c27b1 : (a0_5 != (a0_4.size : Int)) = false := bne_eq_false_iff_eq.mpr c27
       clear c27
       by_cases c28 : a0_6 = 3
       ·rw [if_pos c28] at H
        have c28b0 : (a0_6 == 3) = true := beq_iff_eq.mpr c28
        have c28b1 : (a0_6 != 3) = false := bne_eq_false_iff_eq.mpr c28
        clear c28
        by_cases c29 : a0_4.toList = ([] : List UInt8)
        ·rw [if_pos c29] at H
         have c29b0 : (a0_4.toList == ([] : List UInt8)) = true := beq_iff_eq.mpr c29
         have c29b1 : (a0_4.toList != ([] : List UInt8)) = false := bne_eq_false_iff_eq.mpr c29
         clear c29
         by_cases c30 : (a0_8.size : Int) > 1000
         ·rw [if_pos c30] at H
          have c30b0 : decide (1000 < (a0_8.size : Int)) = true := decide_eq_true c30
          have c30b1 : decide (1000 < a0_8.size) = true := decide_eq_true (by omega)
          clear c30
          J15_
          have hcz31_0 : wc.cell? ⟨gb130, 0, none⟩ = some (.int .i64 a0_0) := (G7_).trans rfl
          have hcz31_1 : wc.cell? ⟨gb130, 1, none⟩ = some (.int .i64 a0_1) := (G8_).trans rfl
          have hcz31_2 : wc.cell? ⟨gb130, 2, none⟩ = some (.int .i64 a0_2) := (G9_).trans rfl
          have hcz31_3 : wc.cell? ⟨gb130, 3, none⟩ = some (.int .i64 a0_3) := (G10_).trans rfl
          have hcz31_4 : wc.cell? ⟨gb130, 4, none⟩ = some (.string a0_4) := (G11_).trans rfl
          have hcz31_5 : wc.cell? ⟨gb130, 5, none⟩ = some (.int .i64 a0_5) := (G12_).trans rfl
          have hcz31_6 : wc.cell? ⟨gb130, 6, none⟩ = some (.int .i64 a0_6) := (G13_).trans rfl
          have hcz31_7 : wc.cell? ⟨gb130, 7, none⟩ = some (.bool a0_7) := (G14_).trans rfl
          have hcz31_8 : wc.cell? ⟨gb130, 8, none⟩ = some (.string a0_8) := (G15_).trans rfl
          have hcz31_9 : wc.cell? ⟨gb130, 9, none⟩ = some G3_ := (G16_).trans rfl
          have hcz31_10 : wc.cell? ⟨gb130, 10, none⟩ = some (.bool a0_10) := (G4_).trans rfl
          have hcz31_11 : wc.cell? ⟨gb130, 11, none⟩ = some (.int .i64 a0_11) := (G5_).trans rfl
          have hcz31_12 : wc.cell? ⟨gb130, 12, none⟩ = some (.int .i64 a0_12) := (G6_).trans rfl
          have hfz31_0 := blk_frozen BK130.out 0
          have hfz31_1 := blk_frozen BK130.out 1
          have hfz31_2 := blk_frozen BK130.out 2
          have hfz31_3 := blk_frozen BK130.out 3
          have hfz31_4 := blk_frozen BK130.out 4
          have hfz31_5 := blk_frozen BK130.out 5
          have hfz31_6 := blk_frozen BK130.out 6
          have hfz31_7 := blk_frozen BK130.out 7
          have hfz31_8 := blk_frozen BK130.out 8
          have hfz31_9 := blk_frozen BK130.out 9
          have hfz31_10 := blk_frozen BK130.out 10
          have hfz31_11 := blk_frozen BK130.out 11
          have hfz31_12 := blk_frozen BK130.out 12
          go_wp2
          J2_
         ·rw [if_neg c30] at H
          have c30b0 : decide (1000 < (a0_8.size : Int)) = false := decide_eq_false c30
          have c30b1 : decide (1000 < a0_8.size) = false := decide_eq_false (by omega)
          clear c30
          by_cases c32 : (l0_9.length : Int) > 8
          ·rw [if_pos c32] at H
           have c32b0 : decide (8 < (l0_9.length : Int)) = true := decide_eq_true c32
           have c32b1 : decide (8 < l0_9.length) = true := decide_eq_true (by omega)
           clear c32
           J15_
           have hcz33_0 : wc.cell? ⟨gb130, 0, none⟩ = some (.int .i64 a0_0) := (G7_).trans rfl
           have hcz33_1 : wc.cell? ⟨gb130, 1, none⟩ = some (.int .i64 a0_1) := (G8_).trans rfl
           have hcz33_2 : wc.cell? ⟨gb130, 2, none⟩ = some (.int .i64 a0_2) := (G9_).trans rfl
           have hcz33_3 : wc.cell? ⟨gb130, 3, none⟩ = some (.int .i64 a0_3) := (G10_).trans rfl
           have hcz33_4 : wc.cell? ⟨gb130, 4, none⟩ = some (.string a0_4) := (G11_).trans rfl
           have hcz33_5 : wc.cell? ⟨gb130, 5, none⟩ = some (.int .i64 a0_5) := (G12_).trans rfl
           have hcz33_6 : wc.cell? ⟨gb130, 6, none⟩ = some (.int .i64 a0_6) := (G13_).trans rfl
           have hcz33_7 : wc.cell? ⟨gb130, 7, none⟩ = some (.bool a0_7) := (G14_).trans rfl
           have hcz33_8 : wc.cell? ⟨gb130, 8, none⟩ = some (.string a0_8) := (G15_).trans rfl
           have hcz33_9 : wc.cell? ⟨gb130, 9, none⟩ = some G3_ := (G16_).trans rfl
           have hcz33_10 : wc.cell? ⟨gb130, 10, none⟩ = some (.bool a0_10) := (G4_).trans rfl
           have hcz33_11 : wc.cell? ⟨gb130, 11, none⟩ = some (.int .i64 a0_11) := (G5_).trans rfl
           have hcz33_12 : wc.cell? ⟨gb130, 12, none⟩ = some (.int .i64 a0_12) := (G6_).trans rfl
           have hfz33_0 := blk_frozen BK130.out 0
           have hfz33_1 := blk_frozen BK130.out 1
           have hfz33_2 := blk_frozen BK130.out 2
           have hfz33_3 := blk_frozen BK130.out 3
           have hfz33_4 := blk_frozen BK130.out 4
           have hfz33_5 := blk_frozen BK130.out 5
           have hfz33_6 := blk_frozen BK130.out 6
           have hfz33_7 := blk_frozen BK130.out 7
           have hfz33_8 := blk_frozen BK130.out 8
           have hfz33_9 := blk_frozen BK130.out 9
           have hfz33_10 := blk_frozen BK130.out 10
           have hfz33_11 := blk_frozen BK130.out 11
           have hfz33_12 := blk_frozen BK130.out 12
           go_wp2
           J2_
          ·rw [if_neg c32] at H
           have c32b0 : decide (8 < (l0_9.length : Int)) = false := decide_eq_false c32
           have c32b1 : decide (8 < l0_9.length) = false := decide_eq_false (by omega)
           clear c32
           J14_
           obtain ⟨t138, A340, H⟩ := H
           J33_
           have A34 := Aside0.mk A340
           clear A340
           by_cases c35 : t138 = true
           ·subst c35
            J34_
            J14_
            obtain ⟨t139, A360, H⟩ := H
            J33_
            have A36 := Aside0.mk A360
            clear A360
            J15_
            have hcz37_0 : wc.cell? ⟨gb130, 0, none⟩ = some (.int .i64 a0_0) := (G7_).trans rfl
            have hcz37_1 : wc.cell? ⟨gb130, 1, none⟩ = some (.int .i64 a0_1) := (G8_).trans rfl
            have hcz37_2 : wc.cell? ⟨gb130, 2, none⟩ = some (.int .i64 a0_2) := (G9_).trans rfl
            have hcz37_3 : wc.cell? ⟨gb130, 3, none⟩ = some (.int .i64 a0_3) := (G10_).trans rfl
            have hcz37_4 : wc.cell? ⟨gb130, 4, none⟩ = some (.string a0_4) := (G11_).trans rfl
            have hcz37_5 : wc.cell? ⟨gb130, 5, none⟩ = some (.int .i64 a0_5) := (G12_).trans rfl
            have hcz37_6 : wc.cell? ⟨gb130, 6, none⟩ = some (.int .i64 a0_6) := (G13_).trans rfl
            have hcz37_7 : wc.cell? ⟨gb130, 7, none⟩ = some (.bool a0_7) := (G14_).trans rfl
            have hcz37_8 : wc.cell? ⟨gb130, 8, none⟩ = some (.string a0_8) := (G15_).trans rfl
            have hcz37_9 : wc.cell? ⟨gb130, 9, none⟩ = some G3_ := (G16_).trans rfl
            have hcz37_10 : wc.cell? ⟨gb130, 10, none⟩ = some (.bool a0_10) := (G4_).trans rfl
            have hcz37_11 : wc.cell? ⟨gb130, 11, none⟩ = some (.int .i64 a0_11) := (G5_).trans rfl
            have hcz37_12 : wc.cell? ⟨gb130, 12, none⟩ = some (.int .i64 a0_12) := (G6_).trans rfl
            have hfz37_0 := blk_frozen BK130.out 0
            have hfz37_1 := blk_frozen BK130.out 1
            have hfz37_2 := blk_frozen BK130.out 2
            have hfz37_3 := blk_frozen BK130.out 3
            have hfz37_4 := blk_frozen BK130.out 4
            have hfz37_5 := blk_frozen BK130.out 5
            have hfz37_6 := blk_frozen BK130.out 6
            have hfz37_7 := blk_frozen BK130.out 7
            have hfz37_8 := blk_frozen BK130.out 8
            have hfz37_9 := blk_frozen BK130.out 9
            have hfz37_10 := blk_frozen BK130.out 10
            have hfz37_11 := blk_frozen BK130.out 11
            have hfz37_12 := blk_frozen BK130.out 12
            go_wp2_with (first | (go_at_call 81; (with_reducible refine (spec_l01In.calls a0_11 0 1000000000 true _ A34.out).mono ?_); rintro e w' ⟨rfl, ⟨nd, rfl⟩⟩) | (go_at_call 81; (with_reducible refine (spec_l01In.calls a0_12 0 12 t139 _ A36.out).mono ?_); rintro e w' ⟨rfl, ⟨nd, rfl⟩⟩))
            go_meet
            case rel => exact ⟨_, (!t139), (by be_), H', G20_, G2_, ⟨by repeat G0_⟩⟩
           ·replace c35 := Bool.eq_false_iff.mpr c35
            subst c35
            J16_
            J15_
            have hcz38_0 : wc.cell? ⟨gb130, 0, none⟩ = some (.int .i64 a0_0) := (G7_).trans rfl
            have hcz38_1 : wc.cell? ⟨gb130, 1, none⟩ = some (.int .i64 a0_1) := (G8_).trans rfl
            have hcz38_2 : wc.cell? ⟨gb130, 2, none⟩ = some (.int .i64 a0_2) := (G9_).trans rfl
            have hcz38_3 : wc.cell? ⟨gb130, 3, none⟩ = some (.int .i64 a0_3) := (G10_).trans rfl
            have hcz38_4 : wc.cell? ⟨gb130, 4, none⟩ = some (.string a0_4) := (G11_).trans rfl
            have hcz38_5 : wc.cell? ⟨gb130, 5, none⟩ = some (.int .i64 a0_5) := (G12_).trans rfl
            have hcz38_6 : wc.cell? ⟨gb130, 6, none⟩ = some (.int .i64 a0_6) := (G13_).trans rfl
            have hcz38_7 : wc.cell? ⟨gb130, 7, none⟩ = some (.bool a0_7) := (G14_).trans rfl
            have hcz38_8 : wc.cell? ⟨gb130, 8, none⟩ = some (.string a0_8) := (G15_).trans rfl
            have hcz38_9 : wc.cell? ⟨gb130, 9, none⟩ = some G3_ := (G16_).trans rfl
            have hcz38_10 : wc.cell? ⟨gb130, 10, none⟩ = some (.bool a0_10) := (G4_).trans rfl
            have hcz38_11 : wc.cell? ⟨gb130, 11, none⟩ = some (.int .i64 a0_11) := (G5_).trans rfl
            have hcz38_12 : wc.cell? ⟨gb130, 12, none⟩ = some (.int .i64 a0_12) := (G6_).trans rfl
            have hfz38_0 := blk_frozen BK130.out 0
            have hfz38_1 := blk_frozen BK130.out 1
            have hfz38_2 := blk_frozen BK130.out 2
            have hfz38_3 := blk_frozen BK130.out 3
            have hfz38_4 := blk_frozen BK130.out 4
            have hfz38_5 := blk_frozen BK130.out 5
            have hfz38_6 := blk_frozen BK130.out 6
            have hfz38_7 := blk_frozen BK130.out 7
            have hfz38_8 := blk_frozen BK130.out 8
            have hfz38_9 := blk_frozen BK130.out 9
            have hfz38_10 := blk_frozen BK130.out 10
            have hfz38_11 := blk_frozen BK130.out 11
            have hfz38_12 := blk_frozen BK130.out 12
            go_wp2_with (first | (go_at_call 81; (with_reducible refine (spec_l01In.calls a0_11 0 1000000000 false _ A34.out).mono ?_); rintro e w' ⟨rfl, ⟨nd, rfl⟩⟩))
            J2_
        ·rw [if_neg c29] at H
         have c29b0 : (a0_4.toList == ([] : List UInt8)) = false := beq_eq_false_iff_ne.mpr c29
         have c29b1 : (a0_4.toList != ([] : List UInt8)) = true := bne_iff_ne.mpr c29
         J15_
         have hcz39_0 : wc.cell? ⟨gb130, 0, none⟩ = some (.int .i64 a0_0) := (G7_).trans rfl
         have hcz39_1 : wc.cell? ⟨gb130, 1, none⟩ = some (.int .i64 a0_1) := (G8_).trans rfl
         have hcz39_2 : wc.cell? ⟨gb130, 2, none⟩ = some (.int .i64 a0_2) := (G9_).trans rfl
         have hcz39_3 : wc.cell? ⟨gb130, 3, none⟩ = some (.int .i64 a0_3) := (G10_).trans rfl
         have hcz39_4 : wc.cell? ⟨gb130, 4, none⟩ = some (.string a0_4) := (G11_).trans rfl
         have hcz39_5 : wc.cell? ⟨gb130, 5, none⟩ = some (.int .i64 a0_5) := (G12_).trans rfl
         have hcz39_6 : wc.cell? ⟨gb130, 6, none⟩ = some (.int .i64 a0_6) := (G13_).trans rfl
         have hcz39_7 : wc.cell? ⟨gb130, 7, none⟩ = some (.bool a0_7) := (G14_).trans rfl
         have hcz39_8 : wc.cell? ⟨gb130, 8, none⟩ = some (.string a0_8) := (G15_).trans rfl
         have hcz39_9 : wc.cell? ⟨gb130, 9, none⟩ = some G3_ := (G16_).trans rfl
         have hcz39_10 : wc.cell? ⟨gb130, 10, none⟩ = some (.bool a0_10) := (G4_).trans rfl
         have hcz39_11 : wc.cell? ⟨gb130, 11, none⟩ = some (.int .i64 a0_11) := (G5_).trans rfl
         have hcz39_12 : wc.cell? ⟨gb130, 12, none⟩ = some (.int .i64 a0_12) := (G6_).trans rfl
         have hfz39_0 := blk_frozen BK130.out 0
         have hfz39_1 := blk_frozen BK130.out 1
         have hfz39_2 := blk_frozen BK130.out 2
         have hfz39_3 := blk_frozen BK130.out 3
         have hfz39_4 := blk_frozen BK130.out 4
         have hfz39_5 := blk_frozen BK130.out 5
         have hfz39_6 := blk_frozen BK130.out 6
         have hfz39_7 := blk_frozen BK130.out 7
         have hfz39_8 := blk_frozen BK130.out 8
         have hfz39_9 := blk_frozen BK130.out 9
         have hfz39_10 := blk_frozen BK130.out 10
         have hfz39_11 := blk_frozen BK130.out 11
         have hfz39_12 := blk_frozen BK130.out 12
         go_wp2
         J2_
       ·rw [if_neg c28] at H
        have c28b0 : (a0_6 == 3) = false := beq_eq_false_iff_ne.mpr c28
        have c28b1 : (a0_6 != 3) = true := bne_iff_ne.mpr c28
        by_cases c40 : (a0_8.size : Int) > 1000
        ·rw [if_pos c40] at H
         have c40b0 : decide (1000 < (a0_8.size : Int)) = true := decide_eq_true c40
         have c40b1 : decide (1000 < a0_8.size) = true := decide_eq_true (by omega)
         clear c40
         J15_
         have hcz41_0 : wc.cell? ⟨gb130, 0, none⟩ = some (.int .i64 a0_0) := (G7_).trans rfl
         have hcz41_1 : wc.cell? ⟨gb130, 1, none⟩ = some (.int .i64 a0_1) := (G8_).trans rfl
         have hcz41_2 : wc.cell? ⟨gb130, 2, none⟩ = some (.int .i64 a0_2) := (G9_).trans rfl
         have hcz41_3 : wc.cell? ⟨gb130, 3, none⟩ = some (.int .i64 a0_3) := (G10_).trans rfl
         have hcz41_4 : wc.cell? ⟨gb130, 4, none⟩ = some (.string a0_4) := (G11_).trans rfl
         have hcz41_5 : wc.cell? ⟨gb130, 5, none⟩ = some (.int .i64 a0_5) := (G12_).trans rfl
         have hcz41_6 : wc.cell? ⟨gb130, 6, none⟩ = some (.int .i64 a0_6) := (G13_).trans rfl
         have hcz41_7 : wc.cell? ⟨gb130, 7, none⟩ = some (.bool a0_7) := (G14_).trans rfl
         have hcz41_8 : wc.cell? ⟨gb130, 8, none⟩ = some (.string a0_8) := (G15_).trans rfl
         have hcz41_9 : wc.cell? ⟨gb130, 9, none⟩ = some G3_ := (G16_).trans rfl
         have hcz41_10 : wc.cell? ⟨gb130, 10, none⟩ = some (.bool a0_10) := (G4_).trans rfl
         have hcz41_11 : wc.cell? ⟨gb130, 11, none⟩ = some (.int .i64 a0_11) := (G5_).trans rfl
         have hcz41_12 : wc.cell? ⟨gb130, 12, none⟩ = some (.int .i64 a0_12) := (G6_).trans rfl
         have hfz41_0 := blk_frozen BK130.out 0
         have hfz41_1 := blk_frozen BK130.out 1
         have hfz41_2 := blk_frozen BK130.out 2
         have hfz41_3 := blk_frozen BK130.out 3
         have hfz41_4 := blk_frozen BK130.out 4
         have hfz41_5 := blk_frozen BK130.out 5
         have hfz41_6 := blk_frozen BK130.out 6
         have hfz41_7 := blk_frozen BK130.out 7
         have hfz41_8 := blk_frozen BK130.out 8
         have hfz41_9 := blk_frozen BK130.out 9
         have hfz41_10 := blk_frozen BK130.out 10
         have hfz41_11 := blk_frozen BK130.out 11
         have hfz41_12 := blk_frozen BK130.out 12
         go_wp2
         J2_
        ·rw [if_neg c40] at H
         have c40b0 : decide (1000 < (a0_8.size : Int)) = false := decide_eq_false c40
         have c40b1 : decide (1000 < a0_8.size) = false := decide_eq_false (by omega)
         clear c40
         by_cases c42 : (l0_9.length : Int) > 8
         ·rw [if_pos c42] at H
          have c42b0 : decide (8 < (l0_9.length : Int)) = true := decide_eq_true c42
          have c42b1 : decide (8 < l0_9.length) = true := decide_eq_true (by omega)
          clear c42
          J15_
          have hcz43_0 : wc.cell? ⟨gb130, 0, none⟩ = some (.int .i64 a0_0) := (G7_).trans rfl
          have hcz43_1 : wc.cell? ⟨gb130, 1, none⟩ = some (.int .i64 a0_1) := (G8_).trans rfl
          have hcz43_2 : wc.cell? ⟨gb130, 2, none⟩ = some (.int .i64 a0_2) := (G9_).trans rfl
          have hcz43_3 : wc.cell? ⟨gb130, 3, none⟩ = some (.int .i64 a0_3) := (G10_).trans rfl
          have hcz43_4 : wc.cell? ⟨gb130, 4, none⟩ = some (.string a0_4) := (G11_).trans rfl
          have hcz43_5 : wc.cell? ⟨gb130, 5, none⟩ = some (.int .i64 a0_5) := (G12_).trans rfl
          have hcz43_6 : wc.cell? ⟨gb130, 6, none⟩ = some (.int .i64 a0_6) := (G13_).trans rfl
          have hcz43_7 : wc.cell? ⟨gb130, 7, none⟩ = some (.bool a0_7) := (G14_).trans rfl
          have hcz43_8 : wc.cell? ⟨gb130, 8, none⟩ = some (.string a0_8) := (G15_).trans rfl
          have hcz43_9 : wc.cell? ⟨gb130, 9, none⟩ = some G3_ := (G16_).trans rfl
          have hcz43_10 : wc.cell? ⟨gb130, 10, none⟩ = some (.bool a0_10) := (G4_).trans rfl
          have hcz43_11 : wc.cell? ⟨gb130, 11, none⟩ = some (.int .i64 a0_11) := (G5_).trans rfl
          have hcz43_12 : wc.cell? ⟨gb130, 12, none⟩ = some (.int .i64 a0_12) := (G6_).trans rfl
          have hfz43_0 := blk_frozen BK130.out 0
          have hfz43_1 := blk_frozen BK130.out 1
          have hfz43_2 := blk_frozen BK130.out 2
          have hfz43_3 := blk_frozen BK130.out 3
          have hfz43_4 := blk_frozen BK130.out 4
          have hfz43_5 := blk_frozen BK130.out 5
          have hfz43_6 := blk_frozen BK130.out 6
          have hfz43_7 := blk_frozen BK130.out 7
          have hfz43_8 := blk_frozen BK130.out 8
          have hfz43_9 := blk_frozen BK130.out 9
          have hfz43_10 := blk_frozen BK130.out 10
          have hfz43_11 := blk_frozen BK130.out 11
          have hfz43_12 := blk_frozen BK130.out 12
          go_wp2
          J2_
         ·rw [if_neg c42] at H
          have c42b0 : decide (8 < (l0_9.length : Int)) = false := decide_eq_false c42
          have c42b1 : decide (8 < l0_9.length) = false := decide_eq_false (by omega)
          clear c42
          J14_
          obtain ⟨t140, A440, H⟩ := H
          J33_
          have A44 := Aside0.mk A440
          clear A440
          by_cases c45 : t140 = true
          ·subst c45
           J34_
           J14_
           obtain ⟨t141, A460, H⟩ := H
           J33_
           have A46 := Aside0.mk A460
           clear A460
           J15_
           have hcz47_0 : wc.cell? ⟨gb130, 0, none⟩ = some (.int .i64 a0_0) := (G7_).trans rfl
           have hcz47_1 : wc.cell? ⟨gb130, 1, none⟩ = some (.int .i64 a0_1) := (G8_).trans rfl
           have hcz47_2 : wc.cell? ⟨gb130, 2, none⟩ = some (.int .i64 a0_2) := (G9_).trans rfl
           have hcz47_3 : wc.cell? ⟨gb130, 3, none⟩ = some (.int .i64 a0_3) := (G10_).trans rfl
           have hcz47_4 : wc.cell? ⟨gb130, 4, none⟩ = some (.string a0_4) := (G11_).trans rfl
           have hcz47_5 : wc.cell? ⟨gb130, 5, none⟩ = some (.int .i64 a0_5) := (G12_).trans rfl
           have hcz47_6 : wc.cell? ⟨gb130, 6, none⟩ = some (.int .i64 a0_6) := (G13_).trans rfl
           have hcz47_7 : wc.cell? ⟨gb130, 7, none⟩ = some (.bool a0_7) := (G14_).trans rfl
           have hcz47_8 : wc.cell? ⟨gb130, 8, none⟩ = some (.string a0_8) := (G15_).trans rfl
           have hcz47_9 : wc.cell? ⟨gb130, 9, none⟩ = some G3_ := (G16_).trans rfl
           have hcz47_10 : wc.cell? ⟨gb130, 10, none⟩ = some (.bool a0_10) := (G4_).trans rfl
           have hcz47_11 : wc.cell? ⟨gb130, 11, none⟩ = some (.int .i64 a0_11) := (G5_).trans rfl
           have hcz47_12 : wc.cell? ⟨gb130, 12, none⟩ = some (.int .i64 a0_12) := (G6_).trans rfl
           have hfz47_0 := blk_frozen BK130.out 0
           have hfz47_1 := blk_frozen BK130.out 1
           have hfz47_2 := blk_frozen BK130.out 2
           have hfz47_3 := blk_frozen BK130.out 3
           have hfz47_4 := blk_frozen BK130.out 4
           have hfz47_5 := blk_frozen BK130.out 5
           have hfz47_6 := blk_frozen BK130.out 6
           have hfz47_7 := blk_frozen BK130.out 7
           have hfz47_8 := blk_frozen BK130.out 8
           have hfz47_9 := blk_frozen BK130.out 9
           have hfz47_10 := blk_frozen BK130.out 10
           have hfz47_11 := blk_frozen BK130.out 11
           have hfz47_12 := blk_frozen BK130.out 12
           go_wp2_with (first | (go_at_call 81; (with_reducible refine (spec_l01In.calls a0_11 0 1000000000 true _ A44.out).mono ?_); rintro e w' ⟨rfl, ⟨nd, rfl⟩⟩) | (go_at_call 81; (with_reducible refine (spec_l01In.calls a0_12 0 12 t141 _ A46.out).mono ?_); rintro e w' ⟨rfl, ⟨nd, rfl⟩⟩))
           go_meet
           case rel => exact ⟨_, (!t141), (by be_), H', G20_, G2_, ⟨by repeat G0_⟩⟩
          ·replace c45 := Bool.eq_false_iff.mpr c45
           subst c45
           J16_
           J15_
           have hcz48_0 : wc.cell? ⟨gb130, 0, none⟩ = some (.int .i64 a0_0) := (G7_).trans rfl
           have hcz48_1 : wc.cell? ⟨gb130, 1, none⟩ = some (.int .i64 a0_1) := (G8_).trans rfl
           have hcz48_2 : wc.cell? ⟨gb130, 2, none⟩ = some (.int .i64 a0_2) := (G9_).trans rfl
           have hcz48_3 : wc.cell? ⟨gb130, 3, none⟩ = some (.int .i64 a0_3) := (G10_).trans rfl
           have hcz48_4 : wc.cell? ⟨gb130, 4, none⟩ = some (.string a0_4) := (G11_).trans rfl
           have hcz48_5 : wc.cell? ⟨gb130, 5, none⟩ = some (.int .i64 a0_5) := (G12_).trans rfl
           have hcz48_6 : wc.cell? ⟨gb130, 6, none⟩ = some (.int .i64 a0_6) := (G13_).trans rfl
           have hcz48_7 : wc.cell? ⟨gb130, 7, none⟩ = some (.bool a0_7) := (G14_).trans rfl
           have hcz48_8 : wc.cell? ⟨gb130, 8, none⟩ = some (.string a0_8) := (G15_).trans rfl
           have hcz48_9 : wc.cell? ⟨gb130, 9, none⟩ = some G3_ := (G16_).trans rfl
           have hcz48_10 : wc.cell? ⟨gb130, 10, none⟩ = some (.bool a0_10) := (G4_).trans rfl
           have hcz48_11 : wc.cell? ⟨gb130, 11, none⟩ = some (.int .i64 a0_11) := (G5_).trans rfl
           have hcz48_12 : wc.cell? ⟨gb130, 12, none⟩ = some (.int .i64 a0_12) := (G6_).trans rfl
           have hfz48_0 := blk_frozen BK130.out 0
           have hfz48_1 := blk_frozen BK130.out 1
           have hfz48_2 := blk_frozen BK130.out 2
           have hfz48_3 := blk_frozen BK130.out 3
           have hfz48_4 := blk_frozen BK130.out 4
           have hfz48_5 := blk_frozen BK130.out 5
           have hfz48_6 := blk_frozen BK130.out 6
           have hfz48_7 := blk_frozen BK130.out 7
           have hfz48_8 := blk_frozen BK130.out 8
           have hfz48_9 := blk_frozen BK130.out 9
           have hfz48_10 := blk_frozen BK130.out 10
           have hfz48_11 := blk_frozen BK130.out 11
           have hfz48_12 := blk_frozen BK130.out 12
           go_wp2_with (first | (go_at_call 81; (with_reducible refine (spec_l01In.calls a0_11 0 1000000000 false _ A44.out).mono ?_); rintro e w' ⟨rfl, ⟨nd, rfl⟩⟩))
           J2_
      ·rw [if_neg c27] at H
       have c27b0 : (a0_5 == (a0_4.size : Int)) = false := beq_eq_false_iff_ne.mpr c27
       have c27b1 : (a0_5 != (a0_4.size : Int)) = true := bne_iff_ne.mpr c27
       J15_
       have hcz49_0 : wc.cell? ⟨gb130, 0, none⟩ = some (.int .i64 a0_0) := (G7_).trans rfl
       have hcz49_1 : wc.cell? ⟨gb130, 1, none⟩ = some (.int .i64 a0_1) := (G8_).trans rfl
       have hcz49_2 : wc.cell? ⟨gb130, 2, none⟩ = some (.int .i64 a0_2) := (G9_).trans rfl
       have hcz49_3 : wc.cell? ⟨gb130, 3, none⟩ = some (.int .i64 a0_3) := (G10_).trans rfl
       have hcz49_4 : wc.cell? ⟨gb130, 4, none⟩ = some (.string a0_4) := (G11_).trans rfl
       have hcz49_5 : wc.cell? ⟨gb130, 5, none⟩ = some (.int .i64 a0_5) := (G12_).trans rfl
       have hcz49_6 : wc.cell? ⟨gb130, 6, none⟩ = some (.int .i64 a0_6) := (G13_).trans rfl
       have hcz49_7 : wc.cell? ⟨gb130, 7, none⟩ = some (.bool a0_7) := (G14_).trans rfl
       have hcz49_8 : wc.cell? ⟨gb130, 8, none⟩ = some (.string a0_8) := (G15_).trans rfl
       have hcz49_9 : wc.cell? ⟨gb130, 9, none⟩ = some G3_ := (G16_).trans rfl
       have hcz49_10 : wc.cell? ⟨gb130, 10, none⟩ = some (.bool a0_10) := (G4_).trans rfl
       have hcz49_11 : wc.cell? ⟨gb130, 11, none⟩ = some (.int .i64 a0_11) := (G5_).trans rfl
       have hcz49_12 : wc.cell? ⟨gb130, 12, none⟩ = some (.int .i64 a0_12) := (G6_).trans rfl
       have hfz49_0 := blk_frozen BK130.out 0
       have hfz49_1 := blk_frozen BK130.out 1
       have hfz49_2 := blk_frozen BK130.out 2
       have hfz49_3 := blk_frozen BK130.out 3
       have hfz49_4 := blk_frozen BK130.out 4
       have hfz49_5 := blk_frozen BK130.out 5
       have hfz49_6 := blk_frozen BK130.out 6
       have hfz49_7 := blk_frozen BK130.out 7
       have hfz49_8 := blk_frozen BK130.out 8
       have hfz49_9 := blk_frozen BK130.out 9
       have hfz49_10 := blk_frozen BK130.out 10
       have hfz49_11 := blk_frozen BK130.out 11
       have hfz49_12 := blk_frozen BK130.out 12
       go_wp2
       J2_
     ·rw [if_neg c26] at H
      have c26b0 : (a0_6 == 2) = false := beq_eq_false_iff_ne.mpr c26
      have c26b1 : (a0_6 != 2) = true := bne_iff_ne.mpr c26
      J43_
      by_cases c50 : a0_6 = 3
      ·rw [if_pos c50] at H
       have c50b0 : (a0_6 == 3) = true := beq_iff_eq.mpr c50
       have c50b1 : (a0_6 != 3) = false := bne_eq_false_iff_eq.mpr c50
       clear c50
       by_cases c51 : a0_4.toList = ([] : List UInt8)
       ·rw [if_pos c51] at H
        have c51b0 : (a0_4.toList == ([] : List UInt8)) = true := beq_iff_eq.mpr c51
        have c51b1 : (a0_4.toList != ([] : List UInt8)) = false := bne_eq_false_iff_eq.mpr c51
        clear c51
        by_cases c52 : (a0_8.size : Int) > 1000
        ·rw [if_pos c52] at H
         have c52b0 : decide (1000 < (a0_8.size : Int)) = true := decide_eq_true c52
         have c52b1 : decide (1000 < a0_8.size) = true := decide_eq_true (by omega)
         clear c52
         J15_
         have hcz53_0 : wc.cell? ⟨gb130, 0, none⟩ = some (.int .i64 a0_0) := (G7_).trans rfl
         have hcz53_1 : wc.cell? ⟨gb130, 1, none⟩ = some (.int .i64 a0_1) := (G8_).trans rfl
         have hcz53_2 : wc.cell? ⟨gb130, 2, none⟩ = some (.int .i64 a0_2) := (G9_).trans rfl
         have hcz53_3 : wc.cell? ⟨gb130, 3, none⟩ = some (.int .i64 a0_3) := (G10_).trans rfl
         have hcz53_4 : wc.cell? ⟨gb130, 4, none⟩ = some (.string a0_4) := (G11_).trans rfl
         have hcz53_5 : wc.cell? ⟨gb130, 5, none⟩ = some (.int .i64 a0_5) := (G12_).trans rfl
         have hcz53_6 : wc.cell? ⟨gb130, 6, none⟩ = some (.int .i64 a0_6) := (G13_).trans rfl
         have hcz53_7 : wc.cell? ⟨gb130, 7, none⟩ = some (.bool a0_7) := (G14_).trans rfl
         have hcz53_8 : wc.cell? ⟨gb130, 8, none⟩ = some (.string a0_8) := (G15_).trans rfl
         have hcz53_9 : wc.cell? ⟨gb130, 9, none⟩ = some G3_ := (G16_).trans rfl
         have hcz53_10 : wc.cell? ⟨gb130, 10, none⟩ = some (.bool a0_10) := (G4_).trans rfl
         have hcz53_11 : wc.cell? ⟨gb130, 11, none⟩ = some (.int .i64 a0_11) := (G5_).trans rfl
         have hcz53_12 : wc.cell? ⟨gb130, 12, none⟩ = some (.int .i64 a0_12) := (G6_).trans rfl
         have hfz53_0 := blk_frozen BK130.out 0
         have hfz53_1 := blk_frozen BK130.out 1
         have hfz53_2 := blk_frozen BK130.out 2
         have hfz53_3 := blk_frozen BK130.out 3
         have hfz53_4 := blk_frozen BK130.out 4
         have hfz53_5 := blk_frozen BK130.out 5
         have hfz53_6 := blk_frozen BK130.out 6
         have hfz53_7 := blk_frozen BK130.out 7
         have hfz53_8 := blk_frozen BK130.out 8
         have hfz53_9 := blk_frozen BK130.out 9
         have hfz53_10 := blk_frozen BK130.out 10
         have hfz53_11 := blk_frozen BK130.out 11
         have hfz53_12 := blk_frozen BK130.out 12
         go_wp2
         J2_
        ·rw [if_neg c52] at H
         have c52b0 : decide (1000 < (a0_8.size : Int)) = false := decide_eq_false c52
         have c52b1 : decide (1000 < a0_8.size) = false := decide_eq_false (by omega)
         clear c52
         by_cases c54 : (l0_9.length : Int) > 8
         ·rw [if_pos c54] at H
          have c54b0 : decide (8 < (l0_9.length : Int)) = true := decide_eq_true c54
          have c54b1 : decide (8 < l0_9.length) = true := decide_eq_true (by omega)
          clear c54
          J15_
          have hcz55_0 : wc.cell? ⟨gb130, 0, none⟩ = some (.int .i64 a0_0) := (G7_).trans rfl
          have hcz55_1 : wc.cell? ⟨gb130, 1, none⟩ = some (.int .i64 a0_1) := (G8_).trans rfl
          have hcz55_2 : wc.cell? ⟨gb130, 2, none⟩ = some (.int .i64 a0_2) := (G9_).trans rfl
          have hcz55_3 : wc.cell? ⟨gb130, 3, none⟩ = some (.int .i64 a0_3) := (G10_).trans rfl
          have hcz55_4 : wc.cell? ⟨gb130, 4, none⟩ = some (.string a0_4) := (G11_).trans rfl
          have hcz55_5 : wc.cell? ⟨gb130, 5, none⟩ = some (.int .i64 a0_5) := (G12_).trans rfl
          have hcz55_6 : wc.cell? ⟨gb130, 6, none⟩ = some (.int .i64 a0_6) := (G13_).trans rfl
          have hcz55_7 : wc.cell? ⟨gb130, 7, none⟩ = some (.bool a0_7) := (G14_).trans rfl
          have hcz55_8 : wc.cell? ⟨gb130, 8, none⟩ = some (.string a0_8) := (G15_).trans rfl
          have hcz55_9 : wc.cell? ⟨gb130, 9, none⟩ = some G3_ := (G16_).trans rfl
          have hcz55_10 : wc.cell? ⟨gb130, 10, none⟩ = some (.bool a0_10) := (G4_).trans rfl
          have hcz55_11 : wc.cell? ⟨gb130, 11, none⟩ = some (.int .i64 a0_11) := (G5_).trans rfl
          have hcz55_12 : wc.cell? ⟨gb130, 12, none⟩ = some (.int .i64 a0_12) := (G6_).trans rfl
          have hfz55_0 := blk_frozen BK130.out 0
          have hfz55_1 := blk_frozen BK130.out 1
          have hfz55_2 := blk_frozen BK130.out 2
          have hfz55_3 := blk_frozen BK130.out 3
          have hfz55_4 := blk_frozen BK130.out 4
          have hfz55_5 := blk_frozen BK130.out 5
          have hfz55_6 := blk_frozen BK130.out 6
          have hfz55_7 := blk_frozen BK130.out 7
          have hfz55_8 := blk_frozen BK130.out 8
          have hfz55_9 := blk_frozen BK130.out 9
          have hfz55_10 := blk_frozen BK130.out 10
          have hfz55_11 := blk_frozen BK130.out 11
          have hfz55_12 := blk_frozen BK130.out 12
          go_wp2
          J2_
         ·rw [if_neg c54] at H
          have c54b0 : decide (8 < (l0_9.length : Int)) = false := decide_eq_false c54
          have c54b1 : decide (8 < l0_9.length) = false := decide_eq_false (by omega)
          clear c54
          J14_
          obtain ⟨t142, A560, H⟩ := H
          J33_
          have A56 := Aside0.mk A560
          clear A560
          by_cases c57 : t142 = true
          ·subst c57
           J34_
           J14_
           obtain ⟨t143, A580, H⟩ := H
           J33_
           have A58 := Aside0.mk A580
           clear A580
           J15_
           have hcz59_0 : wc.cell? ⟨gb130, 0, none⟩ = some (.int .i64 a0_0) := (G7_).trans rfl
           have hcz59_1 : wc.cell? ⟨gb130, 1, none⟩ = some (.int .i64 a0_1) := (G8_).trans rfl
           have hcz59_2 : wc.cell? ⟨gb130, 2, none⟩ = some (.int .i64 a0_2) := (G9_).trans rfl
           have hcz59_3 : wc.cell? ⟨gb130, 3, none⟩ = some (.int .i64 a0_3) := (G10_).trans rfl
           have hcz59_4 : wc.cell? ⟨gb130, 4, none⟩ = some (.string a0_4) := (G11_).trans rfl
           have hcz59_5 : wc.cell? ⟨gb130, 5, none⟩ = some (.int .i64 a0_5) := (G12_).trans rfl
           have hcz59_6 : wc.cell? ⟨gb130, 6, none⟩ = some (.int .i64 a0_6) := (G13_).trans rfl
           have hcz59_7 : wc.cell? ⟨gb130, 7, none⟩ = some (.bool a0_7) := (G14_).trans rfl
           have hcz59_8 : wc.cell? ⟨gb130, 8, none⟩ = some (.string a0_8) := (G15_).trans rfl
           have hcz59_9 : wc.cell? ⟨gb130, 9, none⟩ = some G3_ := (G16_).trans rfl
           have hcz59_10 : wc.cell? ⟨gb130, 10, none⟩ = some (.bool a0_10) := (G4_).trans rfl
           have hcz59_11 : wc.cell? ⟨gb130, 11, none⟩ = some (.int .i64 a0_11) := (G5_).trans rfl
           have hcz59_12 : wc.cell? ⟨gb130, 12, none⟩ = some (.int .i64 a0_12) := (G6_).trans rfl
           have hfz59_0 := blk_frozen BK130.out 0
           have hfz59_1 := blk_frozen BK130.out 1
           have hfz59_2 := blk_frozen BK130.out 2
           have hfz59_3 := blk_frozen BK130.out 3
           have hfz59_4 := blk_frozen BK130.out 4
           have hfz59_5 := blk_frozen BK130.out 5
           have hfz59_6 := blk_frozen BK130.out 6
           have hfz59_7 := blk_frozen BK130.out 7
           have hfz59_8 := blk_frozen BK130.out 8
           have hfz59_9 := blk_frozen BK130.out 9
           have hfz59_10 := blk_frozen BK130.out 10
           have hfz59_11 := blk_frozen BK130.out 11
           have hfz59_12 := blk_frozen BK130.out 12
           go_wp2_with (first | (go_at_call 81; (with_reducible refine (spec_l01In.calls a0_11 0 1000000000 true _ A56.out).mono ?_); rintro e w' ⟨rfl, ⟨nd, rfl⟩⟩) | (go_at_call 81; (with_reducible refine (spec_l01In.calls a0_12 0 12 t143 _ A58.out).mono ?_); rintro e w' ⟨rfl, ⟨nd, rfl⟩⟩))
           go_meet
           case rel => exact ⟨_, (!t143), (by be_), H', G20_, G2_, ⟨by repeat G0_⟩⟩
          ·replace c57 := Bool.eq_false_iff.mpr c57
           subst c57
           J16_
           J15_
           have hcz60_0 : wc.cell? ⟨gb130, 0, none⟩ = some (.int .i64 a0_0) := (G7_).trans rfl
           have hcz60_1 : wc.cell? ⟨gb130, 1, none⟩ = some (.int .i64 a0_1) := (G8_).trans rfl
           have hcz60_2 : wc.cell? ⟨gb130, 2, none⟩ = some (.int .i64 a0_2) := (G9_).trans rfl
           have hcz60_3 : wc.cell? ⟨gb130, 3, none⟩ = some (.int .i64 a0_3) := (G10_).trans rfl
           have hcz60_4 : wc.cell? ⟨gb130, 4, none⟩ = some (.string a0_4) := (G11_).trans rfl
           have hcz60_5 : wc.cell? ⟨gb130, 5, none⟩ = some (.int .i64 a0_5) := (G12_).trans rfl
           have hcz60_6 : wc.cell? ⟨gb130, 6, none⟩ = some (.int .i64 a0_6) := (G13_).trans rfl
           have hcz60_7 : wc.cell? ⟨gb130, 7, none⟩ = some (.bool a0_7) := (G14_).trans rfl
           have hcz60_8 : wc.cell? ⟨gb130, 8, none⟩ = some (.string a0_8) := (G15_).trans rfl
           have hcz60_9 : wc.cell? ⟨gb130, 9, none⟩ = some G3_ := (G16_).trans rfl
           have hcz60_10 : wc.cell? ⟨gb130, 10, none⟩ = some (.bool a0_10) := (G4_).trans rfl
           have hcz60_11 : wc.cell? ⟨gb130, 11, none⟩ = some (.int .i64 a0_11) := (G5_).trans rfl
           have hcz60_12 : wc.cell? ⟨gb130, 12, none⟩ = some (.int .i64 a0_12) := (G6_).trans rfl
           have hfz60_0 := blk_frozen BK130.out 0
           have hfz60_1 := blk_frozen BK130.out 1
           have hfz60_2 := blk_frozen BK130.out 2
           have hfz60_3 := blk_frozen BK130.out 3
           have hfz60_4 := blk_frozen BK130.out 4
           have hfz60_5 := blk_frozen BK130.out 5
           have hfz60_6 := blk_frozen BK130.out 6
           have hfz60_7 := blk_frozen BK130.out 7
           have hfz60_8 := blk_frozen BK130.out 8
           have hfz60_9 := blk_frozen BK130.out 9
           have hfz60_10 := blk_frozen BK130.out 10
           have hfz60_11 := blk_frozen BK130.out 11
           have hfz60_12 := blk_frozen BK130.out 12
           go_wp2_with (first | (go_at_call 81; (with_reducible refine (spec_l01In.calls a0_11 0 1000000000 false _ A56.out).mono ?_); rintro e w' ⟨rfl, ⟨nd, rfl⟩⟩))
           J2_
       ·rw [if_neg c51] at H
        have c51b0 : (a0_4.toList == ([] : List UInt8)) = false := beq_eq_false_iff_ne.mpr c51
        have c51b1 : (a0_4.toList != ([] : List UInt8)) = true := bne_iff_ne.mpr c51
        J15_
        have hcz61_0 : wc.cell? ⟨gb130, 0, none⟩ = some (.int .i64 a0_0) := (G7_).trans rfl
        have hcz61_1 : wc.cell? ⟨gb130, 1, none⟩ = some (.int .i64 a0_1) := (G8_).trans rfl
        have hcz61_2 : wc.cell? ⟨gb130, 2, none⟩ = some (.int .i64 a0_2) := (G9_).trans rfl
        have hcz61_3 : wc.cell? ⟨gb130, 3, none⟩ = some (.int .i64 a0_3) := (G10_).trans rfl
        have hcz61_4 : wc.cell? ⟨gb130, 4, none⟩ = some (.string a0_4) := (G11_).trans rfl
        have hcz61_5 : wc.cell? ⟨gb130, 5, none⟩ = some (.int .i64 a0_5) := (G12_).trans rfl
        have hcz61_6 : wc.cell? ⟨gb130, 6, none⟩ = some (.int .i64 a0_6) := (G13_).trans rfl
        have hcz61_7 : wc.cell? ⟨gb130, 7, none⟩ = some (.bool a0_7) := (G14_).trans rfl
        have hcz61_8 : wc.cell? ⟨gb130, 8, none⟩ = some (.string a0_8) := (G15_).trans rfl
        have hcz61_9 : wc.cell? ⟨gb130, 9, none⟩ = some G3_ := (G16_).trans rfl
        have hcz61_10 : wc.cell? ⟨gb130, 10, none⟩ = some (.bool a0_10) := (G4_).trans rfl
        have hcz61_11 : wc.cell? ⟨gb130, 11, none⟩ = some (.int .i64 a0_11) := (G5_).trans rfl
        have hcz61_12 : wc.cell? ⟨gb130, 12, none⟩ = some (.int .i64 a0_12) := (G6_).trans rfl
        have hfz61_0 := blk_frozen BK130.out 0
        have hfz61_1 := blk_frozen BK130.out 1
        have hfz61_2 := blk_frozen BK130.out 2
        have hfz61_3 := blk_frozen BK130.out 3
        have hfz61_4 := blk_frozen BK130.out 4
        have hfz61_5 := blk_frozen BK130.out 5
        have hfz61_6 := blk_frozen BK130.out 6
        have hfz61_7 := blk_frozen BK130.out 7
        have hfz61_8 := blk_frozen BK130.out 8
        have hfz61_9 := blk_frozen BK130.out 9
        have hfz61_10 := blk_frozen BK130.out 10
        have hfz61_11 := blk_frozen BK130.out 11
        have hfz61_12 := blk_frozen BK130.out 12
        go_wp2
        J2_
      ·rw [if_neg c50] at H
       have c50b0 : (a0_6 == 3) = false := beq_eq_false_iff_ne.mpr c50
       have c50b1 : (a0_6 != 3) = true := bne_iff_ne.mpr c50
       by_cases c62 : (a0_8.size : Int) > 1000
       ·rw [if_pos c62] at H
        have c62b0 : decide (1000 < (a0_8.size : Int)) = true := decide_eq_true c62
        have c62b1 : decide (1000 < a0_8.size) = true := decide_eq_true (by omega)
        clear c62
        J15_
        have hcz63_0 : wc.cell? ⟨gb130, 0, none⟩ = some (.int .i64 a0_0) := (G7_).trans rfl
        have hcz63_1 : wc.cell? ⟨gb130, 1, none⟩ = some (.int .i64 a0_1) := (G8_).trans rfl
        have hcz63_2 : wc.cell? ⟨gb130, 2, none⟩ = some (.int .i64 a0_2) := (G9_).trans rfl
        have hcz63_3 : wc.cell? ⟨gb130, 3, none⟩ = some (.int .i64 a0_3) := (G10_).trans rfl
        have hcz63_4 : wc.cell? ⟨gb130, 4, none⟩ = some (.string a0_4) := (G11_).trans rfl
        have hcz63_5 : wc.cell? ⟨gb130, 5, none⟩ = some (.int .i64 a0_5) := (G12_).trans rfl
        have hcz63_6 : wc.cell? ⟨gb130, 6, none⟩ = some (.int .i64 a0_6) := (G13_).trans rfl
        have hcz63_7 : wc.cell? ⟨gb130, 7, none⟩ = some (.bool a0_7) := (G14_).trans rfl
        have hcz63_8 : wc.cell? ⟨gb130, 8, none⟩ = some (.string a0_8) := (G15_).trans rfl
        have hcz63_9 : wc.cell? ⟨gb130, 9, none⟩ = some G3_ := (G16_).trans rfl
        have hcz63_10 : wc.cell? ⟨gb130, 10, none⟩ = some (.bool a0_10) := (G4_).trans rfl
        have hcz63_11 : wc.cell? ⟨gb130, 11, none⟩ = some (.int .i64 a0_11) := (G5_).trans rfl
        have hcz63_12 : wc.cell? ⟨gb130, 12, none⟩ = some (.int .i64 a0_12) := (G6_).trans rfl
        have hfz63_0 := blk_frozen BK130.out 0
        have hfz63_1 := blk_frozen BK130.out 1
        have hfz63_2 := blk_frozen BK130.out 2
        have hfz63_3 := blk_frozen BK130.out 3
        have hfz63_4 := blk_frozen BK130.out 4
        have hfz63_5 := blk_frozen BK130.out 5
        have hfz63_6 := blk_frozen BK130.out 6
        have hfz63_7 := blk_frozen BK130.out 7
        have hfz63_8 := blk_frozen BK130.out 8
        have hfz63_9 := blk_frozen BK130.out 9
        have hfz63_10 := blk_frozen BK130.out 10
        have hfz63_11 := blk_frozen BK130.out 11
        have hfz63_12 := blk_frozen BK130.out 12
        go_wp2
        J2_
       ·rw [if_neg c62] at H
        have c62b0 : decide (1000 < (a0_8.size : Int)) = false := decide_eq_false c62
        have c62b1 : decide (1000 < a0_8.size) = false := decide_eq_false (by omega)
        clear c62
        by_cases c64 : (l0_9.length : Int) > 8
        ·rw [if_pos c64] at H
         have c64b0 : decide (8 < (l0_9.length : Int)) = true := decide_eq_true c64
         have c64b1 : decide (8 < l0_9.length) = true := decide_eq_true (by omega)
         clear c64
         J15_
         have hcz65_0 : wc.cell? ⟨gb130, 0, none⟩ = some (.int .i64 a0_0) := (G7_).trans rfl
         have hcz65_1 : wc.cell? ⟨gb130, 1, none⟩ = some (.int .i64 a0_1) := (G8_).trans rfl
         have hcz65_2 : wc.cell? ⟨gb130, 2, none⟩ = some (.int .i64 a0_2) := (G9_).trans rfl
         have hcz65_3 : wc.cell? ⟨gb130, 3, none⟩ = some (.int .i64 a0_3) := (G10_).trans rfl
         have hcz65_4 : wc.cell? ⟨gb130, 4, none⟩ = some (.string a0_4) := (G11_).trans rfl
         have hcz65_5 : wc.cell? ⟨gb130, 5, none⟩ = some (.int .i64 a0_5) := (G12_).trans rfl
         have hcz65_6 : wc.cell? ⟨gb130, 6, none⟩ = some (.int .i64 a0_6) := (G13_).trans rfl
         have hcz65_7 : wc.cell? ⟨gb130, 7, none⟩ = some (.bool a0_7) := (G14_).trans rfl
         have hcz65_8 : wc.cell? ⟨gb130, 8, none⟩ = some (.string a0_8) := (G15_).trans rfl
         have hcz65_9 : wc.cell? ⟨gb130, 9, none⟩ = some G3_ := (G16_).trans rfl
         have hcz65_10 : wc.cell? ⟨gb130, 10, none⟩ = some (.bool a0_10) := (G4_).trans rfl
         have hcz65_11 : wc.cell? ⟨gb130, 11, none⟩ = some (.int .i64 a0_11) := (G5_).trans rfl
         have hcz65_12 : wc.cell? ⟨gb130, 12, none⟩ = some (.int .i64 a0_12) := (G6_).trans rfl
         have hfz65_0 := blk_frozen BK130.out 0
         have hfz65_1 := blk_frozen BK130.out 1
         have hfz65_2 := blk_frozen BK130.out 2
         have hfz65_3 := blk_frozen BK130.out 3
         have hfz65_4 := blk_frozen BK130.out 4
         have hfz65_5 := blk_frozen BK130.out 5
         have hfz65_6 := blk_frozen BK130.out 6
         have hfz65_7 := blk_frozen BK130.out 7
         have hfz65_8 := blk_frozen BK130.out 8
         have hfz65_9 := blk_frozen BK130.out 9
         have hfz65_10 := blk_frozen BK130.out 10
         have hfz65_11 := blk_frozen BK130.out 11
         have hfz65_12 := blk_frozen BK130.out 12
         go_wp2
         J2_
        ·rw [if_neg c64] at H
         have c64b0 : decide (8 < (l0_9.length : Int)) = false := decide_eq_false c64
         have c64b1 : decide (8 < l0_9.length) = false := decide_eq_false (by omega)
         clear c64
         J14_
         obtain ⟨t144, A660, H⟩ := H
         J33_
         have A66 := Aside0.mk A660
         clear A660
         by_cases c67 : t144 = true
         ·subst c67
          J34_
          J14_
          obtain ⟨t145, A680, H⟩ := H
          J33_
          have A68 := Aside0.mk A680
          clear A680
          J15_
          have hcz69_0 : wc.cell? ⟨gb130, 0, none⟩ = some (.int .i64 a0_0) := (G7_).trans rfl
          have hcz69_1 : wc.cell? ⟨gb130, 1, none⟩ = some (.int .i64 a0_1) := (G8_).trans rfl
          have hcz69_2 : wc.cell? ⟨gb130, 2, none⟩ = some (.int .i64 a0_2) := (G9_).trans rfl
          have hcz69_3 : wc.cell? ⟨gb130, 3, none⟩ = some (.int .i64 a0_3) := (G10_).trans rfl
          have hcz69_4 : wc.cell? ⟨gb130, 4, none⟩ = some (.string a0_4) := (G11_).trans rfl
          have hcz69_5 : wc.cell? ⟨gb130, 5, none⟩ = some (.int .i64 a0_5) := (G12_).trans rfl
          have hcz69_6 : wc.cell? ⟨gb130, 6, none⟩ = some (.int .i64 a0_6) := (G13_).trans rfl
          have hcz69_7 : wc.cell? ⟨gb130, 7, none⟩ = some (.bool a0_7) := (G14_).trans rfl
          have hcz69_8 : wc.cell? ⟨gb130, 8, none⟩ = some (.string a0_8) := (G15_).trans rfl
          have hcz69_9 : wc.cell? ⟨gb130, 9, none⟩ = some G3_ := (G16_).trans rfl
          have hcz69_10 : wc.cell? ⟨gb130, 10, none⟩ = some (.bool a0_10) := (G4_).trans rfl
          have hcz69_11 : wc.cell? ⟨gb130, 11, none⟩ = some (.int .i64 a0_11) := (G5_).trans rfl
          have hcz69_12 : wc.cell? ⟨gb130, 12, none⟩ = some (.int .i64 a0_12) := (G6_).trans rfl
          have hfz69_0 := blk_frozen BK130.out 0
          have hfz69_1 := blk_frozen BK130.out 1
          have hfz69_2 := blk_frozen BK130.out 2
          have hfz69_3 := blk_frozen BK130.out 3
          have hfz69_4 := blk_frozen BK130.out 4
          have hfz69_5 := blk_frozen BK130.out 5
          have hfz69_6 := blk_frozen BK130.out 6
          have hfz69_7 := blk_frozen BK130.out 7
          have hfz69_8 := blk_frozen BK130.out 8
          have hfz69_9 := blk_frozen BK130.out 9
          have hfz69_10 := blk_frozen BK130.out 10
          have hfz69_11 := blk_frozen BK130.out 11
          have hfz69_12 := blk_frozen BK130.out 12
          go_wp2_with (first | (go_at_call 81; (with_reducible refine (spec_l01In.calls a0_11 0 1000000000 true _ A66.out).mono ?_); rintro e w' ⟨rfl, ⟨nd, rfl⟩⟩) | (go_at_call 81; (with_reducible refine (spec_l01In.calls a0_12 0 12 t145 _ A68.out).mono ?_); rintro e w' ⟨rfl, ⟨nd, rfl⟩⟩))
          go_meet
          case rel => exact ⟨_, (!t145), (by be_), H', G20_, G2_, ⟨by repeat G0_⟩⟩
         ·replace c67 := Bool.eq_false_iff.mpr c67
          subst c67
          J16_
          J15_
          have hcz70_0 : wc.cell? ⟨gb130, 0, none⟩ = some (.int .i64 a0_0) := (G7_).trans rfl
          have hcz70_1 : wc.cell? ⟨gb130, 1, none⟩ = some (.int .i64 a0_1) := (G8_).trans rfl
          have hcz70_2 : wc.cell? ⟨gb130, 2, none⟩ = some (.int .i64 a0_2) := (G9_).trans rfl
          have hcz70_3 : wc.cell? ⟨gb130, 3, none⟩ = some (.int .i64 a0_3) := (G10_).trans rfl
          have hcz70_4 : wc.cell? ⟨gb130, 4, none⟩ = some (.string a0_4) := (G11_).trans rfl
          have hcz70_5 : wc.cell? ⟨gb130, 5, none⟩ = some (.int .i64 a0_5) := (G12_).trans rfl
          have hcz70_6 : wc.cell? ⟨gb130, 6, none⟩ = some (.int .i64 a0_6) := (G13_).trans rfl
          have hcz70_7 : wc.cell? ⟨gb130, 7, none⟩ = some (.bool a0_7) := (G14_).trans rfl
          have hcz70_8 : wc.cell? ⟨gb130, 8, none⟩ = some (.string a0_8) := (G15_).trans rfl
          have hcz70_9 : wc.cell? ⟨gb130, 9, none⟩ = some G3_ := (G16_).trans rfl
          have hcz70_10 : wc.cell? ⟨gb130, 10, none⟩ = some (.bool a0_10) := (G4_).trans rfl
          have hcz70_11 : wc.cell? ⟨gb130, 11, none⟩ = some (.int .i64 a0_11) := (G5_).trans rfl
          have hcz70_12 : wc.cell? ⟨gb130, 12, none⟩ = some (.int .i64 a0_12) := (G6_).trans rfl
          have hfz70_0 := blk_frozen BK130.out 0
          have hfz70_1 := blk_frozen BK130.out 1
          have hfz70_2 := blk_frozen BK130.out 2
          have hfz70_3 := blk_frozen BK130.out 3
          have hfz70_4 := blk_frozen BK130.out 4
          have hfz70_5 := blk_frozen BK130.out 5
          have hfz70_6 := blk_frozen BK130.out 6
          have hfz70_7 := blk_frozen BK130.out 7
          have hfz70_8 := blk_frozen BK130.out 8
          have hfz70_9 := blk_frozen BK130.out 9
          have hfz70_10 := blk_frozen BK130.out 10
          have hfz70_11 := blk_frozen BK130.out 11
          have hfz70_12 := blk_frozen BK130.out 12
          go_wp2_with (first | (go_at_call 81; (with_reducible refine (spec_l01In.calls a0_11 0 1000000000 false _ A66.out).mono ?_); rintro e w' ⟨rfl, ⟨nd, rfl⟩⟩))
          J2_
    case rest =>
     clear HC25
     J42_
     try clear c26
     J32_
     J35_
     J17_
     J18_
     J19_
     try clear hcz53_2
     try clear hcz53_3
     J20_
     try clear hcz59_2
     try clear hcz59_3
     J21_
     try clear hcz61_2
     try clear hcz61_3
     J22_
     try clear hcz65_2
     try clear hcz65_3
     J23_
     try clear hcz70_2
     try clear hcz70_3
     J24_
     try clear hfz41_2
     try clear hfz41_3
     J25_
     try clear hfz47_2
     try clear hfz47_3
     J26_
     try clear hfz49_2
     try clear hfz49_3
     J27_
     try clear hfz55_2
     try clear hfz55_3
     J28_
     try clear hfz60_2
     try clear hfz60_3
     J29_
     try clear hfz63_2
     try clear hfz63_3
     J30_
     J31_
     obtain ⟨kq, x92_24, rfl, HA, HJ24, BK130, HB⟩ := hcut
     cases kq with
     | zero => exact absurd HA.out (by simp [spec_StreamOk.j1])
     | succ kj24 =>
      have H := HA.out
      clear HA
      simp only [spec_StreamOk.j1] at H
      by_cases c71 : x92_24 = true
      ·subst c71
       J34_
       J37_
       go_wp2
       J9_
      ·replace c71 := Bool.eq_false_iff.mpr c71
       subst c71
       J16_
       J15_
       go_wp2
       go_loopg [3] kj24 (fun kq v3 w' => ∃ (x3_3 : Int), v3 = .int .i64 x3_3 ∧ Aside0 (spec_StreamOk.l0 kq x3_3 a0_0 a0_1 a0_2 a0_3 a0_4 a0_5 a0_6 a0_7 a0_8 l0_9 a0_10 a0_11 a0_12 = some r) ∧ Aside0 (kq ≤ kj24) ∧ Aside0 (w'.heap[gb130]? = some (.cells G17_ 29 (0, 0))) ∧ Aside0 (Below w.heap.size w w'))
       case atStart => exact ⟨(0), (by be_), H', ⟨Nat.le_refl _⟩, G2_, ⟨by repeat G0_⟩⟩
       case round =>
        clear H'
        J42_
        try clear c7
        try clear c26
        J32_
        J35_
        try clear c71
        J17_
        J18_
        J19_
        try clear hcz53_2
        try clear hcz53_3
        J20_
        try clear hcz59_2
        try clear hcz59_3
        J21_
        try clear hcz61_2
        try clear hcz61_3
        J22_
        try clear hcz65_2
        try clear hcz65_3
        J23_
        try clear hcz70_2
        try clear hcz70_3
        J24_
        try clear hfz41_2
        try clear hfz41_3
        J25_
        try clear hfz47_2
        try clear hfz47_3
        J26_
        try clear hfz49_2
        try clear hfz49_3
        J27_
        try clear hfz55_2
        try clear hfz55_3
        J28_
        try clear hfz60_2
        try clear hfz60_3
        J29_
        try clear hfz63_2
        try clear hfz63_3
        J30_
        J31_
        try clear p2
        obtain ⟨x3_3, rfl, HA, HK3, BK130, HB⟩ := hrel
        cases gk with
        | zero => exact absurd HA.out (by simp [spec_StreamOk.l0])
        | succ k3 =>
         have H := HA.out
         clear HA
         simp only [spec_StreamOk.l0] at H
         by_cases c72 : x3_3 < (l0_9.length : Int)
         ·rw [if_pos c72] at H
          have c72b0 : decide (x3_3 < (l0_9.length : Int)) = true := decide_eq_true c72
          clear c72
          by_cases c73 : 0 ≤ x3_3
          ·rw [if_pos c73] at H
           have c73b0 : decide (0 ≤ x3_3) = true := decide_eq_true c73
           clear c73
           J14_
           obtain ⟨t147, A740, H⟩ := H
           J33_
           have A74 := Aside0.mk A740
           clear A740
           by_cases c75 : t147 = true
           ·subst c75
            J34_
            J14_
            obtain ⟨t149, A760, H⟩ := H
            J33_
            have A76 := Aside0.mk A760
            clear A760
            by_cases c77 : t149 = true
            ·subst c77
             J34_
             J15_
             have hcz78_0 : wr.cell? ⟨gb130, 0, none⟩ = some (.int .i64 a0_0) := (G7_).trans rfl
             have hcz78_1 : wr.cell? ⟨gb130, 1, none⟩ = some (.int .i64 a0_1) := (G8_).trans rfl
             have hcz78_2 : wr.cell? ⟨gb130, 2, none⟩ = some (.int .i64 a0_2) := (G9_).trans rfl
             have hcz78_3 : wr.cell? ⟨gb130, 3, none⟩ = some (.int .i64 a0_3) := (G10_).trans rfl
             have hcz78_4 : wr.cell? ⟨gb130, 4, none⟩ = some (.string a0_4) := (G11_).trans rfl
             have hcz78_5 : wr.cell? ⟨gb130, 5, none⟩ = some (.int .i64 a0_5) := (G12_).trans rfl
             have hcz78_6 : wr.cell? ⟨gb130, 6, none⟩ = some (.int .i64 a0_6) := (G13_).trans rfl
             have hcz78_7 : wr.cell? ⟨gb130, 7, none⟩ = some (.bool a0_7) := (G14_).trans rfl
             have hcz78_8 : wr.cell? ⟨gb130, 8, none⟩ = some (.string a0_8) := (G15_).trans rfl
             have hcz78_9 : wr.cell? ⟨gb130, 9, none⟩ = some G3_ := (G16_).trans rfl
             have hcz78_10 : wr.cell? ⟨gb130, 10, none⟩ = some (.bool a0_10) := (G4_).trans rfl
             have hcz78_11 : wr.cell? ⟨gb130, 11, none⟩ = some (.int .i64 a0_11) := (G5_).trans rfl
             have hcz78_12 : wr.cell? ⟨gb130, 12, none⟩ = some (.int .i64 a0_12) := (G6_).trans rfl
             have hfz78_0 := blk_frozen BK130.out 0
             have hfz78_1 := blk_frozen BK130.out 1
             have hfz78_2 := blk_frozen BK130.out 2
             have hfz78_3 := blk_frozen BK130.out 3
             have hfz78_4 := blk_frozen BK130.out 4
             have hfz78_5 := blk_frozen BK130.out 5
             have hfz78_6 := blk_frozen BK130.out 6
             have hfz78_7 := blk_frozen BK130.out 7
             have hfz78_8 := blk_frozen BK130.out 8
             have hfz78_9 := blk_frozen BK130.out 9
             have hfz78_10 := blk_frozen BK130.out 10
             have hfz78_11 := blk_frozen BK130.out 11
             have hfz78_12 := blk_frozen BK130.out 12
             J10_
             go_wp2_with (first | (G22_; refine goesL_ (some 106) rfl rfl Try.func81 (by kernel_rfl) rfl G21_ rfl G1_ ?_; G23_; rintro e w' ⟨rfl, ⟨nd, rfl⟩⟩; refine ⟨_, rfl, ?_⟩; have p148 : 0 ≤ (x3_3 : Int) := of_decide_eq_true G19_; have q148 : x3_3 < (l0_9.length : Int) := of_decide_eq_true G19_; obtain ⟨ad148, e148, hx148_0, hx148_1⟩ := at_T112 HR0_9.out x3_3 p148 q148; obtain rfl : ad146 = ad148 := (by injection e148); replace hx148_0 := (HB.out.cell (World.block_lt_of_cell? w _ hx148_0)).trans hx148_0; replace hx148_1 := (HB.out.cell (World.block_lt_of_cell? w _ hx148_1)).trans hx148_1; replace p148 := eq_true p148; replace q148 := eq_true q148) | (go_at_call 81; (with_reducible refine (spec_l01In.calls (((rd_T112 l0_9 x3_3).f1).size : Int) 1 8 true _ A76.out).mono ?_); rintro e w' ⟨rfl, ⟨nd, rfl⟩⟩))
             go_roundg k3
             case measure => have := HJ1.out; have := HJ24.out; have := HK3.out; omega
             case rel => exact ⟨(wrap64 (x3_3 + 1)), (by be_), H', ⟨by have := HJ1.out; have := HJ24.out; have := HK3.out; omega⟩, G2_, ⟨by repeat G0_⟩⟩
            ·replace c77 := Bool.eq_false_iff.mpr c77
             subst c77
             J16_
             J37_
             have hcz79_0 : wr.cell? ⟨gb130, 0, none⟩ = some (.int .i64 a0_0) := (G7_).trans rfl
             have hcz79_1 : wr.cell? ⟨gb130, 1, none⟩ = some (.int .i64 a0_1) := (G8_).trans rfl
             have hcz79_2 : wr.cell? ⟨gb130, 2, none⟩ = some (.int .i64 a0_2) := (G9_).trans rfl
             have hcz79_3 : wr.cell? ⟨gb130, 3, none⟩ = some (.int .i64 a0_3) := (G10_).trans rfl
             have hcz79_4 : wr.cell? ⟨gb130, 4, none⟩ = some (.string a0_4) := (G11_).trans rfl
             have hcz79_5 : wr.cell? ⟨gb130, 5, none⟩ = some (.int .i64 a0_5) := (G12_).trans rfl
             have hcz79_6 : wr.cell? ⟨gb130, 6, none⟩ = some (.int .i64 a0_6) := (G13_).trans rfl
             have hcz79_7 : wr.cell? ⟨gb130, 7, none⟩ = some (.bool a0_7) := (G14_).trans rfl
             have hcz79_8 : wr.cell? ⟨gb130, 8, none⟩ = some (.string a0_8) := (G15_).trans rfl
             have hcz79_9 : wr.cell? ⟨gb130, 9, none⟩ = some G3_ := (G16_).trans rfl
             have hcz79_10 : wr.cell? ⟨gb130, 10, none⟩ = some (.bool a0_10) := (G4_).trans rfl
             have hcz79_11 : wr.cell? ⟨gb130, 11, none⟩ = some (.int .i64 a0_11) := (G5_).trans rfl
             have hcz79_12 : wr.cell? ⟨gb130, 12, none⟩ = some (.int .i64 a0_12) := (G6_).trans rfl
             have hfz79_0 := blk_frozen BK130.out 0
             have hfz79_1 := blk_frozen BK130.out 1
             have hfz79_2 := blk_frozen BK130.out 2
             have hfz79_3 := blk_frozen BK130.out 3
             have hfz79_4 := blk_frozen BK130.out 4
             have hfz79_5 := blk_frozen BK130.out 5
             have hfz79_6 := blk_frozen BK130.out 6
             have hfz79_7 := blk_frozen BK130.out 7
             have hfz79_8 := blk_frozen BK130.out 8
             have hfz79_9 := blk_frozen BK130.out 9
             have hfz79_10 := blk_frozen BK130.out 10
             have hfz79_11 := blk_frozen BK130.out 11
             have hfz79_12 := blk_frozen BK130.out 12
             J10_
             go_wp2_with (first | (G22_; refine goesL_ (some 106) rfl rfl Try.func81 (by kernel_rfl) rfl G21_ rfl G1_ ?_; G23_; rintro e w' ⟨rfl, ⟨nd, rfl⟩⟩; refine ⟨_, rfl, ?_⟩; have p148 : 0 ≤ (x3_3 : Int) := of_decide_eq_true G19_; have q148 : x3_3 < (l0_9.length : Int) := of_decide_eq_true G19_; obtain ⟨ad148, e148, hx148_0, hx148_1⟩ := at_T112 HR0_9.out x3_3 p148 q148; obtain rfl : ad146 = ad148 := (by injection e148); replace hx148_0 := (HB.out.cell (World.block_lt_of_cell? w _ hx148_0)).trans hx148_0; replace hx148_1 := (HB.out.cell (World.block_lt_of_cell? w _ hx148_1)).trans hx148_1; replace p148 := eq_true p148; replace q148 := eq_true q148) | (go_at_call 81; (with_reducible refine (spec_l01In.calls (((rd_T112 l0_9 x3_3).f1).size : Int) 1 8 false _ A76.out).mono ?_); rintro e w' ⟨rfl, ⟨nd, rfl⟩⟩))
             J9_
           ·replace c75 := Bool.eq_false_iff.mpr c75
            subst c75
            J16_
            J37_
            have hcz80_0 : wr.cell? ⟨gb130, 0, none⟩ = some (.int .i64 a0_0) := (G7_).trans rfl
            have hcz80_1 : wr.cell? ⟨gb130, 1, none⟩ = some (.int .i64 a0_1) := (G8_).trans rfl
            have hcz80_2 : wr.cell? ⟨gb130, 2, none⟩ = some (.int .i64 a0_2) := (G9_).trans rfl
            have hcz80_3 : wr.cell? ⟨gb130, 3, none⟩ = some (.int .i64 a0_3) := (G10_).trans rfl
            have hcz80_4 : wr.cell? ⟨gb130, 4, none⟩ = some (.string a0_4) := (G11_).trans rfl
            have hcz80_5 : wr.cell? ⟨gb130, 5, none⟩ = some (.int .i64 a0_5) := (G12_).trans rfl
            have hcz80_6 : wr.cell? ⟨gb130, 6, none⟩ = some (.int .i64 a0_6) := (G13_).trans rfl
            have hcz80_7 : wr.cell? ⟨gb130, 7, none⟩ = some (.bool a0_7) := (G14_).trans rfl
            have hcz80_8 : wr.cell? ⟨gb130, 8, none⟩ = some (.string a0_8) := (G15_).trans rfl
            have hcz80_9 : wr.cell? ⟨gb130, 9, none⟩ = some G3_ := (G16_).trans rfl
            have hcz80_10 : wr.cell? ⟨gb130, 10, none⟩ = some (.bool a0_10) := (G4_).trans rfl
            have hcz80_11 : wr.cell? ⟨gb130, 11, none⟩ = some (.int .i64 a0_11) := (G5_).trans rfl
            have hcz80_12 : wr.cell? ⟨gb130, 12, none⟩ = some (.int .i64 a0_12) := (G6_).trans rfl
            have hfz80_0 := blk_frozen BK130.out 0
            have hfz80_1 := blk_frozen BK130.out 1
            have hfz80_2 := blk_frozen BK130.out 2
            have hfz80_3 := blk_frozen BK130.out 3
            have hfz80_4 := blk_frozen BK130.out 4
            have hfz80_5 := blk_frozen BK130.out 5
            have hfz80_6 := blk_frozen BK130.out 6
            have hfz80_7 := blk_frozen BK130.out 7
            have hfz80_8 := blk_frozen BK130.out 8
            have hfz80_9 := blk_frozen BK130.out 9
            have hfz80_10 := blk_frozen BK130.out 10
            have hfz80_11 := blk_frozen BK130.out 11
            have hfz80_12 := blk_frozen BK130.out 12
            J10_
            go_wp2_with (first | (G22_; refine goesL_ (some 106) rfl rfl Try.func81 (by kernel_rfl) rfl G21_ rfl G1_ ?_; (with_reducible refine (spec_l01In.calls ((rd_T112 l0_9 x3_3).f0) 0 65535 false _ A74.out).mono ?_); rintro e w' ⟨rfl, ⟨nd, rfl⟩⟩; refine ⟨_, rfl, ?_⟩))
            J9_
          ·rw [if_neg c73] at H
           exact absurd H (by simp)
         ·rw [if_neg c72] at H
          have c72b0 : decide (x3_3 < (l0_9.length : Int)) = false := decide_eq_false c72
          clear c72
          J37_
          have hcz81_0 : wr.cell? ⟨gb130, 0, none⟩ = some (.int .i64 a0_0) := (G7_).trans rfl
          have hcz81_1 : wr.cell? ⟨gb130, 1, none⟩ = some (.int .i64 a0_1) := (G8_).trans rfl
          have hcz81_2 : wr.cell? ⟨gb130, 2, none⟩ = some (.int .i64 a0_2) := (G9_).trans rfl
          have hcz81_3 : wr.cell? ⟨gb130, 3, none⟩ = some (.int .i64 a0_3) := (G10_).trans rfl
          have hcz81_4 : wr.cell? ⟨gb130, 4, none⟩ = some (.string a0_4) := (G11_).trans rfl
          have hcz81_5 : wr.cell? ⟨gb130, 5, none⟩ = some (.int .i64 a0_5) := (G12_).trans rfl
          have hcz81_6 : wr.cell? ⟨gb130, 6, none⟩ = some (.int .i64 a0_6) := (G13_).trans rfl
          have hcz81_7 : wr.cell? ⟨gb130, 7, none⟩ = some (.bool a0_7) := (G14_).trans rfl
          have hcz81_8 : wr.cell? ⟨gb130, 8, none⟩ = some (.string a0_8) := (G15_).trans rfl
          have hcz81_9 : wr.cell? ⟨gb130, 9, none⟩ = some G3_ := (G16_).trans rfl
          have hcz81_10 : wr.cell? ⟨gb130, 10, none⟩ = some (.bool a0_10) := (G4_).trans rfl
          have hcz81_11 : wr.cell? ⟨gb130, 11, none⟩ = some (.int .i64 a0_11) := (G5_).trans rfl
          have hcz81_12 : wr.cell? ⟨gb130, 12, none⟩ = some (.int .i64 a0_12) := (G6_).trans rfl
          have hfz81_0 := blk_frozen BK130.out 0
          have hfz81_1 := blk_frozen BK130.out 1
          have hfz81_2 := blk_frozen BK130.out 2
          have hfz81_3 := blk_frozen BK130.out 3
          have hfz81_4 := blk_frozen BK130.out 4
          have hfz81_5 := blk_frozen BK130.out 5
          have hfz81_6 := blk_frozen BK130.out 6
          have hfz81_7 := blk_frozen BK130.out 7
          have hfz81_8 := blk_frozen BK130.out 8
          have hfz81_9 := blk_frozen BK130.out 9
          have hfz81_10 := blk_frozen BK130.out 10
          have hfz81_11 := blk_frozen BK130.out 11
          have hfz81_12 := blk_frozen BK130.out 12
          go_wp2
          J9_

end Go.Proofs.Ytjijbffecppeiaa.QFnExactShut
