/- Functions that a law reaches, as functions of Lean, and the walks that show that the calls come to their answers: written by a program of this project out of the translation. No condition. -/
import Derived.Test.YthgjcijcmacpmaaQFnExactEncodex0
import Derived.Test.YthgjcijcmacpmaaQFnExactEncodex9
import Derived.Test.YthgjcijcmacpmaaQFnExactEncodex10
import Derived.Test.YthgjcijcmacpmaaQFnExactEncodex11
import Derived.Test.YthgjcijcmacpmaaVFnExactEncodeShort3
import Derived.Test.YthgjcijcmacpmaaVFnExactEncodeShort2
import Derived.Test.YthgjcijcmacpmaaVFnExactEncodeShort
namespace Go.Proofs.Ythgjcijcmacpmaa.QFnExactEncode
open Go.RowKit Go.Proofs.YthgjcijcmacpmaaW.PrintWords Go.Proofs.YthgjcijcmacpmaaW.PrintLast Go.Proofs.YthgjcijcmacpmaaW.PrintMore Go.Proofs.Ythgjcijcmacpmaa.Short
attribute [local go_sem] max2_int min2_int max_two min_two max_three min_three max_four min_four   -- for this text's walks alone
set_option linter.unusedVariables false
set_option linter.unusedSimpArgs false

theorem B12x0_ {p : Prop} (h : p := by repeat (first | (with_reducible first | exact HB.out | apply below_alloc | apply pw_below_drewN | apply below_drew1 | refine below_set ?_ GE333.out) | exact HB.out)) : p := h
theorem B12x1_ {p : Prop} (h : p := by (with_reducible repeat (first | refine blk_drewN ?_ _ | refine blk_drew ?_ | refine blk_alloc ?_ _)); exact BK333.out) : p := h
theorem B12x2_ {p : Prop} (h : p := by (try simp only [List.map_toArray, List.map_cons, List.map_nil]); first | done | rfl | (simp only [List.length_drop, List.length_take]; rfl)) : p := h
theorem B12x3_ {p : Prop} (h : p := by (with_reducible repeat (first | apply Kd.R_alloc | apply Kd.R_drewN | apply Kd.R_drew)); exact HO337.out) : p := h
theorem B12x4_ {p : Prop} (h : p := by (with_reducible repeat (first | apply Kd.R_alloc | apply Kd.R_drewN | apply Kd.R_drew)); exact HO341.out) : p := h
theorem B12x5_ {p : Prop} (h : p := by repeat (first | (with_reducible first | exact HB.out | apply below_alloc | apply pw_below_drewN | apply below_drew1) | exact HB.out)) : p := h
theorem B12x6_ {p : Prop} (h : p := by repeat (first | (with_reducible first | exact HB.out | apply below_alloc | apply pw_below_drewN | apply below_drew1 | refine below_set ?_ GE333.out | refine below_set ?_ GE354.out) | exact HB.out)) : p := h
theorem B12x7_ {p : Prop} (h : p := by kernel_rfl) : p := h
theorem B12x8_ {p : Prop} (h : p := by (with_reducible repeat (first | apply Kd.R_alloc | apply Kd.R_drewN | apply Kd.R_drew)); exact HO347.out) : p := h
theorem B12x9_ {p : Prop} (h : p := by (with_reducible repeat (first | apply Kd.R_alloc | apply Kd.R_drewN | apply Kd.R_drew)); exact Kd.R_mono HO337.out (fun _ hk => hk.2)) : p := h
theorem B12x10_ {p : Prop} (h : p := by (with_reducible repeat (first | apply Kd.R_alloc | apply Kd.R_drewN | apply Kd.R_drew)); exact Kd.R_mono HO341.out (fun _ hk => hk.2)) : p := h
theorem B12x11_ {p : Prop} (h : p := by simp only [putAll, Act.put, List.setIfInBounds_toArray, List.set_cons_zero, List.set_cons_succ]) : p := h
theorem B12x12_ {p : Prop} (h : p := by (with_reducible repeat (first | refine blk_drewN ?_ _ | refine blk_drew ?_ | refine blk_alloc ?_ _)); exact BK354.out) : p := h
theorem B12x13_ {p : Prop} (h : p := by first | (with_reducible assumption) | assumption) : p := h
/-! ### impl_Encode: function 27 -/
def impl_Encode.l0 : Nat → ByteArray → List (S51) → Int → Int → Int → Int → Int → Int → Int → Int → Int → Bool → List (S51) → List Int → ByteArray → Bool → Option (ByteArray × Bool)
 | 0, _, _, _, _, _, _, _, _, _, _, _, _, _, _, _, _ => none
 | k + 1, x4, x48, x49, x50, x334000, x334001, x334002, x334003, x334004, x334005, x334006, x334007, x334008, x334009, x334010, x334011 => if x50 < x49 then (if 0 ≤ x50 then (if x50 < (x48.length : Int) then ((impl_EntryText.f k 1 ((rd_T51 x48 x50).f0) ((rd_T51 x48 x50).f1) ((rd_T51 x48 x50).f2)).bind fun bt355 => ((impl_shortTexts.f k (([bt355.1] : List ByteArray))).bind fun t360 => (if x4.size + t360.size ≤ 9223372036854775807 then (impl_Encode.l0 k (x4 ++ t360) x48 x49 (wrap64 (x50 + 1)) x334000 x334001 x334002 x334003 x334004 x334005 x334006 x334007 x334008 x334009 x334010 x334011) else (none)))) else (none)) else (none)) else ((impl_byteTexts.f k x334009).bind fun t361 => ((impl_shortTexts.f k (([t361, x334010] : List ByteArray))).bind fun t365 => (if x4.size + t365.size ≤ 9223372036854775807 then (some (x4 ++ t365, true)) else (none))))
def impl_Encode.f (k : Nat) (a0_0 : Int) (a0_1 : Int) (a0_2 : Int) (a0_3 : Int) (a0_4 : Int) (a0_5 : Int) (a0_6 : Int) (a0_7 : Bool) (l0_8 : List (S51)) (l0_9 : List Int) (a0_10 : ByteArray) (a0_11 : Bool) : Option (ByteArray × Bool) := (impl_MessageOk.f k a0_0 a0_1 a0_2 a0_3 a0_4 a0_5 a0_6 a0_7 l0_8 l0_9 a0_10 a0_11).bind fun t334 => (if t334 = true then ((impl_byteTexts.f k (([a0_0, a0_1, a0_2] : List Int))).bind fun t338 => ((impl_varTexts.f k (([a0_3, a0_4, a0_5, a0_6] : List Int))).bind fun t342 => (if t338.size + t342.size ≤ 9223372036854775807 then ((impl_flag.f a0_7).bind fun t343 => ((impl_flag.f a0_11).bind fun t344 => ((impl_byteTexts.f k (([t343, t344] : List Int))).bind fun t348 => (if (t338 ++ t342).size + t348.size ≤ 9223372036854775807 then ((impl_varTexts.f k (([(l0_8.length : Int)] : List Int))).bind fun t352 => (if ((t338 ++ t342) ++ t348).size + t352.size ≤ 9223372036854775807 then (impl_Encode.l0 k (((t338 ++ t342) ++ t348) ++ t352) l0_8 (l0_8.length : Int) 0 a0_0 a0_1 a0_2 a0_3 a0_4 a0_5 a0_6 a0_7 l0_8 l0_9 a0_10 a0_11) else (none))) else (none))))) else (none)))) else (some ((⟨#[]⟩ : ByteArray), false)))
theorem impl_Encode.mono_l : ∀ k, (∀ y0 y1 y2 y3 y4 y5 y6 y7 y8 y9 y10 y11 y12 y13 y14 y15, LeO (impl_Encode.l0 k y0 y1 y2 y3 y4 y5 y6 y7 y8 y9 y10 y11 y12 y13 y14 y15) (impl_Encode.l0 (k + 1) y0 y1 y2 y3 y4 y5 y6 y7 y8 y9 y10 y11 y12 y13 y14 y15))
 | 0 => fun _ _ _ _ _ _ _ _ _ _ _ _ _ _ _ _ r h => by simp [impl_Encode.l0] at h
 | k + 1 => by
  have ih0 := impl_Encode.mono_l k
  ·intro y0 y1 y2 y3 y4 y5 y6 y7 y8 y9 y10 y11 y12 y13 y14 y15
   unfold impl_Encode.l0
   repeat' first
   | (with_reducible exact ih0 _ _ _ _ _ _ _ _ _ _ _ _ _ _ _ _)
   | (with_reducible exact impl_EntryText.mono _ _ _ _ _)
   | (with_reducible exact impl_MessageOk.mono _ _ _ _ _ _ _ _ _ _ _ _ _)
   | (with_reducible exact impl_byteTexts.mono _ _)
   | (with_reducible exact impl_shortTexts.mono _ _)
   | (with_reducible exact impl_varTexts.mono _ _)
   | (with_reducible exact LeO.refl _)
   | (with_reducible exact LeO.none _)
   | (with_reducible refine LeO.ite ?_ ?_)
   | (with_reducible refine LeO.bind ?_ (fun _ => ?_))
   | exact ih0 _ _ _ _ _ _ _ _ _ _ _ _ _ _ _ _
   | exact impl_EntryText.mono _ _ _ _ _
   | exact impl_MessageOk.mono _ _ _ _ _ _ _ _ _ _ _ _ _
   | exact impl_byteTexts.mono _ _
   | exact impl_shortTexts.mono _ _
   | exact impl_varTexts.mono _ _
   | exact LeO.none _
   | refine LeO.ite ?_ ?_
   | refine LeO.bind ?_ (fun _ => ?_)
theorem impl_Encode.mono : ∀ a0 a1 a2 a3 a4 a5 a6 a7 a8 a9 a10 a11 k, LeO (impl_Encode.f k a0 a1 a2 a3 a4 a5 a6 a7 a8 a9 a10 a11) (impl_Encode.f (k + 1) a0 a1 a2 a3 a4 a5 a6 a7 a8 a9 a10 a11) := by
 intro a0 a1 a2 a3 a4 a5 a6 a7 a8 a9 a10 a11 k
 have ih0 := impl_Encode.mono_l k
 unfold impl_Encode.f
 repeat' first
   | (with_reducible exact ih0 _ _ _ _ _ _ _ _ _ _ _ _ _ _ _ _)
   | (with_reducible exact impl_EntryText.mono _ _ _ _ _)
   | (with_reducible exact impl_MessageOk.mono _ _ _ _ _ _ _ _ _ _ _ _ _)
   | (with_reducible exact impl_byteTexts.mono _ _)
   | (with_reducible exact impl_shortTexts.mono _ _)
   | (with_reducible exact impl_varTexts.mono _ _)
   | (with_reducible exact LeO.refl _)
   | (with_reducible exact LeO.none _)
   | (with_reducible refine LeO.ite ?_ ?_)
   | (with_reducible refine LeO.bind ?_ (fun _ => ?_))
   | exact ih0 _ _ _ _ _ _ _ _ _ _ _ _ _ _ _ _
   | exact impl_EntryText.mono _ _ _ _ _
   | exact impl_MessageOk.mono _ _ _ _ _ _ _ _ _ _ _ _ _
   | exact impl_byteTexts.mono _ _
   | exact impl_shortTexts.mono _ _
   | exact impl_varTexts.mono _ _
   | exact LeO.none _
   | refine LeO.ite ?_ ?_
   | refine LeO.bind ?_ (fun _ => ?_)
def impl_Encode.T3 : Bool × List (List Nat × List Nat) := (true, [([], []), ([0], [0]), ([], []), ([2], [2]), ([], []), ([4], [4]), ([1, 3, 5], [1, 3, 5]), ([6], [6]), ([], []), ([8], [8]), ([], []), ([10], [10]), ([], []), ([12], [12]), ([], []), ([14], [14]), ([9, 11, 13, 15], [9, 11, 13, 15]), ([16, 7], [16]), ([7, 17], [7, 17]), ([], []), ([19], [19]), ([20, 17], [20]), ([], []), ([22], [22]), ([23, 21], [23]), ([21, 24], [21, 24]), ([25, 24], [25]), ([18, 26], [18, 26]), ([27, 26, 0, 1, 2, 3, 4, 5, 6, 7, 8, 9, 10, 11, 12, 13, 14, 15, 16, 17, 18, 19, 20, 21, 22, 23, 24, 25, 26, 27], [27])])
def impl_Encode.B3 : List Nat := [0, 1, 0, 4, 0, 16, 63, 127, 0, 256, 0, 1024, 0, 4096, 0, 16384, 65280, 131071, 262143, 0, 524288, 1835007, 0, 4194304, 16515071, 33292287, 66846719, 134217727, 268435455]
theorem impl_Encode.tab3 : rtab .any (opsOf Try.f27 3) = impl_Encode.T3 := by kernel_rfl
theorem impl_Encode.bits3 : waitsOk impl_Encode.T3.2 impl_Encode.B3 = true := by kernel_rfl
def impl_Encode.T11 : Bool × List (List Nat × List Nat) := (true, [([], []), ([], []), ([1], [1]), ([2], [2]), ([], []), ([4], [4]), ([3, 5], [3, 5]), ([6, 3], [6]), ([0, 7], [0, 7]), ([8, 7, 0, 1, 2, 3, 4, 5, 6, 7, 8], [8]), ([9, 0, 1, 2, 3, 4, 5, 6, 7, 8, 9], [])])
def impl_Encode.B11 : List Nat := [0, 0, 2, 6, 0, 16, 62, 126, 255, 511, 1023]
theorem impl_Encode.tab11 : rtab .any (opsOf Try.f27 11) = impl_Encode.T11 := by kernel_rfl
theorem impl_Encode.bits11 : waitsOk impl_Encode.T11.2 impl_Encode.B11 = true := by kernel_rfl
set_option maxHeartbeats 8000000 in
set_option maxRecDepth 100000 in
theorem impl_Encode.calls (k : Nat) (a0_0 : Int) (a0_1 : Int) (a0_2 : Int) (a0_3 : Int) (a0_4 : Int) (a0_5 : Int) (a0_6 : Int) (a0_7 : Bool) (A0_8 : Option Addr) (c0_8 : Nat) (l0_8 : List (S51)) (A0_9 : Option Addr) (c0_9 : Nat) (l0_9 : List Int) (a0_10 : ByteArray) (a0_11 : Bool) (r1 : ByteArray) (r2 : Bool) (w : World) (hr0_8 : Kd.C k51 w A0_8 l0_8.length l0_8) (hc0_8 : l0_8.length ≤ c0_8) (hr0_9 : Kd.C (Kd.int .i64) w A0_9 l0_9.length l0_9) (hc0_9 : l0_9.length ≤ c0_9) (h : impl_Encode.f k a0_0 a0_1 a0_2 a0_3 a0_4 a0_5 a0_6 a0_7 l0_8 l0_9 a0_10 a0_11 = some (r1, r2)) :
  Calls Try.prog 27 #[.agg #[.int .i64 a0_0, .int .i64 a0_1, .int .i64 a0_2, .int .i64 a0_3, .int .i64 a0_4, .int .i64 a0_5, .int .i64 a0_6, .bool a0_7, .slice A0_8 l0_8.length c0_8, .slice A0_9 l0_9.length c0_9, .string a0_10, .bool a0_11]] w fun e w' => e = .returned (.tuple #[.string r1, .bool r2]) ∧ Below w.heap.size w w' := by
 have hu30 := Try.underlying30
 have hu51 := Try.underlying51
 have HR0_8 := Aside0.mk hr0_8
 have HC0_8 := Aside0.mk hc0_8
 clear hr0_8 hc0_8
 have HR0_9 := Aside0.mk hr0_9
 have HC0_9 := Aside0.mk hc0_9
 clear hr0_9 hc0_9
 have HB := Aside0.mk (Below.refl w.heap.size w)
 have H : ((impl_MessageOk.f k a0_0 a0_1 a0_2 a0_3 a0_4 a0_5 a0_6 a0_7 l0_8 l0_9 a0_10 a0_11).bind fun t334 => (if t334 = true then ((impl_byteTexts.f k (([a0_0, a0_1, a0_2] : List Int))).bind fun t338 => ((impl_varTexts.f k (([a0_3, a0_4, a0_5, a0_6] : List Int))).bind fun t342 => (if t338.size + t342.size ≤ 9223372036854775807 then ((impl_flag.f a0_7).bind fun t343 => ((impl_flag.f a0_11).bind fun t344 => ((impl_byteTexts.f k (([t343, t344] : List Int))).bind fun t348 => (if (t338 ++ t342).size + t348.size ≤ 9223372036854775807 then ((impl_varTexts.f k (([(l0_8.length : Int)] : List Int))).bind fun t352 => (if ((t338 ++ t342) ++ t348).size + t352.size ≤ 9223372036854775807 then (impl_Encode.l0 k (((t338 ++ t342) ++ t348) ++ t352) l0_8 (l0_8.length : Int) 0 a0_0 a0_1 a0_2 a0_3 a0_4 a0_5 a0_6 a0_7 l0_8 l0_9 a0_10 a0_11) else (none))) else (none))))) else (none)))) else (some ((⟨#[]⟩ : ByteArray), false)))) = some (r1, r2) := h
 clear h
 replace H := Option.bind_eq_some_iff.mp H
 obtain ⟨t334, A20, H⟩ := H
 (try dsimp only at H)
 have A2 := Aside0.mk A20
 clear A20
 by_cases c3 : t334 = true
 ·subst c3
  rw [if_pos rfl] at H
  obtain ⟨y335, hy335⟩ : ∃ y_ : List Int, y_ = (([a0_0, a0_1, a0_2] : List Int)) := ⟨_, rfl⟩
  replace H : ((impl_byteTexts.f k y335).bind fun t338 => ((impl_varTexts.f k (([a0_3, a0_4, a0_5, a0_6] : List Int))).bind fun t342 => (if t338.size + t342.size ≤ 9223372036854775807 then ((impl_flag.f a0_7).bind fun t343 => ((impl_flag.f a0_11).bind fun t344 => ((impl_byteTexts.f k (([t343, t344] : List Int))).bind fun t348 => (if (t338 ++ t342).size + t348.size ≤ 9223372036854775807 then ((impl_varTexts.f k (([(l0_8.length : Int)] : List Int))).bind fun t352 => (if ((t338 ++ t342) ++ t348).size + t352.size ≤ 9223372036854775807 then (impl_Encode.l0 k (((t338 ++ t342) ++ t348) ++ t352) l0_8 (l0_8.length : Int) 0 a0_0 a0_1 a0_2 a0_3 a0_4 a0_5 a0_6 a0_7 l0_8 l0_9 a0_10 a0_11) else (none))) else (none))))) else (none)))) = some (r1, r2) := by first | (rw [hy335]; with_reducible exact H) | (have H2_ := (Option.bind_some _ _).symm.trans H; rw [hy335]; with_reducible exact H2_) | (have H2_ := (Option.bind_some _ _).symm.trans H; with_reducible exact H2_) | with_reducible exact H | (rw [hy335]; exact H) | exact H
  have Ny335 := Aside0.mk hy335
  clear hy335
  replace H := Option.bind_eq_some_iff.mp H
  obtain ⟨t338, A40, H⟩ := H
  (try dsimp only at H)
  have A4 := Aside0.mk A40
  clear A40
  obtain ⟨y339, hy339⟩ : ∃ y_ : List Int, y_ = (([a0_3, a0_4, a0_5, a0_6] : List Int)) := ⟨_, rfl⟩
  replace H : ((impl_varTexts.f k y339).bind fun t342 => (if t338.size + t342.size ≤ 9223372036854775807 then ((impl_flag.f a0_7).bind fun t343 => ((impl_flag.f a0_11).bind fun t344 => ((impl_byteTexts.f k (([t343, t344] : List Int))).bind fun t348 => (if (t338 ++ t342).size + t348.size ≤ 9223372036854775807 then ((impl_varTexts.f k (([(l0_8.length : Int)] : List Int))).bind fun t352 => (if ((t338 ++ t342) ++ t348).size + t352.size ≤ 9223372036854775807 then (impl_Encode.l0 k (((t338 ++ t342) ++ t348) ++ t352) l0_8 (l0_8.length : Int) 0 a0_0 a0_1 a0_2 a0_3 a0_4 a0_5 a0_6 a0_7 l0_8 l0_9 a0_10 a0_11) else (none))) else (none))))) else (none))) = some (r1, r2) := by first | (rw [hy339]; with_reducible exact H) | (have H2_ := (Option.bind_some _ _).symm.trans H; rw [hy339]; with_reducible exact H2_) | (have H2_ := (Option.bind_some _ _).symm.trans H; with_reducible exact H2_) | with_reducible exact H | (rw [hy339]; exact H) | exact H
  have Ny339 := Aside0.mk hy339
  clear hy339
  replace H := Option.bind_eq_some_iff.mp H
  obtain ⟨t342, A50, H⟩ := H
  (try dsimp only at H)
  have A5 := Aside0.mk A50
  clear A50
  by_cases c6 : t338.size + t342.size ≤ 9223372036854775807
  ·rw [if_pos c6] at H
   have c6b0 := eq_true c6
   have c6b1 : decide (t338.size + t342.size ≤ 9223372036854775807) = true := decide_eq_true c6
   try have c6b2 : (9223372036854775807 < t338.size + t342.size) = False := eq_false (Nat.not_lt.2 c6)
   try (have c6b9 := c6b2; simp only [ByteArray.size_append] at c6b9)
   replace H := Option.bind_eq_some_iff.mp H
   obtain ⟨t343, A70, H⟩ := H
   (try dsimp only at H)
   have A7 := Aside0.mk A70
   clear A70
   replace H := Option.bind_eq_some_iff.mp H
   obtain ⟨t344, A80, H⟩ := H
   (try dsimp only at H)
   have A8 := Aside0.mk A80
   clear A80
   obtain ⟨y345, hy345⟩ : ∃ y_ : List Int, y_ = (([t343, t344] : List Int)) := ⟨_, rfl⟩
   replace H : ((impl_byteTexts.f k y345).bind fun t348 => (if (t338 ++ t342).size + t348.size ≤ 9223372036854775807 then ((impl_varTexts.f k (([(l0_8.length : Int)] : List Int))).bind fun t352 => (if ((t338 ++ t342) ++ t348).size + t352.size ≤ 9223372036854775807 then (impl_Encode.l0 k (((t338 ++ t342) ++ t348) ++ t352) l0_8 (l0_8.length : Int) 0 a0_0 a0_1 a0_2 a0_3 a0_4 a0_5 a0_6 a0_7 l0_8 l0_9 a0_10 a0_11) else (none))) else (none))) = some (r1, r2) := by first | (rw [hy345]; with_reducible exact H) | (have H2_ := (Option.bind_some _ _).symm.trans H; rw [hy345]; with_reducible exact H2_) | (have H2_ := (Option.bind_some _ _).symm.trans H; with_reducible exact H2_) | with_reducible exact H | (rw [hy345]; exact H) | exact H
   have Ny345 := Aside0.mk hy345
   clear hy345
   replace H := Option.bind_eq_some_iff.mp H
   obtain ⟨t348, A90, H⟩ := H
   (try dsimp only at H)
   have A9 := Aside0.mk A90
   clear A90
   by_cases c10 : (t338 ++ t342).size + t348.size ≤ 9223372036854775807
   ·rw [if_pos c10] at H
    have c10b0 := eq_true c10
    have c10b1 : decide ((t338 ++ t342).size + t348.size ≤ 9223372036854775807) = true := decide_eq_true c10
    try have c10b2 : (9223372036854775807 < (t338 ++ t342).size + t348.size) = False := eq_false (Nat.not_lt.2 c10)
    try have c10b8 : (9223372036854775807 < t338.size + t342.size + t348.size) = False := eq_false (by have h_ := c10; simp only [ByteArray.size_append, ByteArray.size_extract, decide_eq_true_eq, decide_eq_false_iff_not] at *; omega)
    try (have c10b9 := c10b2; simp only [ByteArray.size_append] at c10b9)
    obtain ⟨y349, hy349⟩ : ∃ y_ : List Int, y_ = (([(l0_8.length : Int)] : List Int)) := ⟨_, rfl⟩
    replace H : ((impl_varTexts.f k y349).bind fun t352 => (if ((t338 ++ t342) ++ t348).size + t352.size ≤ 9223372036854775807 then (impl_Encode.l0 k (((t338 ++ t342) ++ t348) ++ t352) l0_8 (l0_8.length : Int) 0 a0_0 a0_1 a0_2 a0_3 a0_4 a0_5 a0_6 a0_7 l0_8 l0_9 a0_10 a0_11) else (none))) = some (r1, r2) := by first | (rw [hy349]; with_reducible exact H) | (have H2_ := (Option.bind_some _ _).symm.trans H; rw [hy349]; with_reducible exact H2_) | (have H2_ := (Option.bind_some _ _).symm.trans H; with_reducible exact H2_) | with_reducible exact H | (rw [hy349]; exact H) | exact H
    have Ny349 := Aside0.mk hy349
    clear hy349
    replace H := Option.bind_eq_some_iff.mp H
    obtain ⟨t352, A110, H⟩ := H
    (try dsimp only at H)
    have A11 := Aside0.mk A110
    clear A110
    by_cases c12 : ((t338 ++ t342) ++ t348).size + t352.size ≤ 9223372036854775807
    ·rw [if_pos c12] at H
     have c12b0 := eq_true c12
     have c12b1 : decide (((t338 ++ t342) ++ t348).size + t352.size ≤ 9223372036854775807) = true := decide_eq_true c12
     try have c12b2 : (9223372036854775807 < ((t338 ++ t342) ++ t348).size + t352.size) = False := eq_false (Nat.not_lt.2 c12)
     try have c12b8 : (9223372036854775807 < t338.size + t342.size + t348.size + t352.size) = False := eq_false (by have h_ := c12; simp only [ByteArray.size_append, ByteArray.size_extract, decide_eq_true_eq, decide_eq_false_iff_not] at *; omega)
     try (have c12b9 := c12b2; simp only [ByteArray.size_append] at c12b9)
     have H' := Aside0.mk H
     clear H
     go_enter Try.func27, Try.ntmps27
     try go_wp2_with (first | ((with_reducible refine gate_dst (N := 1) rfl ?_); refine box_event ?hg (N := 1) ?hd (cs := #[.int .i64 a0_0, .int .i64 a0_1, .int .i64 a0_2, .int .i64 a0_3, .int .i64 a0_4, .int .i64 a0_5, .int .i64 a0_6, .bool a0_7, .slice A0_8 l0_8.length c0_8, .slice A0_9 l0_9.length c0_9, .string a0_10, .bool a0_11]) (t := 30) ?hr ?_; (case hd => rfl); (case hg => rfl); (case hr => first | (go_simp; done) | (go_simp; rfl)); intro gb333 hg w13 hbox hb; have n0_ := Aside0.mk (below_step B12x5_ hb); have n1_ := Aside0.mk (hbox); have n2_ := Aside0.mk ((by rw [hg]; exact (below_size B12x5_) : w.heap.size ≤ gb333)); have n3_ := Aside0.mk ((by rw [hg]; exact (below_size B12x5_) : w.heap.size ≤ gb333)); clear HB; have HB := n0_; have BK333 := n1_; have GW333 := n2_; have GE333 := n3_; clear n0_ n1_ n2_ n3_; clear hb hbox hg; obtain ⟨hcz14_0, hcz14_1, hcz14_2, hcz14_3, hcz14_4, hcz14_5, hcz14_6, hcz14_7, hcz14_8, hcz14_9, hcz14_10, hcz14_11⟩ := cl12 BK333.out; obtain ⟨hfz14_0, hfz14_1, hfz14_2, hfz14_3, hfz14_4, hfz14_5, hfz14_6, hfz14_7, hfz14_8, hfz14_9, hfz14_10, hfz14_11⟩ := fr12 BK333.out) | ((with_reducible refine gate_callee (f := 14) rfl ?_); refine goesL_ (some 10) rfl rfl Try.func14 B12x7_ rfl #[.agg #[.int .i64 a0_0, .int .i64 a0_1, .int .i64 a0_2, .int .i64 a0_3, .int .i64 a0_4, .int .i64 a0_5, .int .i64 a0_6, .bool a0_7, .slice A0_8 l0_8.length c0_8, .slice A0_9 l0_9.length c0_9, .string a0_10, .bool a0_11]] rfl B12x2_ ?_; (with_reducible refine (impl_MessageOk.calls k a0_0 a0_1 a0_2 a0_3 a0_4 a0_5 a0_6 a0_7 _ _ l0_8 _ _ l0_9 a0_10 a0_11 true _ ?side1 ?side2 ?side3 ?side4 A2.out).mono ?_); (case side1 => repeat (first | exact (Kd.C_below HR0_8.out HB.out) | (with_reducible refine Kd.C_alloc ?_ _) | (with_reducible refine Kd.C_drewN ?_ _) | (with_reducible refine Kd.C_drew ?_))); (case side2 => exact HC0_8.out); (case side3 => repeat (first | exact (Kd.C_below HR0_9.out HB.out) | (with_reducible refine Kd.C_alloc ?_ _) | (with_reducible refine Kd.C_drewN ?_ _) | (with_reducible refine Kd.C_drew ?_))); (case side4 => exact HC0_9.out); rintro e w15 ⟨rfl, hb⟩; refine ⟨_, rfl, ?_⟩; have n0_ := Aside0.mk (blk_below (g := gb333) (o := .cells #[.int .i64 a0_0, .int .i64 a0_1, .int .i64 a0_2, .int .i64 a0_3, .int .i64 a0_4, .int .i64 a0_5, .int .i64 a0_6, .bool a0_7, .slice A0_8 l0_8.length c0_8, .slice A0_9 l0_9.length c0_9, .string a0_10, .bool a0_11] 30 (0, 0)) B12x1_ hb); have n1_ := Aside0.mk (below_step B12x0_ hb); clear BK333; clear HB; have BK333 := n0_; have HB := n1_; clear n0_ n1_; (try clear hb); (try clear hb2); (try clear hk); (try clear hi)))
     have n0_ := Aside0.mk (blk_drew BK333.out)
     have n1_ := Aside0.mk (below_drew1 HB.out)
     clear BK333
     clear HB
     have BK333 := n0_
     have HB := n1_
     clear n0_ n1_
     refine start_ (n := 29) (S := fun w' => w'.cell? ⟨gb333, 0, none⟩ = some (.int .i64 a0_0) ∧ w'.cell? ⟨gb333, 1, none⟩ = some (.int .i64 a0_1) ∧ w'.cell? ⟨gb333, 2, none⟩ = some (.int .i64 a0_2) ∧ w'.cell? ⟨gb333, 3, none⟩ = some (.int .i64 a0_3) ∧ w'.cell? ⟨gb333, 4, none⟩ = some (.int .i64 a0_4) ∧ w'.cell? ⟨gb333, 5, none⟩ = some (.int .i64 a0_5) ∧ w'.cell? ⟨gb333, 6, none⟩ = some (.int .i64 a0_6) ∧ w'.cell? ⟨gb333, 7, none⟩ = some (.bool a0_7) ∧ w'.cell? ⟨gb333, 8, none⟩ = some (.slice A0_8 l0_8.length c0_8) ∧ w'.cell? ⟨gb333, 9, none⟩ = some (.slice A0_9 l0_9.length c0_9) ∧ w'.cell? ⟨gb333, 10, none⟩ = some (.string a0_10) ∧ w'.cell? ⟨gb333, 11, none⟩ = some (.bool a0_11)) (ds := []) #[false, false, false, false, false, false, false, false, false, false, false, false, false, false, false, false, false, false, false, false, false, false, false, false, false, false, false, false, false] B12x7_ rfl rfl ⟨(blk_cell BK333.out 0).trans rfl, (blk_cell BK333.out 1).trans rfl, (blk_cell BK333.out 2).trans rfl, (blk_cell BK333.out 3).trans rfl, (blk_cell BK333.out 4).trans rfl, (blk_cell BK333.out 5).trans rfl, (blk_cell BK333.out 6).trans rfl, (blk_cell BK333.out 7).trans rfl, (blk_cell BK333.out 8).trans rfl, (blk_cell BK333.out 9).trans rfl, (blk_cell BK333.out 10).trans rfl, (blk_cell BK333.out 11).trans rfl⟩ (fun hHeld => ?_); refine with_tabW impl_Encode.tab3 impl_Encode.bits3 (fun HT_ HW_ => ?_)
     generalize w15.drew = w16 at BK333 HB hHeld ⊢
     refine pu_ 0 12 HT_ ?_
     refine pu_ 2 14 HT_ ?_
     refine pu_ 4 16 HT_ ?_
     refine pu_ 8 20 HT_ ?_
     refine pu_ 10 22 HT_ ?_
     refine pu_ 12 24 HT_ ?_
     refine pu_ 14 26 HT_ ?_
     refine pu_ 19 31 HT_ ?_
     refine pu_ 22 34 HT_ ?_
     refine ta_ 1 13 HT_ HW_ hHeld ?_
     refine ta_ 3 15 HT_ HW_ hHeld ?_
     refine ta_ 5 17 HT_ HW_ hHeld ?_
     refine ta_ 9 21 HT_ HW_ hHeld ?_
     refine ta_ 11 23 HT_ HW_ hHeld ?_
     refine ta_ 13 25 HT_ HW_ hHeld ?_
     refine ta_ 15 27 HT_ HW_ hHeld ?_
     refine ta_ 20 32 HT_ HW_ hHeld ?_
     refine ta_ 23 35 HT_ HW_ hHeld ?_
     refine join_ (σ := Value × Value) 8 #[true, true, true, true, true, true, true, true, true, true, true, true, true, true, true, true, true, false, false, true, true, false, true, true, false, false, false, false, false] (fun s_ => [(18, s_.1), (19, .string t338), (28, s_.2)]) (fun s_ w' => (w'.cell? ⟨gb333, 0, none⟩ = some (.int .i64 a0_0) ∧ w'.cell? ⟨gb333, 1, none⟩ = some (.int .i64 a0_1) ∧ w'.cell? ⟨gb333, 2, none⟩ = some (.int .i64 a0_2) ∧ w'.cell? ⟨gb333, 3, none⟩ = some (.int .i64 a0_3) ∧ w'.cell? ⟨gb333, 4, none⟩ = some (.int .i64 a0_4) ∧ w'.cell? ⟨gb333, 5, none⟩ = some (.int .i64 a0_5) ∧ w'.cell? ⟨gb333, 6, none⟩ = some (.int .i64 a0_6) ∧ w'.cell? ⟨gb333, 7, none⟩ = some (.bool a0_7) ∧ w'.cell? ⟨gb333, 8, none⟩ = some (.slice A0_8 l0_8.length c0_8) ∧ w'.cell? ⟨gb333, 9, none⟩ = some (.slice A0_9 l0_9.length c0_9) ∧ w'.cell? ⟨gb333, 10, none⟩ = some (.string a0_10) ∧ w'.cell? ⟨gb333, 11, none⟩ = some (.bool a0_11)) ∧ (Kd.R (Kd.int .i64) 3 w' w.heap.size (fun k_ => some k_ ≠ (s_.2 : Value).ownBlock) s_.1 y335) ∧ (Kd.R (Kd.int .i64) 3 w' w.heap.size (fun k_ => some k_ ≠ (s_.1 : Value).ownBlock) s_.2 y339) ∧ (w'.heap[gb333]? = some (.cells #[.int .i64 a0_0, .int .i64 a0_1, .int .i64 a0_2, .int .i64 a0_3, .int .i64 a0_4, .int .i64 a0_5, .int .i64 a0_6, .bool a0_7, .slice A0_8 l0_8.length c0_8, .slice A0_9 l0_9.length c0_9, .string a0_10, .bool a0_11] 30 (0, 0))) ∧ (Below w.heap.size w w')) ?_ ?_
     rotate_left
     ·intro hCont
      refine two_ (i := 6) (j := 16) (Ni := some 18) (Nj := some 28) #[true, true, true, true, true, true, true, false, true, true, true, true, true, true, true, true, false, false, false, true, true, false, true, true, false, false, false, false, false] #[true, true, true, true, true, true, false, false, true, true, true, true, true, true, true, true, true, false, false, true, true, false, true, true, false, false, false, false, false] rfl rfl rfl rfl (two_of HT_.out B12x7_) (by decide) (by decide) (fun K hK => ?_) (fun K hK => ?_)
      ·skip
       refine Kd.R_lit_step (Kd.int .i64) _ 3 ?hg (N := 18) ?hd (xs := ([a0_0, a0_1, a0_2] : List Int)) (inner := [.int .i64 a0_0, .int .i64 a0_1, .int .i64 a0_2]) (ok := fun _ => True) (okp := fun _ => True) ?hr ?hp (fun _ hk => hk) trivial (Below.refl _ _) (Nat.le_refl _) (by simp) ?_; (case hd => rfl); (case hg => rfl); (case hr => first | (go_simp; done) | (go_simp; rfl)); (case hp => exact (Reps.one (show Kd.M (Kd.int .i64) _ _ _ a0_0 [.int .i64 a0_0] from rfl) (Reps.one (show Kd.M (Kd.int .i64) _ _ _ a0_1 [.int .i64 a0_1] from rfl) (Reps.one (show Kd.M (Kd.int .i64) _ _ _ a0_2 [.int .i64 a0_2] from rfl) (Reps.none _ _)))))
       intro v336 w17 ho18 hb hg_ hnew_
       clear hg_ hnew_
       (first | rw [← Ny335.out] at ho18 | (simp only [Int.reduceToNat] at ho18; rw [← Ny335.out] at ho18))
       have n0_ := Aside0.mk (Kd.R_lower ho18 (below_size B12x0_))
       have n1_ := Aside0.mk (blk_below (g := gb333) (o := .cells #[.int .i64 a0_0, .int .i64 a0_1, .int .i64 a0_2, .int .i64 a0_3, .int .i64 a0_4, .int .i64 a0_5, .int .i64 a0_6, .bool a0_7, .slice A0_8 l0_8.length c0_8, .slice A0_9 l0_9.length c0_9, .string a0_10, .bool a0_11] 30 (0, 0)) B12x1_ hb)
       have n2_ := Aside0.mk (below_step B12x0_ hb)
       clear BK333
       clear HB
       have HO337 := n0_
       have BK333 := n1_
       have HB := n2_
       clear n0_ n1_ n2_
       clear hb ho18
       obtain ⟨Ao19, co19, eo19⟩ := Kd.R_slice HO337.out
       (first | subst eo19 | (injection eo19 with f1_ f2_ f3_; have f4_ := f1_.symm; have f5_ := f3_.symm; clear f1_ f2_ f3_; subst f4_; subst f5_))
       refine hK.out _ _ ⟨(blk_cell BK333.out 0).trans rfl, (blk_cell BK333.out 1).trans rfl, (blk_cell BK333.out 2).trans rfl, (blk_cell BK333.out 3).trans rfl, (blk_cell BK333.out 4).trans rfl, (blk_cell BK333.out 5).trans rfl, (blk_cell BK333.out 6).trans rfl, (blk_cell BK333.out 7).trans rfl, (blk_cell BK333.out 8).trans rfl, (blk_cell BK333.out 9).trans rfl, (blk_cell BK333.out 10).trans rfl, (blk_cell BK333.out 11).trans rfl⟩ (fun hHeld => ?_)
       clear hK K
       refine norm_ (a' := ?_) ?_ ?_
       rotate_left
       ·show Act.put _ (some 18) _ = _
        simp only [Act.put, List.setIfInBounds_toArray, List.set_cons_zero, List.set_cons_succ, i64_w, i32_w]
        rfl
       refine two_ (i := 7) (j := 16) (Ni := some 19) (Nj := some 28) #[true, true, true, true, true, true, true, true, true, true, true, true, true, true, true, true, false, false, false, true, true, false, true, true, false, false, false, false, false] #[true, true, true, true, true, true, true, false, true, true, true, true, true, true, true, true, true, false, false, true, true, false, true, true, false, false, false, false, false] rfl rfl rfl rfl (two_of HT_.out B12x7_) (by decide) (by decide) (fun K hK => ?_) (fun K hK => ?_)
       ·skip
        refine goes_ Try.func99 B12x7_ rfl #[.slice Ao19 y335.length co19] (by rfl) rfl rfl B12x2_ ?_
        with_reducible refine (impl_byteTexts.calls k _ _ y335 t338 _ ?side1 ?side2 A4.out).mono ?_
        (case side1 => repeat (first | exact (Kd.R_reads' HO337.out).2.2 | (with_reducible refine Kd.C_alloc ?_ _) | (with_reducible refine Kd.C_drewN ?_ _) | (with_reducible refine Kd.C_drew ?_)))
        (case side2 => exact (Kd.R_reads' HO337.out).2.1)
        rintro e w20 ⟨rfl, hb⟩
        refine ⟨_, rfl, ?_⟩
        have n0_ := Aside0.mk (Kd.R_below B12x3_ hb)
        have n1_ := Aside0.mk (blk_below (g := gb333) (o := .cells #[.int .i64 a0_0, .int .i64 a0_1, .int .i64 a0_2, .int .i64 a0_3, .int .i64 a0_4, .int .i64 a0_5, .int .i64 a0_6, .bool a0_7, .slice A0_8 l0_8.length c0_8, .slice A0_9 l0_9.length c0_9, .string a0_10, .bool a0_11] 30 (0, 0)) B12x1_ hb)
        have n2_ := Aside0.mk (below_step B12x0_ hb)
        clear HO337
        clear BK333
        clear HB
        have HO337 := n0_
        have BK333 := n1_
        have HB := n2_
        clear n0_ n1_ n2_
        (try clear hb)
        (try clear hb2)
        (try clear hk)
        (try clear hi)
        refine hK.out _ _ ⟨(blk_cell BK333.out 0).trans rfl, (blk_cell BK333.out 1).trans rfl, (blk_cell BK333.out 2).trans rfl, (blk_cell BK333.out 3).trans rfl, (blk_cell BK333.out 4).trans rfl, (blk_cell BK333.out 5).trans rfl, (blk_cell BK333.out 6).trans rfl, (blk_cell BK333.out 7).trans rfl, (blk_cell BK333.out 8).trans rfl, (blk_cell BK333.out 9).trans rfl, (blk_cell BK333.out 10).trans rfl, (blk_cell BK333.out 11).trans rfl⟩ (fun hHeld => ?_)
        clear hK K
        refine norm_ (a' := ?_) ?_ ?_
        rotate_left
        ·show Act.put _ (some 19) _ = _
         simp only [Act.put, List.setIfInBounds_toArray, List.set_cons_zero, List.set_cons_succ, i64_w, i32_w]
         rfl
        refine one_ (i := 16) (N := some 28) #[true, true, true, true, true, true, true, true, true, true, true, true, true, true, true, true, true, false, false, true, true, false, true, true, false, false, false, false, false] rfl rfl (one_of HT_.out B12x7_) (by decide) (fun K hK => ?_)
        refine Kd.R_lit_step (Kd.int .i64) _ 3 ?hg (N := 28) ?hd (xs := ([a0_3, a0_4, a0_5, a0_6] : List Int)) (inner := [.int .i64 a0_3, .int .i64 a0_4, .int .i64 a0_5, .int .i64 a0_6]) (ok := fun _ => True) (okp := fun _ => True) ?hr ?hp (fun _ hk => hk) trivial (Below.refl _ _) (Nat.le_refl _) (by simp) ?_; (case hd => rfl); (case hg => rfl); (case hr => first | (go_simp; done) | (go_simp; rfl)); (case hp => exact (Reps.one (show Kd.M (Kd.int .i64) _ _ _ a0_3 [.int .i64 a0_3] from rfl) (Reps.one (show Kd.M (Kd.int .i64) _ _ _ a0_4 [.int .i64 a0_4] from rfl) (Reps.one (show Kd.M (Kd.int .i64) _ _ _ a0_5 [.int .i64 a0_5] from rfl) (Reps.one (show Kd.M (Kd.int .i64) _ _ _ a0_6 [.int .i64 a0_6] from rfl) (Reps.none _ _))))))
        intro v340 w21 ho22 hb hg_ hnew_
        clear hg_ hnew_
        (first | rw [← Ny339.out] at ho22 | (simp only [Int.reduceToNat] at ho22; rw [← Ny339.out] at ho22))
        have n0_ := Aside0.mk (Kd.R_elder' B12x3_ (Kd.R_base ho22) hb)
        have n1_ := Aside0.mk (Kd.R_lower (Kd.R_new' ho22 (Kd.R_lt B12x3_)) (below_size B12x0_))
        have n2_ := Aside0.mk (blk_below (g := gb333) (o := .cells #[.int .i64 a0_0, .int .i64 a0_1, .int .i64 a0_2, .int .i64 a0_3, .int .i64 a0_4, .int .i64 a0_5, .int .i64 a0_6, .bool a0_7, .slice A0_8 l0_8.length c0_8, .slice A0_9 l0_9.length c0_9, .string a0_10, .bool a0_11] 30 (0, 0)) B12x1_ hb)
        have n3_ := Aside0.mk (below_step B12x0_ hb)
        clear HO337
        clear BK333
        clear HB
        have HO337 := n0_
        have HO341 := n1_
        have BK333 := n2_
        have HB := n3_
        clear n0_ n1_ n2_ n3_
        clear hb ho22
        refine hK.out _ _ ⟨(blk_cell BK333.out 0).trans rfl, (blk_cell BK333.out 1).trans rfl, (blk_cell BK333.out 2).trans rfl, (blk_cell BK333.out 3).trans rfl, (blk_cell BK333.out 4).trans rfl, (blk_cell BK333.out 5).trans rfl, (blk_cell BK333.out 6).trans rfl, (blk_cell BK333.out 7).trans rfl, (blk_cell BK333.out 8).trans rfl, (blk_cell BK333.out 9).trans rfl, (blk_cell BK333.out 10).trans rfl, (blk_cell BK333.out 11).trans rfl⟩ (fun hHeld => ?_)
        clear hK K
        refine norm_ (a' := ?_) ?_ ?_
        rotate_left
        ·show Act.put _ (some 28) _ = _
         simp only [Act.put, List.setIfInBounds_toArray, List.set_cons_zero, List.set_cons_succ, i64_w, i32_w]
         rfl
        exact norm_ B12x11_ (hCont (.slice Ao19 y335.length co19, v340) _ ⟨hHeld, B12x9_, B12x10_, B12x1_, B12x0_⟩)
       ·skip
        refine Kd.R_lit_step (Kd.int .i64) _ 3 ?hg (N := 28) ?hd (xs := ([a0_3, a0_4, a0_5, a0_6] : List Int)) (inner := [.int .i64 a0_3, .int .i64 a0_4, .int .i64 a0_5, .int .i64 a0_6]) (ok := fun _ => True) (okp := fun _ => True) ?hr ?hp (fun _ hk => hk) trivial (Below.refl _ _) (Nat.le_refl _) (by simp) ?_; (case hd => rfl); (case hg => rfl); (case hr => first | (go_simp; done) | (go_simp; rfl)); (case hp => exact (Reps.one (show Kd.M (Kd.int .i64) _ _ _ a0_3 [.int .i64 a0_3] from rfl) (Reps.one (show Kd.M (Kd.int .i64) _ _ _ a0_4 [.int .i64 a0_4] from rfl) (Reps.one (show Kd.M (Kd.int .i64) _ _ _ a0_5 [.int .i64 a0_5] from rfl) (Reps.one (show Kd.M (Kd.int .i64) _ _ _ a0_6 [.int .i64 a0_6] from rfl) (Reps.none _ _))))))
        intro v340 w19 ho20 hb hg_ hnew_
        clear hg_ hnew_
        (first | rw [← Ny339.out] at ho20 | (simp only [Int.reduceToNat] at ho20; rw [← Ny339.out] at ho20))
        have n0_ := Aside0.mk (Kd.R_elder' B12x3_ (Kd.R_base ho20) hb)
        have n1_ := Aside0.mk (Kd.R_lower (Kd.R_new' ho20 (Kd.R_lt B12x3_)) (below_size B12x0_))
        have n2_ := Aside0.mk (blk_below (g := gb333) (o := .cells #[.int .i64 a0_0, .int .i64 a0_1, .int .i64 a0_2, .int .i64 a0_3, .int .i64 a0_4, .int .i64 a0_5, .int .i64 a0_6, .bool a0_7, .slice A0_8 l0_8.length c0_8, .slice A0_9 l0_9.length c0_9, .string a0_10, .bool a0_11] 30 (0, 0)) B12x1_ hb)
        have n3_ := Aside0.mk (below_step B12x0_ hb)
        clear HO337
        clear BK333
        clear HB
        have HO337 := n0_
        have HO341 := n1_
        have BK333 := n2_
        have HB := n3_
        clear n0_ n1_ n2_ n3_
        clear hb ho20
        obtain ⟨Ao21, co21, eo21⟩ := Kd.R_slice HO337.out
        (first | subst eo21 | (injection eo21 with f1_ f2_ f3_; have f4_ := f1_.symm; have f5_ := f3_.symm; clear f1_ f2_ f3_; subst f4_; subst f5_))
        refine hK.out _ _ ⟨(blk_cell BK333.out 0).trans rfl, (blk_cell BK333.out 1).trans rfl, (blk_cell BK333.out 2).trans rfl, (blk_cell BK333.out 3).trans rfl, (blk_cell BK333.out 4).trans rfl, (blk_cell BK333.out 5).trans rfl, (blk_cell BK333.out 6).trans rfl, (blk_cell BK333.out 7).trans rfl, (blk_cell BK333.out 8).trans rfl, (blk_cell BK333.out 9).trans rfl, (blk_cell BK333.out 10).trans rfl, (blk_cell BK333.out 11).trans rfl⟩ (fun hHeld => ?_)
        clear hK K
        refine norm_ (a' := ?_) ?_ ?_
        rotate_left
        ·show Act.put _ (some 28) _ = _
         simp only [Act.put, List.setIfInBounds_toArray, List.set_cons_zero, List.set_cons_succ, i64_w, i32_w]
         rfl
        refine one_ (i := 7) (N := some 19) #[true, true, true, true, true, true, true, true, true, true, true, true, true, true, true, true, true, false, false, true, true, false, true, true, false, false, false, false, false] rfl rfl (one_of HT_.out B12x7_) (by decide) (fun K hK => ?_)
        refine goes_ Try.func99 B12x7_ rfl #[.slice Ao21 y335.length co21] (by rfl) rfl rfl B12x2_ ?_
        with_reducible refine (impl_byteTexts.calls k _ _ y335 t338 _ ?side1 ?side2 A4.out).mono ?_
        (case side1 => repeat (first | exact (Kd.R_reads' HO337.out).2.2 | (with_reducible refine Kd.C_alloc ?_ _) | (with_reducible refine Kd.C_drewN ?_ _) | (with_reducible refine Kd.C_drew ?_)))
        (case side2 => exact (Kd.R_reads' HO337.out).2.1)
        rintro e w22 ⟨rfl, hb⟩
        refine ⟨_, rfl, ?_⟩
        have n0_ := Aside0.mk (Kd.R_below B12x3_ hb)
        have n1_ := Aside0.mk (Kd.R_below B12x4_ hb)
        have n2_ := Aside0.mk (blk_below (g := gb333) (o := .cells #[.int .i64 a0_0, .int .i64 a0_1, .int .i64 a0_2, .int .i64 a0_3, .int .i64 a0_4, .int .i64 a0_5, .int .i64 a0_6, .bool a0_7, .slice A0_8 l0_8.length c0_8, .slice A0_9 l0_9.length c0_9, .string a0_10, .bool a0_11] 30 (0, 0)) B12x1_ hb)
        have n3_ := Aside0.mk (below_step B12x0_ hb)
        clear HO337
        clear HO341
        clear BK333
        clear HB
        have HO337 := n0_
        have HO341 := n1_
        have BK333 := n2_
        have HB := n3_
        clear n0_ n1_ n2_ n3_
        (try clear hb)
        (try clear hb2)
        (try clear hk)
        (try clear hi)
        refine hK.out _ _ ⟨(blk_cell BK333.out 0).trans rfl, (blk_cell BK333.out 1).trans rfl, (blk_cell BK333.out 2).trans rfl, (blk_cell BK333.out 3).trans rfl, (blk_cell BK333.out 4).trans rfl, (blk_cell BK333.out 5).trans rfl, (blk_cell BK333.out 6).trans rfl, (blk_cell BK333.out 7).trans rfl, (blk_cell BK333.out 8).trans rfl, (blk_cell BK333.out 9).trans rfl, (blk_cell BK333.out 10).trans rfl, (blk_cell BK333.out 11).trans rfl⟩ (fun hHeld => ?_)
        clear hK K
        refine norm_ (a' := ?_) ?_ ?_
        rotate_left
        ·show Act.put _ (some 19) _ = _
         simp only [Act.put, List.setIfInBounds_toArray, List.set_cons_zero, List.set_cons_succ, i64_w, i32_w]
         rfl
        exact norm_ B12x11_ (hCont (.slice Ao21 y335.length co21, v340) _ ⟨hHeld, B12x9_, B12x10_, B12x1_, B12x0_⟩)
      ·skip
       refine Kd.R_lit_step (Kd.int .i64) _ 3 ?hg (N := 28) ?hd (xs := ([a0_3, a0_4, a0_5, a0_6] : List Int)) (inner := [.int .i64 a0_3, .int .i64 a0_4, .int .i64 a0_5, .int .i64 a0_6]) (ok := fun _ => True) (okp := fun _ => True) ?hr ?hp (fun _ hk => hk) trivial (Below.refl _ _) (Nat.le_refl _) (by simp) ?_; (case hd => rfl); (case hg => rfl); (case hr => first | (go_simp; done) | (go_simp; rfl)); (case hp => exact (Reps.one (show Kd.M (Kd.int .i64) _ _ _ a0_3 [.int .i64 a0_3] from rfl) (Reps.one (show Kd.M (Kd.int .i64) _ _ _ a0_4 [.int .i64 a0_4] from rfl) (Reps.one (show Kd.M (Kd.int .i64) _ _ _ a0_5 [.int .i64 a0_5] from rfl) (Reps.one (show Kd.M (Kd.int .i64) _ _ _ a0_6 [.int .i64 a0_6] from rfl) (Reps.none _ _))))))
       intro v340 w17 ho18 hb hg_ hnew_
       clear hg_ hnew_
       (first | rw [← Ny339.out] at ho18 | (simp only [Int.reduceToNat] at ho18; rw [← Ny339.out] at ho18))
       have n0_ := Aside0.mk (Kd.R_lower ho18 (below_size B12x0_))
       have n1_ := Aside0.mk (blk_below (g := gb333) (o := .cells #[.int .i64 a0_0, .int .i64 a0_1, .int .i64 a0_2, .int .i64 a0_3, .int .i64 a0_4, .int .i64 a0_5, .int .i64 a0_6, .bool a0_7, .slice A0_8 l0_8.length c0_8, .slice A0_9 l0_9.length c0_9, .string a0_10, .bool a0_11] 30 (0, 0)) B12x1_ hb)
       have n2_ := Aside0.mk (below_step B12x0_ hb)
       clear BK333
       clear HB
       have HO341 := n0_
       have BK333 := n1_
       have HB := n2_
       clear n0_ n1_ n2_
       clear hb ho18
       refine hK.out _ _ ⟨(blk_cell BK333.out 0).trans rfl, (blk_cell BK333.out 1).trans rfl, (blk_cell BK333.out 2).trans rfl, (blk_cell BK333.out 3).trans rfl, (blk_cell BK333.out 4).trans rfl, (blk_cell BK333.out 5).trans rfl, (blk_cell BK333.out 6).trans rfl, (blk_cell BK333.out 7).trans rfl, (blk_cell BK333.out 8).trans rfl, (blk_cell BK333.out 9).trans rfl, (blk_cell BK333.out 10).trans rfl, (blk_cell BK333.out 11).trans rfl⟩ (fun hHeld => ?_)
       clear hK K
       refine norm_ (a' := ?_) ?_ ?_
       rotate_left
       ·show Act.put _ (some 28) _ = _
        simp only [Act.put, List.setIfInBounds_toArray, List.set_cons_zero, List.set_cons_succ, i64_w, i32_w]
        rfl
       refine one_ (i := 6) (N := some 18) #[true, true, true, true, true, true, true, false, true, true, true, true, true, true, true, true, true, false, false, true, true, false, true, true, false, false, false, false, false] rfl rfl (one_of HT_.out B12x7_) (by decide) (fun K hK => ?_)
       refine Kd.R_lit_step (Kd.int .i64) _ 3 ?hg (N := 18) ?hd (xs := ([a0_0, a0_1, a0_2] : List Int)) (inner := [.int .i64 a0_0, .int .i64 a0_1, .int .i64 a0_2]) (ok := fun _ => True) (okp := fun _ => True) ?hr ?hp (fun _ hk => hk) trivial (Below.refl _ _) (Nat.le_refl _) (by simp) ?_; (case hd => rfl); (case hg => rfl); (case hr => first | (go_simp; done) | (go_simp; rfl)); (case hp => exact (Reps.one (show Kd.M (Kd.int .i64) _ _ _ a0_0 [.int .i64 a0_0] from rfl) (Reps.one (show Kd.M (Kd.int .i64) _ _ _ a0_1 [.int .i64 a0_1] from rfl) (Reps.one (show Kd.M (Kd.int .i64) _ _ _ a0_2 [.int .i64 a0_2] from rfl) (Reps.none _ _)))))
       intro v336 w19 ho20 hb hg_ hnew_
       clear hg_ hnew_
       (first | rw [← Ny335.out] at ho20 | (simp only [Int.reduceToNat] at ho20; rw [← Ny335.out] at ho20))
       have n0_ := Aside0.mk (Kd.R_elder' B12x4_ (Kd.R_base ho20) hb)
       have n1_ := Aside0.mk (Kd.R_lower (Kd.R_new' ho20 (Kd.R_lt B12x4_)) (below_size B12x0_))
       have n2_ := Aside0.mk (blk_below (g := gb333) (o := .cells #[.int .i64 a0_0, .int .i64 a0_1, .int .i64 a0_2, .int .i64 a0_3, .int .i64 a0_4, .int .i64 a0_5, .int .i64 a0_6, .bool a0_7, .slice A0_8 l0_8.length c0_8, .slice A0_9 l0_9.length c0_9, .string a0_10, .bool a0_11] 30 (0, 0)) B12x1_ hb)
       have n3_ := Aside0.mk (below_step B12x0_ hb)
       clear HO341
       clear BK333
       clear HB
       have HO341 := n0_
       have HO337 := n1_
       have BK333 := n2_
       have HB := n3_
       clear n0_ n1_ n2_ n3_
       clear hb ho20
       obtain ⟨Ao21, co21, eo21⟩ := Kd.R_slice HO337.out
       (first | subst eo21 | (injection eo21 with f1_ f2_ f3_; have f4_ := f1_.symm; have f5_ := f3_.symm; clear f1_ f2_ f3_; subst f4_; subst f5_))
       refine hK.out _ _ ⟨(blk_cell BK333.out 0).trans rfl, (blk_cell BK333.out 1).trans rfl, (blk_cell BK333.out 2).trans rfl, (blk_cell BK333.out 3).trans rfl, (blk_cell BK333.out 4).trans rfl, (blk_cell BK333.out 5).trans rfl, (blk_cell BK333.out 6).trans rfl, (blk_cell BK333.out 7).trans rfl, (blk_cell BK333.out 8).trans rfl, (blk_cell BK333.out 9).trans rfl, (blk_cell BK333.out 10).trans rfl, (blk_cell BK333.out 11).trans rfl⟩ (fun hHeld => ?_)
       clear hK K
       refine norm_ (a' := ?_) ?_ ?_
       rotate_left
       ·show Act.put _ (some 18) _ = _
        simp only [Act.put, List.setIfInBounds_toArray, List.set_cons_zero, List.set_cons_succ, i64_w, i32_w]
        rfl
       refine one_ (i := 7) (N := some 19) #[true, true, true, true, true, true, true, true, true, true, true, true, true, true, true, true, true, false, false, true, true, false, true, true, false, false, false, false, false] rfl rfl (one_of HT_.out B12x7_) (by decide) (fun K hK => ?_)
       refine goes_ Try.func99 B12x7_ rfl #[.slice Ao21 y335.length co21] (by rfl) rfl rfl B12x2_ ?_
       with_reducible refine (impl_byteTexts.calls k _ _ y335 t338 _ ?side1 ?side2 A4.out).mono ?_
       (case side1 => repeat (first | exact (Kd.R_reads' HO337.out).2.2 | (with_reducible refine Kd.C_alloc ?_ _) | (with_reducible refine Kd.C_drewN ?_ _) | (with_reducible refine Kd.C_drew ?_)))
       (case side2 => exact (Kd.R_reads' HO337.out).2.1)
       rintro e w22 ⟨rfl, hb⟩
       refine ⟨_, rfl, ?_⟩
       have n0_ := Aside0.mk (Kd.R_below B12x4_ hb)
       have n1_ := Aside0.mk (Kd.R_below B12x3_ hb)
       have n2_ := Aside0.mk (blk_below (g := gb333) (o := .cells #[.int .i64 a0_0, .int .i64 a0_1, .int .i64 a0_2, .int .i64 a0_3, .int .i64 a0_4, .int .i64 a0_5, .int .i64 a0_6, .bool a0_7, .slice A0_8 l0_8.length c0_8, .slice A0_9 l0_9.length c0_9, .string a0_10, .bool a0_11] 30 (0, 0)) B12x1_ hb)
       have n3_ := Aside0.mk (below_step B12x0_ hb)
       clear HO341
       clear HO337
       clear BK333
       clear HB
       have HO341 := n0_
       have HO337 := n1_
       have BK333 := n2_
       have HB := n3_
       clear n0_ n1_ n2_ n3_
       (try clear hb)
       (try clear hb2)
       (try clear hk)
       (try clear hi)
       refine hK.out _ _ ⟨(blk_cell BK333.out 0).trans rfl, (blk_cell BK333.out 1).trans rfl, (blk_cell BK333.out 2).trans rfl, (blk_cell BK333.out 3).trans rfl, (blk_cell BK333.out 4).trans rfl, (blk_cell BK333.out 5).trans rfl, (blk_cell BK333.out 6).trans rfl, (blk_cell BK333.out 7).trans rfl, (blk_cell BK333.out 8).trans rfl, (blk_cell BK333.out 9).trans rfl, (blk_cell BK333.out 10).trans rfl, (blk_cell BK333.out 11).trans rfl⟩ (fun hHeld => ?_)
       clear hK K
       refine norm_ (a' := ?_) ?_ ?_
       rotate_left
       ·show Act.put _ (some 19) _ = _
        simp only [Act.put, List.setIfInBounds_toArray, List.set_cons_zero, List.set_cons_succ, i64_w, i32_w]
        rfl
       exact norm_ B12x11_ (hCont (.slice Ao21 y335.length co21, v340) _ ⟨hHeld, B12x9_, B12x10_, B12x1_, B12x0_⟩)
     rintro ⟨v336, v340⟩ w23 ⟨hS_, h0_, h1_, h2_, h3_⟩
     have n0_ : Aside0 (Kd.R (Kd.int .i64) 3 w23 w.heap.size (fun k_ => some k_ ≠ (v340 : Value).ownBlock) v336 y335) := ⟨h0_⟩
     have n1_ : Aside0 (Kd.R (Kd.int .i64) 3 w23 w.heap.size (fun k_ => some k_ ≠ (v336 : Value).ownBlock) v340 y339) := ⟨h1_⟩
     have n2_ : Aside0 (w23.heap[gb333]? = some (.cells #[.int .i64 a0_0, .int .i64 a0_1, .int .i64 a0_2, .int .i64 a0_3, .int .i64 a0_4, .int .i64 a0_5, .int .i64 a0_6, .bool a0_7, .slice A0_8 l0_8.length c0_8, .slice A0_9 l0_9.length c0_9, .string a0_10, .bool a0_11] 30 (0, 0))) := ⟨h2_⟩
     have n3_ : Aside0 (Below w.heap.size w w23) := ⟨h3_⟩
     clear BK333
     clear HB
     clear h0_ h1_ h2_ h3_
     have HO337 := n0_
     have HO341 := n1_
     have BK333 := n2_
     have HB := n3_
     clear n0_ n1_ n2_ n3_
     have hHeld : w23.cell? ⟨gb333, 0, none⟩ = some (.int .i64 a0_0) ∧ w23.cell? ⟨gb333, 1, none⟩ = some (.int .i64 a0_1) ∧ w23.cell? ⟨gb333, 2, none⟩ = some (.int .i64 a0_2) ∧ w23.cell? ⟨gb333, 3, none⟩ = some (.int .i64 a0_3) ∧ w23.cell? ⟨gb333, 4, none⟩ = some (.int .i64 a0_4) ∧ w23.cell? ⟨gb333, 5, none⟩ = some (.int .i64 a0_5) ∧ w23.cell? ⟨gb333, 6, none⟩ = some (.int .i64 a0_6) ∧ w23.cell? ⟨gb333, 7, none⟩ = some (.bool a0_7) ∧ w23.cell? ⟨gb333, 8, none⟩ = some (.slice A0_8 l0_8.length c0_8) ∧ w23.cell? ⟨gb333, 9, none⟩ = some (.slice A0_9 l0_9.length c0_9) ∧ w23.cell? ⟨gb333, 10, none⟩ = some (.string a0_10) ∧ w23.cell? ⟨gb333, 11, none⟩ = some (.bool a0_11) := hS_
     obtain ⟨Ao24, co24, eo24⟩ := Kd.R_slice HO341.out
     (first | subst eo24 | (injection eo24 with f1_ f2_ f3_; have f4_ := f1_.symm; have f5_ := f3_.symm; clear f1_ f2_ f3_; subst f4_; subst f5_))
     refine norm_ (a' := ?_) ?_ ?_
     rotate_left
     ·simp only [putAll, Act.put, List.setIfInBounds_toArray, List.set_cons_zero, List.set_cons_succ]
      rfl
     refine one_ (i := 17) (N := some 29) #[true, true, true, true, true, true, true, true, true, true, true, true, true, true, true, true, true, true, false, true, true, false, true, true, false, false, false, false, false] rfl rfl (one_of HT_.out B12x7_) (by decide) (fun K hK => ?_)
     refine goes_ Try.func100 B12x7_ rfl #[.slice Ao24 y339.length co24] (by rfl) rfl rfl B12x2_ ?_
     with_reducible refine (impl_varTexts.calls k _ _ y339 t342 _ ?side1 ?side2 A5.out).mono ?_
     (case side1 => repeat (first | exact (Kd.R_reads' HO341.out).2.2 | (with_reducible refine Kd.C_alloc ?_ _) | (with_reducible refine Kd.C_drewN ?_ _) | (with_reducible refine Kd.C_drew ?_)))
     (case side2 => exact (Kd.R_reads' HO341.out).2.1)
     rintro e w25 ⟨rfl, hb⟩
     refine ⟨_, rfl, ?_⟩
     have n0_ := Aside0.mk (Kd.R_below B12x3_ hb)
     have n1_ := Aside0.mk (Kd.R_below B12x4_ hb)
     have n2_ := Aside0.mk (blk_below (g := gb333) (o := .cells #[.int .i64 a0_0, .int .i64 a0_1, .int .i64 a0_2, .int .i64 a0_3, .int .i64 a0_4, .int .i64 a0_5, .int .i64 a0_6, .bool a0_7, .slice A0_8 l0_8.length c0_8, .slice A0_9 l0_9.length c0_9, .string a0_10, .bool a0_11] 30 (0, 0)) B12x1_ hb)
     have n3_ := Aside0.mk (below_step B12x0_ hb)
     clear HO337
     clear HO341
     clear BK333
     clear HB
     have HO337 := n0_
     have HO341 := n1_
     have BK333 := n2_
     have HB := n3_
     clear n0_ n1_ n2_ n3_
     (try clear hb)
     (try clear hb2)
     (try clear hk)
     (try clear hi)
     refine hK.out _ _ ⟨(blk_cell BK333.out 0).trans rfl, (blk_cell BK333.out 1).trans rfl, (blk_cell BK333.out 2).trans rfl, (blk_cell BK333.out 3).trans rfl, (blk_cell BK333.out 4).trans rfl, (blk_cell BK333.out 5).trans rfl, (blk_cell BK333.out 6).trans rfl, (blk_cell BK333.out 7).trans rfl, (blk_cell BK333.out 8).trans rfl, (blk_cell BK333.out 9).trans rfl, (blk_cell BK333.out 10).trans rfl, (blk_cell BK333.out 11).trans rfl⟩ (fun hHeld => ?_)
     clear hK K
     refine norm_ (a' := ?_) ?_ ?_
     rotate_left
     ·show Act.put _ (some 29) _ = _
      simp only [Act.put, List.setIfInBounds_toArray, List.set_cons_zero, List.set_cons_succ, i64_w, i32_w]
      rfl
     refine pu_ 18 30 HT_ ?_
     refine one_ (i := 21) (N := some 33) #[true, true, true, true, true, true, true, true, true, true, true, true, true, true, true, true, true, true, true, true, true, true, true, true, false, false, false, false, false] rfl rfl (one_of HT_.out B12x7_) (by decide) (fun K hK => ?_)
     refine goes_ Try.func101 B12x7_ rfl #[.bool a0_7] (by rfl) rfl rfl B12x2_ ?_
     with_reducible refine (impl_flag.calls a0_7 t343 _ A7.out).mono ?_
     rintro e w' ⟨rfl, ⟨nd, rfl⟩⟩
     refine ⟨_, rfl, ?_⟩
     refine hK.out _ _ ⟨(blk_cell BK333.out 0).trans rfl, (blk_cell BK333.out 1).trans rfl, (blk_cell BK333.out 2).trans rfl, (blk_cell BK333.out 3).trans rfl, (blk_cell BK333.out 4).trans rfl, (blk_cell BK333.out 5).trans rfl, (blk_cell BK333.out 6).trans rfl, (blk_cell BK333.out 7).trans rfl, (blk_cell BK333.out 8).trans rfl, (blk_cell BK333.out 9).trans rfl, (blk_cell BK333.out 10).trans rfl, (blk_cell BK333.out 11).trans rfl⟩ (fun hHeld => ?_)
     clear hK K
     refine norm_ (a' := ?_) ?_ ?_
     rotate_left
     ·show Act.put _ (some 33) _ = _
      simp only [Act.put, List.setIfInBounds_toArray, List.set_cons_zero, List.set_cons_succ, i64_w, i32_w]
      rfl
     refine one_ (i := 24) (N := some 36) #[true, true, true, true, true, true, true, true, true, true, true, true, true, true, true, true, true, true, true, true, true, true, true, true, true, false, false, false, false] rfl rfl (one_of HT_.out B12x7_) (by decide) (fun K hK => ?_)
     refine goes_ Try.func101 B12x7_ rfl #[.bool a0_11] (by rfl) rfl rfl B12x2_ ?_
     with_reducible refine (impl_flag.calls a0_11 t344 _ A8.out).mono ?_
     rintro e w' ⟨rfl, ⟨nd, rfl⟩⟩
     refine ⟨_, rfl, ?_⟩
     refine hK.out _ _ ⟨(blk_cell BK333.out 0).trans rfl, (blk_cell BK333.out 1).trans rfl, (blk_cell BK333.out 2).trans rfl, (blk_cell BK333.out 3).trans rfl, (blk_cell BK333.out 4).trans rfl, (blk_cell BK333.out 5).trans rfl, (blk_cell BK333.out 6).trans rfl, (blk_cell BK333.out 7).trans rfl, (blk_cell BK333.out 8).trans rfl, (blk_cell BK333.out 9).trans rfl, (blk_cell BK333.out 10).trans rfl, (blk_cell BK333.out 11).trans rfl⟩ (fun hHeld => ?_)
     clear hK K
     refine norm_ (a' := ?_) ?_ ?_
     rotate_left
     ·show Act.put _ (some 36) _ = _
      simp only [Act.put, List.setIfInBounds_toArray, List.set_cons_zero, List.set_cons_succ, i64_w, i32_w]
      rfl
     refine one_ (i := 25) (N := some 37) #[true, true, true, true, true, true, true, true, true, true, true, true, true, true, true, true, true, true, true, true, true, true, true, true, true, true, false, false, false] rfl rfl (one_of HT_.out B12x7_) (by decide) (fun K hK => ?_)
     refine Kd.R_lit_step (Kd.int .i64) _ 3 ?hg (N := 37) ?hd (xs := ([t343, t344] : List Int)) (inner := [.int .i64 t343, .int .i64 t344]) (ok := fun _ => True) (okp := fun _ => True) ?hr ?hp (fun _ hk => hk) trivial (Below.refl _ _) (Nat.le_refl _) (by simp) ?_; (case hd => rfl); (case hg => rfl); (case hr => first | (go_simp; done) | (go_simp; rfl)); (case hp => exact (Reps.one (show Kd.M (Kd.int .i64) _ _ _ t343 [.int .i64 t343] from rfl) (Reps.one (show Kd.M (Kd.int .i64) _ _ _ t344 [.int .i64 t344] from rfl) (Reps.none _ _))))
     intro v346 w26 ho27 hb hg_ hnew_
     clear hg_ hnew_
     (first | rw [← Ny345.out] at ho27 | (simp only [Int.reduceToNat] at ho27; rw [← Ny345.out] at ho27))
     have n0_ := Aside0.mk (Kd.R_elder' B12x3_ (Kd.R_base ho27) hb)
     have n1_ := Aside0.mk (Kd.R_elder' B12x4_ (Kd.R_base ho27) hb)
     have n2_ := Aside0.mk (Kd.R_lower (Kd.R_new' (Kd.R_new' ho27 (Kd.R_lt B12x3_)) (Kd.R_lt B12x4_)) (below_size B12x0_))
     have n3_ := Aside0.mk (blk_below (g := gb333) (o := .cells #[.int .i64 a0_0, .int .i64 a0_1, .int .i64 a0_2, .int .i64 a0_3, .int .i64 a0_4, .int .i64 a0_5, .int .i64 a0_6, .bool a0_7, .slice A0_8 l0_8.length c0_8, .slice A0_9 l0_9.length c0_9, .string a0_10, .bool a0_11] 30 (0, 0)) B12x1_ hb)
     have n4_ := Aside0.mk (below_step B12x0_ hb)
     clear HO337
     clear HO341
     clear BK333
     clear HB
     have HO337 := n0_
     have HO341 := n1_
     have HO347 := n2_
     have BK333 := n3_
     have HB := n4_
     clear n0_ n1_ n2_ n3_ n4_
     clear hb ho27
     obtain ⟨Ao28, co28, eo28⟩ := Kd.R_slice HO347.out
     (first | subst eo28 | (injection eo28 with f1_ f2_ f3_; have f4_ := f1_.symm; have f5_ := f3_.symm; clear f1_ f2_ f3_; subst f4_; subst f5_))
     refine hK.out _ _ ⟨(blk_cell BK333.out 0).trans rfl, (blk_cell BK333.out 1).trans rfl, (blk_cell BK333.out 2).trans rfl, (blk_cell BK333.out 3).trans rfl, (blk_cell BK333.out 4).trans rfl, (blk_cell BK333.out 5).trans rfl, (blk_cell BK333.out 6).trans rfl, (blk_cell BK333.out 7).trans rfl, (blk_cell BK333.out 8).trans rfl, (blk_cell BK333.out 9).trans rfl, (blk_cell BK333.out 10).trans rfl, (blk_cell BK333.out 11).trans rfl⟩ (fun hHeld => ?_)
     clear hK K
     refine norm_ (a' := ?_) ?_ ?_
     rotate_left
     ·show Act.put _ (some 37) _ = _
      simp only [Act.put, List.setIfInBounds_toArray, List.set_cons_zero, List.set_cons_succ, i64_w, i32_w]
      rfl
     refine one_ (i := 26) (N := some 38) #[true, true, true, true, true, true, true, true, true, true, true, true, true, true, true, true, true, true, true, true, true, true, true, true, true, true, true, false, false] rfl rfl (one_of HT_.out B12x7_) (by decide) (fun K hK => ?_)
     refine goes_ Try.func99 B12x7_ rfl #[.slice Ao28 y345.length co28] (by rfl) rfl rfl B12x2_ ?_
     with_reducible refine (impl_byteTexts.calls k _ _ y345 t348 _ ?side1 ?side2 A9.out).mono ?_
     (case side1 => repeat (first | exact (Kd.R_reads' HO347.out).2.2 | (with_reducible refine Kd.C_alloc ?_ _) | (with_reducible refine Kd.C_drewN ?_ _) | (with_reducible refine Kd.C_drew ?_)))
     (case side2 => exact (Kd.R_reads' HO347.out).2.1)
     rintro e w29 ⟨rfl, hb⟩
     refine ⟨_, rfl, ?_⟩
     have n0_ := Aside0.mk (Kd.R_below B12x3_ hb)
     have n1_ := Aside0.mk (Kd.R_below B12x4_ hb)
     have n2_ := Aside0.mk (Kd.R_below B12x8_ hb)
     have n3_ := Aside0.mk (blk_below (g := gb333) (o := .cells #[.int .i64 a0_0, .int .i64 a0_1, .int .i64 a0_2, .int .i64 a0_3, .int .i64 a0_4, .int .i64 a0_5, .int .i64 a0_6, .bool a0_7, .slice A0_8 l0_8.length c0_8, .slice A0_9 l0_9.length c0_9, .string a0_10, .bool a0_11] 30 (0, 0)) B12x1_ hb)
     have n4_ := Aside0.mk (below_step B12x0_ hb)
     clear HO337
     clear HO341
     clear HO347
     clear BK333
     clear HB
     have HO337 := n0_
     have HO341 := n1_
     have HO347 := n2_
     have BK333 := n3_
     have HB := n4_
     clear n0_ n1_ n2_ n3_ n4_
     (try clear hb)
     (try clear hb2)
     (try clear hk)
     (try clear hi)
     refine hK.out _ _ ⟨(blk_cell BK333.out 0).trans rfl, (blk_cell BK333.out 1).trans rfl, (blk_cell BK333.out 2).trans rfl, (blk_cell BK333.out 3).trans rfl, (blk_cell BK333.out 4).trans rfl, (blk_cell BK333.out 5).trans rfl, (blk_cell BK333.out 6).trans rfl, (blk_cell BK333.out 7).trans rfl, (blk_cell BK333.out 8).trans rfl, (blk_cell BK333.out 9).trans rfl, (blk_cell BK333.out 10).trans rfl, (blk_cell BK333.out 11).trans rfl⟩ (fun hHeld => ?_)
     clear hK K
     refine norm_ (a' := ?_) ?_ ?_
     rotate_left
     ·show Act.put _ (some 38) _ = _
      simp only [Act.put, List.setIfInBounds_toArray, List.set_cons_zero, List.set_cons_succ, i64_w, i32_w]
      rfl
     refine pu_ 27 39 HT_ ?_
     refine pu_ 28 4 HT_ ?_
     refine done_ (done_of HT_.out B12x7_) ?_
     obtain ⟨hcz30_0, hcz30_1, hcz30_2, hcz30_3, hcz30_4, hcz30_5, hcz30_6, hcz30_7, hcz30_8, hcz30_9, hcz30_10, hcz30_11⟩ := cl12 BK333.out
     obtain ⟨hfz30_0, hfz30_1, hfz30_2, hfz30_3, hfz30_4, hfz30_5, hfz30_6, hfz30_7, hfz30_8, hfz30_9, hfz30_10, hfz30_11⟩ := fr12 BK333.out
     try go_wp2_with (first | ((with_reducible refine gate_dst (N := 44) rfl ?_); refine Kd.R_lit (Kd.int .i64) _ 3 ?hg (N := 44) ?hd (xs := ([(l0_8.length : Int)] : List Int)) (inner := [.int .i64 (l0_8.length : Int)]) (ok := fun _ => True) (okp := fun _ => True) ?hr ?hp (fun _ hk => hk) trivial (Below.refl _ _) (Nat.le_refl _) (by simp) ?_; (case hd => rfl); (case hg => rfl); (case hr => first | (go_simp; done) | (go_simp; rfl)); (case hp => exact (Reps.one (show Kd.M (Kd.int .i64) _ _ _ (l0_8.length : Int) [.int .i64 (l0_8.length : Int)] from rfl) (Reps.none _ _))); intro v350 w31 ho32 hb hg_ hnew_; clear hg_ hnew_; (first | rw [← Ny349.out] at ho32 | (simp only [Int.reduceToNat] at ho32; rw [← Ny349.out] at ho32)); have n0_ := Aside0.mk (Kd.R_elder' B12x3_ (Kd.R_base ho32) hb); have n1_ := Aside0.mk (Kd.R_elder' B12x4_ (Kd.R_base ho32) hb); have n2_ := Aside0.mk (Kd.R_elder' B12x8_ (Kd.R_base ho32) hb); have n3_ := Aside0.mk (Kd.R_lower (Kd.R_new' (Kd.R_new' (Kd.R_new' ho32 (Kd.R_lt B12x3_)) (Kd.R_lt B12x4_)) (Kd.R_lt B12x8_)) (below_size B12x0_)); have n4_ := Aside0.mk (blk_below (g := gb333) (o := .cells #[.int .i64 a0_0, .int .i64 a0_1, .int .i64 a0_2, .int .i64 a0_3, .int .i64 a0_4, .int .i64 a0_5, .int .i64 a0_6, .bool a0_7, .slice A0_8 l0_8.length c0_8, .slice A0_9 l0_9.length c0_9, .string a0_10, .bool a0_11] 30 (0, 0)) B12x1_ hb); have n5_ := Aside0.mk (below_step B12x0_ hb); clear HO337; clear HO341; clear HO347; clear BK333; clear HB; have HO337 := n0_; have HO341 := n1_; have HO347 := n2_; have HO351 := n3_; have BK333 := n4_; have HB := n5_; clear n0_ n1_ n2_ n3_ n4_ n5_; clear hb ho32; obtain ⟨Ao33, co33, eo33⟩ := Kd.R_slice HO351.out; subst eo33) | ((with_reducible refine gate_callee (f := 100) rfl ?_); refine goesL_ (some 45) rfl rfl Try.func100 B12x7_ rfl #[.slice Ao33 y349.length co33] rfl B12x2_ ?_; (with_reducible refine (impl_varTexts.calls k _ _ y349 t352 _ ?side1 ?side2 A11.out).mono ?_); (case side1 => repeat (first | exact (Kd.R_reads' HO351.out).2.2 | (with_reducible refine Kd.C_alloc ?_ _) | (with_reducible refine Kd.C_drewN ?_ _) | (with_reducible refine Kd.C_drew ?_))); (case side2 => exact (Kd.R_reads' HO351.out).2.1); rintro e w34 ⟨rfl, hb⟩; refine ⟨_, rfl, ?_⟩; have n0_ := Aside0.mk (Kd.R_below B12x3_ hb); have n1_ := Aside0.mk (Kd.R_below B12x4_ hb); have n2_ := Aside0.mk (Kd.R_below B12x8_ hb); have n3_ := Aside0.mk (Kd.R_below (by (with_reducible repeat (first | apply Kd.R_alloc | apply Kd.R_drewN | apply Kd.R_drew)); exact HO351.out) hb); have n4_ := Aside0.mk (blk_below (g := gb333) (o := .cells #[.int .i64 a0_0, .int .i64 a0_1, .int .i64 a0_2, .int .i64 a0_3, .int .i64 a0_4, .int .i64 a0_5, .int .i64 a0_6, .bool a0_7, .slice A0_8 l0_8.length c0_8, .slice A0_9 l0_9.length c0_9, .string a0_10, .bool a0_11] 30 (0, 0)) B12x1_ hb); have n5_ := Aside0.mk (below_step B12x0_ hb); clear HO337; clear HO341; clear HO347; clear HO351; clear BK333; clear HB; have HO337 := n0_; have HO341 := n1_; have HO347 := n2_; have HO351 := n3_; have BK333 := n4_; have HB := n5_; clear n0_ n1_ n2_ n3_ n4_ n5_; (try clear hb); (try clear hb2); (try clear hk); (try clear hi); obtain ⟨hcz35_0, hcz35_1, hcz35_2, hcz35_3, hcz35_4, hcz35_5, hcz35_6, hcz35_7, hcz35_8, hcz35_9, hcz35_10, hcz35_11⟩ := cl12 BK333.out; obtain ⟨hfz35_0, hfz35_1, hfz35_2, hfz35_3, hfz35_4, hfz35_5, hfz35_6, hfz35_7, hfz35_8, hfz35_9, hfz35_10, hfz35_11⟩ := fr12 BK333.out))
     go_loopg [4, 50] k (fun kq v4 v50 w' => ∃ (x4_1 : ByteArray) (x50_1 : Int), v4 = .string x4_1 ∧ v50 = .int .i64 x50_1 ∧ Aside0 (impl_Encode.l0 kq x4_1 l0_8 (l0_8.length : Int) x50_1 a0_0 a0_1 a0_2 a0_3 a0_4 a0_5 a0_6 a0_7 l0_8 l0_9 a0_10 a0_11 = some (r1, r2)) ∧ Aside0 (kq ≤ k) ∧ Aside0 (w'.heap[gb333]? = some (.cells #[.int .i64 a0_0, .int .i64 a0_1, .int .i64 a0_2, .int .i64 a0_3, .int .i64 a0_4, .int .i64 a0_5, .int .i64 a0_6, .bool a0_7, (.slice A0_8 l0_8.length c0_8), (.slice A0_9 l0_9.length c0_9), .string a0_10, .bool a0_11] 30 (0, 0))) ∧ Aside0 (Below w.heap.size w w'))
     case atStart => exact ⟨(((t338 ++ t342) ++ t348) ++ t352), (0), (be_), (be_), H', ⟨Nat.le_refl _⟩, ⟨by (with_reducible repeat (first | refine blk_drewN ?_ _ | refine blk_drew ?_ | refine blk_alloc ?_ _)); exact BK333.out⟩, ⟨by repeat (first | (with_reducible first | exact HB.out | apply below_alloc | apply pw_below_drewN | apply below_drew1 | refine below_set ?_ GE333.out) | exact HB.out)⟩⟩
     case round =>
      clear H'
      try clear c1
      try clear c2
      try clear p2
      try clear c9
      try clear c10
      try clear c10b0
      try clear c10b1
      try clear c10b2
      try clear c12
      try clear c12b0
      try clear c12b1
      try clear c12b2
      try clear c14
      try clear c27
      try clear hcz14_0
      try clear hcz14_1
      try clear hcz14_10
      try clear hcz14_11
      try clear hcz14_2
      try clear hcz14_3
      try clear hcz14_4
      try clear hcz14_5
      try clear hcz14_6
      try clear hcz14_7
      try clear hcz14_8
      try clear hcz14_9
      try clear hcz30_0
      try clear hcz30_1
      try clear hcz30_10
      try clear hcz30_11
      try clear hcz30_2
      try clear hcz30_3
      try clear hcz30_4
      try clear hcz30_5
      try clear hcz30_6
      try clear hcz30_7
      try clear hcz30_8
      try clear hcz30_9
      try clear hcz35_0
      try clear hcz35_1
      try clear hcz35_10
      try clear hcz35_11
      try clear hcz35_2
      try clear hcz35_3
      try clear hcz35_4
      try clear hcz35_5
      try clear hcz35_6
      try clear hcz35_7
      try clear hcz35_8
      try clear hcz35_9
      try clear hfz14_0
      try clear hfz14_1
      try clear hfz14_10
      try clear hfz14_11
      try clear hfz14_2
      try clear hfz14_3
      try clear hfz14_4
      try clear hfz14_5
      try clear hfz14_6
      try clear hfz14_7
      try clear hfz14_8
      try clear hfz14_9
      try clear hfz30_0
      try clear hfz30_1
      try clear hfz30_10
      try clear hfz30_11
      try clear hfz30_2
      try clear hfz30_3
      try clear hfz30_4
      try clear hfz30_5
      try clear hfz30_6
      try clear hfz30_7
      try clear hfz30_8
      try clear hfz30_9
      try clear hfz35_0
      try clear hfz35_1
      try clear hfz35_10
      try clear hfz35_11
      try clear hfz35_2
      try clear hfz35_3
      try clear hfz35_4
      try clear hfz35_5
      try clear hfz35_6
      try clear hfz35_7
      try clear hfz35_8
      try clear hfz35_9
      obtain ⟨x4_1, x50_1, rfl, rfl, HA, HK1, BK333, HB⟩ := hrel
      cases gk with
      | zero => exact absurd HA.out (by simp [impl_Encode.l0])
      | succ k1 =>
       have H := HA.out
       clear HA
       simp only [impl_Encode.l0] at H
       by_cases c36 : x50_1 < (l0_8.length : Int)
       ·rw [if_pos c36] at H
        have c36b0 : decide (x50_1 < (l0_8.length : Int)) = true := decide_eq_true c36
        clear c36
        by_cases c37 : 0 ≤ x50_1
        ·rw [if_pos c37] at H
         have c37b0 : decide (0 ≤ x50_1) = true := decide_eq_true c37
         clear c37
         by_cases c38 : x50_1 < (l0_8.length : Int)
         ·rw [if_pos c38] at H
          have c38b0 : decide (x50_1 < (l0_8.length : Int)) = true := decide_eq_true c38
          clear c38
          replace H := Option.bind_eq_some_iff.mp H
          obtain ⟨⟨t355, t356⟩, A390, H⟩ := H
          (try dsimp only at H)
          have A39 := Aside0.mk A390
          clear A390
          obtain ⟨y357, hy357⟩ : ∃ y_ : List ByteArray, y_ = (([t355] : List ByteArray)) := ⟨_, rfl⟩
          replace H : ((impl_shortTexts.f k1 y357).bind fun t360 => (if x4_1.size + t360.size ≤ 9223372036854775807 then (impl_Encode.l0 k1 (x4_1 ++ t360) l0_8 (l0_8.length : Int) (wrap64 (x50_1 + 1)) a0_0 a0_1 a0_2 a0_3 a0_4 a0_5 a0_6 a0_7 l0_8 l0_9 a0_10 a0_11) else (none))) = some (r1, r2) := by first | (rw [hy357]; with_reducible exact H) | (have H2_ := (Option.bind_some _ _).symm.trans H; rw [hy357]; with_reducible exact H2_) | (have H2_ := (Option.bind_some _ _).symm.trans H; with_reducible exact H2_) | with_reducible exact H | (rw [hy357]; exact H) | exact H
          have Ny357 := Aside0.mk hy357
          clear hy357
          replace H := Option.bind_eq_some_iff.mp H
          obtain ⟨t360, A400, H⟩ := H
          (try dsimp only at H)
          have A40 := Aside0.mk A400
          clear A400
          by_cases c41 : x4_1.size + t360.size ≤ 9223372036854775807
          ·rw [if_pos c41] at H
           have c41b0 := eq_true c41
           have c41b1 : decide (x4_1.size + t360.size ≤ 9223372036854775807) = true := decide_eq_true c41
           try have c41b2 : (9223372036854775807 < x4_1.size + t360.size) = False := eq_false (Nat.not_lt.2 c41)
           try (have c41b9 := c41b2; simp only [ByteArray.size_append] at c41b9)
           have H' := Aside0.mk H
           clear H
           have p353 : 0 ≤ (x50_1 : Int) := of_decide_eq_true B12x13_
           have q353 : x50_1 < (l0_8.length : Int) := of_decide_eq_true B12x13_
           obtain ⟨ad353, e353, hx353_0, hx353_1, hx353_2⟩ := at_T51 HR0_8.out x50_1 p353 q353
           cases e353
           replace hx353_0 := (HB.out.cell (World.block_lt_of_cell? w _ hx353_0)).trans hx353_0
           replace hx353_1 := (HB.out.cell (World.block_lt_of_cell? w _ hx353_1)).trans hx353_1
           replace hx353_2 := (HB.out.cell (World.block_lt_of_cell? w _ hx353_2)).trans hx353_2
           replace p353 := eq_true p353
           replace q353 := eq_true q353
           go_wp2_with (first | ((with_reducible refine gate_dst (N := 6) rfl ?_); refine box_event ?hg (N := 6) ?hd (cs := #[.int .i64 0, .int .i64 0, .string (⟨#[]⟩ : ByteArray)]) (t := 51) ?hr ?_; (case hd => rfl); (case hg => rfl); (case hr => first | (go_simp; done) | (go_simp; rfl)); intro gb354 hg w42 hbox hb; have n0_ := Aside0.mk (blk_below (g := gb333) (o := .cells #[.int .i64 a0_0, .int .i64 a0_1, .int .i64 a0_2, .int .i64 a0_3, .int .i64 a0_4, .int .i64 a0_5, .int .i64 a0_6, .bool a0_7, .slice (some ad353) l0_8.length c0_8, .slice A0_9 l0_9.length c0_9, .string a0_10, .bool a0_11] 30 (0, 0)) B12x1_ hb); have n1_ := Aside0.mk (below_step B12x0_ hb); have n2_ := Aside0.mk (hbox); have n3_ := Aside0.mk ((by rw [hg]; exact (below_size B12x0_) : w.heap.size ≤ gb354)); have n4_ := Aside0.mk ((by rw [hg]; exact (below_size B12x0_) : w.heap.size ≤ gb354)); have n5_ := Aside0.mk ((by rw [hg]; exact Nat.ne_of_lt (blk_lt (g := gb333) (o := .cells #[.int .i64 a0_0, .int .i64 a0_1, .int .i64 a0_2, .int .i64 a0_3, .int .i64 a0_4, .int .i64 a0_5, .int .i64 a0_6, .bool a0_7, .slice (some ad353) l0_8.length c0_8, .slice A0_9 l0_9.length c0_9, .string a0_10, .bool a0_11] 30 (0, 0)) B12x1_) : gb333 ≠ gb354)); have n6_ := Aside0.mk ((by rw [hg]; exact Nat.ne_of_gt (blk_lt (g := gb333) (o := .cells #[.int .i64 a0_0, .int .i64 a0_1, .int .i64 a0_2, .int .i64 a0_3, .int .i64 a0_4, .int .i64 a0_5, .int .i64 a0_6, .bool a0_7, .slice (some ad353) l0_8.length c0_8, .slice A0_9 l0_9.length c0_9, .string a0_10, .bool a0_11] 30 (0, 0)) B12x1_) : gb354 ≠ gb333)); clear BK333; clear HB; have BK333 := n0_; have HB := n1_; have BK354 := n2_; have GW354 := n3_; have GE354 := n4_; have NB333_354 := n5_; have NB354_333 := n6_; clear n0_ n1_ n2_ n3_ n4_ n5_ n6_; clear hb hbox hg; have hnb43 := NB354_333.out; have hnc43 := NB333_354.out; obtain ⟨hcz44_0, hcz44_1, hcz44_2⟩ := cl3 BK354.out; obtain ⟨hfz44_0, hfz44_1, hfz44_2⟩ := fr3 BK354.out) | ((with_reducible refine gate_callee (f := 29) rfl ?_); refine goesL_ (some 56) rfl rfl Try.func29 B12x7_ rfl #[.int .i64 1, .agg #[.int .i64 ((rd_T51 l0_8 x50_1).f0), .int .i64 ((rd_T51 l0_8 x50_1).f1), .string ((rd_T51 l0_8 x50_1).f2)]] rfl B12x2_ ?_; (with_reducible refine (impl_EntryText.calls k1 1 ((rd_T51 l0_8 x50_1).f0) ((rd_T51 l0_8 x50_1).f1) ((rd_T51 l0_8 x50_1).f2) t355 t356 _ A39.out).mono ?_); rintro e w45 ⟨rfl, hb⟩; refine ⟨_, rfl, ?_⟩; have n0_ := Aside0.mk (blk_below (g := gb333) (o := .cells #[.int .i64 a0_0, .int .i64 a0_1, .int .i64 a0_2, .int .i64 a0_3, .int .i64 a0_4, .int .i64 a0_5, .int .i64 a0_6, .bool a0_7, .slice (some ad353) l0_8.length c0_8, .slice A0_9 l0_9.length c0_9, .string a0_10, .bool a0_11] 30 (0, 0)) (by (with_reducible repeat (first | refine blk_drewN ?_ _ | refine blk_drew ?_ | refine blk_alloc ?_ _)); refine blk_far ?_ NB333_354.out _; (with_reducible repeat (first | refine blk_drewN ?_ _ | refine blk_drew ?_ | refine blk_alloc ?_ _)); refine blk_far ?_ NB333_354.out _; (with_reducible repeat (first | refine blk_drewN ?_ _ | refine blk_drew ?_ | refine blk_alloc ?_ _)); refine blk_far ?_ NB333_354.out _; (with_reducible repeat (first | refine blk_drewN ?_ _ | refine blk_drew ?_ | refine blk_alloc ?_ _)); exact BK333.out) hb); have n1_ := Aside0.mk (blk_below (g := gb354) (o := .cells #[.int .i64 ((rd_T51 l0_8 x50_1).f0), .int .i64 ((rd_T51 l0_8 x50_1).f1), .string ((rd_T51 l0_8 x50_1).f2)] 51 (0, 0)) (by (with_reducible repeat (first | refine blk_drewN ?_ _ | refine blk_drew ?_ | refine blk_alloc ?_ _)); refine blk_put (cs := #[.int .i64 ((rd_T51 l0_8 x50_1).f0), .int .i64 ((rd_T51 l0_8 x50_1).f1), .string (⟨#[]⟩ : ByteArray)]) ?_ 2 _ rfl; (with_reducible repeat (first | refine blk_drewN ?_ _ | refine blk_drew ?_ | refine blk_alloc ?_ _)); refine blk_put (cs := #[.int .i64 ((rd_T51 l0_8 x50_1).f0), .int .i64 0, .string (⟨#[]⟩ : ByteArray)]) ?_ 1 _ rfl; (with_reducible repeat (first | refine blk_drewN ?_ _ | refine blk_drew ?_ | refine blk_alloc ?_ _)); refine blk_put (cs := #[.int .i64 0, .int .i64 0, .string (⟨#[]⟩ : ByteArray)]) ?_ 0 _ rfl; (with_reducible repeat (first | refine blk_drewN ?_ _ | refine blk_drew ?_ | refine blk_alloc ?_ _)); exact BK354.out) hb); have n2_ := Aside0.mk (below_step B12x6_ hb); clear BK333; clear BK354; clear HB; have BK333 := n0_; have BK354 := n1_; have HB := n2_; clear n0_ n1_ n2_; (try clear hb); (try clear hb2); (try clear hk); (try clear hi)) | ((with_reducible refine gate_dst (N := 61) rfl ?_); refine Kd.R_lit Kd.string _ 9 ?hg (N := 61) ?hd (xs := ([t355] : List ByteArray)) (inner := [.string t355]) (ok := fun _ => True) (okp := fun _ => True) ?hr ?hp (fun _ hk => hk) trivial (Below.refl _ _) (Nat.le_refl _) (by simp) ?_; (case hd => rfl); (case hg => rfl); (case hr => first | (go_simp; done) | (go_simp; rfl)); (case hp => exact (Reps.one (show Kd.M Kd.string _ _ _ t355 [.string t355] from rfl) (Reps.none _ _))); intro v358 w46 ho47 hb hg_ hnew_; clear hg_ hnew_; (first | rw [← Ny357.out] at ho47 | (simp only [Int.reduceToNat] at ho47; rw [← Ny357.out] at ho47)); have n0_ := Aside0.mk (Kd.R_lower ho47 (below_size B12x6_)); have n1_ := Aside0.mk (blk_below (g := gb333) (o := .cells #[.int .i64 a0_0, .int .i64 a0_1, .int .i64 a0_2, .int .i64 a0_3, .int .i64 a0_4, .int .i64 a0_5, .int .i64 a0_6, .bool a0_7, .slice (some ad353) l0_8.length c0_8, .slice A0_9 l0_9.length c0_9, .string a0_10, .bool a0_11] 30 (0, 0)) B12x1_ hb); have n2_ := Aside0.mk (blk_below (g := gb354) (o := .cells #[.int .i64 ((rd_T51 l0_8 x50_1).f0), .int .i64 ((rd_T51 l0_8 x50_1).f1), .string ((rd_T51 l0_8 x50_1).f2)] 51 (0, 0)) B12x12_ hb); have n3_ := Aside0.mk (below_step B12x6_ hb); clear BK333; clear BK354; clear HB; have HO359 := n0_; have BK333 := n1_; have BK354 := n2_; have HB := n3_; clear n0_ n1_ n2_ n3_; clear hb ho47; obtain ⟨Ao48, co48, eo48⟩ := Kd.R_slice HO359.out; subst eo48) | ((with_reducible refine gate_callee (f := 102) rfl ?_); refine goesL_ (some 62) rfl rfl Try.func102 B12x7_ rfl #[.slice Ao48 y357.length co48] rfl B12x2_ ?_; (with_reducible refine (impl_shortTexts.calls k1 _ _ y357 t360 _ ?side1 ?side2 A40.out).mono ?_); (case side1 => repeat (first | exact (Kd.R_reads' HO359.out).2.2 | (with_reducible refine Kd.C_alloc ?_ _) | (with_reducible refine Kd.C_drewN ?_ _) | (with_reducible refine Kd.C_drew ?_))); (case side2 => exact (Kd.R_reads' HO359.out).2.1); rintro e w49 ⟨rfl, hb⟩; refine ⟨_, rfl, ?_⟩; have n0_ := Aside0.mk (Kd.R_below (by (with_reducible repeat (first | apply Kd.R_alloc | apply Kd.R_drewN | apply Kd.R_drew)); exact HO359.out) hb); have n1_ := Aside0.mk (blk_below (g := gb333) (o := .cells #[.int .i64 a0_0, .int .i64 a0_1, .int .i64 a0_2, .int .i64 a0_3, .int .i64 a0_4, .int .i64 a0_5, .int .i64 a0_6, .bool a0_7, .slice (some ad353) l0_8.length c0_8, .slice A0_9 l0_9.length c0_9, .string a0_10, .bool a0_11] 30 (0, 0)) B12x1_ hb); have n2_ := Aside0.mk (blk_below (g := gb354) (o := .cells #[.int .i64 ((rd_T51 l0_8 x50_1).f0), .int .i64 ((rd_T51 l0_8 x50_1).f1), .string ((rd_T51 l0_8 x50_1).f2)] 51 (0, 0)) B12x12_ hb); have n3_ := Aside0.mk (below_step B12x6_ hb); clear HO359; clear BK333; clear BK354; clear HB; have HO359 := n0_; have BK333 := n1_; have BK354 := n2_; have HB := n3_; clear n0_ n1_ n2_ n3_; (try clear hb); (try clear hb2); (try clear hk); (try clear hi)))
           go_roundg k1
           case measure => have := HK1.out; omega
           case rel => exact ⟨(x4_1 ++ t360), (wrap64 (x50_1 + 1)), (be_), (be_), H', ⟨by have := HK1.out; omega⟩, ⟨by (with_reducible repeat (first | refine blk_drewN ?_ _ | refine blk_drew ?_ | refine blk_alloc ?_ _)); exact BK333.out⟩, ⟨by repeat (first | (with_reducible first | exact HB.out | apply below_alloc | apply pw_below_drewN | apply below_drew1 | refine below_set ?_ GE333.out | refine below_set ?_ GE354.out) | exact HB.out)⟩⟩
          ·rw [if_neg c41] at H
           exact absurd H (by simp)
         ·exact absurd H (by exfalso; (try have h0_ := of_decide_eq_true c36b0); (try have g0_ := c36); omega)
        ·rw [if_neg c37] at H
         exact absurd H (by simp)
       ·rw [if_neg c36] at H
        have c36b0 : decide (x50_1 < (l0_8.length : Int)) = false := decide_eq_false c36
        clear c36
        replace H := Option.bind_eq_some_iff.mp H
        obtain ⟨t361, A500, H⟩ := H
        (try dsimp only at H)
        have A50 := Aside0.mk A500
        clear A500
        obtain ⟨y362, hy362⟩ : ∃ y_ : List ByteArray, y_ = (([t361, a0_10] : List ByteArray)) := ⟨_, rfl⟩
        replace H : ((impl_shortTexts.f k1 y362).bind fun t365 => (if x4_1.size + t365.size ≤ 9223372036854775807 then (some (x4_1 ++ t365, true)) else (none))) = some (r1, r2) := by first | (rw [hy362]; with_reducible exact H) | (have H2_ := (Option.bind_some _ _).symm.trans H; rw [hy362]; with_reducible exact H2_) | (have H2_ := (Option.bind_some _ _).symm.trans H; with_reducible exact H2_) | with_reducible exact H | (rw [hy362]; exact H) | exact H
        have Ny362 := Aside0.mk hy362
        clear hy362
        replace H := Option.bind_eq_some_iff.mp H
        obtain ⟨t365, A510, H⟩ := H
        (try dsimp only at H)
        have A51 := Aside0.mk A510
        clear A510
        by_cases c52 : x4_1.size + t365.size ≤ 9223372036854775807
        ·rw [if_pos c52] at H
         have c52b0 := eq_true c52
         have c52b1 : decide (x4_1.size + t365.size ≤ 9223372036854775807) = true := decide_eq_true c52
         try have c52b2 : (9223372036854775807 < x4_1.size + t365.size) = False := eq_false (Nat.not_lt.2 c52)
         try (have c52b9 := c52b2; simp only [ByteArray.size_append] at c52b9)
         simp only [Option.some.injEq, Prod.mk.injEq] at H
         obtain ⟨rfl, rfl⟩ := H
         try go_wp2
         have n0_ := Aside0.mk (blk_drew BK333.out)
         have n1_ := Aside0.mk (below_drew1 HB.out)
         clear BK333
         clear HB
         have BK333 := n0_
         have HB := n1_
         clear n0_ n1_
         refine start_ (n := 11) (S := fun w' => w'.cell? ⟨gb333, 0, none⟩ = some (.int .i64 a0_0) ∧ w'.cell? ⟨gb333, 1, none⟩ = some (.int .i64 a0_1) ∧ w'.cell? ⟨gb333, 2, none⟩ = some (.int .i64 a0_2) ∧ w'.cell? ⟨gb333, 3, none⟩ = some (.int .i64 a0_3) ∧ w'.cell? ⟨gb333, 4, none⟩ = some (.int .i64 a0_4) ∧ w'.cell? ⟨gb333, 5, none⟩ = some (.int .i64 a0_5) ∧ w'.cell? ⟨gb333, 6, none⟩ = some (.int .i64 a0_6) ∧ w'.cell? ⟨gb333, 7, none⟩ = some (.bool a0_7) ∧ w'.cell? ⟨gb333, 8, none⟩ = some (.slice A0_8 l0_8.length c0_8) ∧ w'.cell? ⟨gb333, 9, none⟩ = some (.slice A0_9 l0_9.length c0_9) ∧ w'.cell? ⟨gb333, 10, none⟩ = some (.string a0_10) ∧ w'.cell? ⟨gb333, 11, none⟩ = some (.bool a0_11)) (ds := []) #[false, false, false, false, false, false, false, false, false, false, false] B12x7_ rfl rfl ⟨(blk_cell BK333.out 0).trans rfl, (blk_cell BK333.out 1).trans rfl, (blk_cell BK333.out 2).trans rfl, (blk_cell BK333.out 3).trans rfl, (blk_cell BK333.out 4).trans rfl, (blk_cell BK333.out 5).trans rfl, (blk_cell BK333.out 6).trans rfl, (blk_cell BK333.out 7).trans rfl, (blk_cell BK333.out 8).trans rfl, (blk_cell BK333.out 9).trans rfl, (blk_cell BK333.out 10).trans rfl, (blk_cell BK333.out 11).trans rfl⟩ (fun hHeld => ?_); refine with_tabW impl_Encode.tab11 impl_Encode.bits11 (fun HT_ HW_ => ?_)
         generalize wr.drew = w53 at BK333 HB hHeld ⊢
         refine pu_ 0 65 HT_ ?_
         refine pu_ 1 66 HT_ ?_
         refine pu_ 4 69 HT_ ?_
         refine ta_ 2 67 HT_ HW_ hHeld ?_
         refine ta_ 5 70 HT_ HW_ hHeld ?_
         refine one_ (i := 3) (N := some 68) #[true, true, true, true, true, true, false, false, false, false, false] rfl rfl (one_of HT_.out B12x7_) (by decide) (fun K hK => ?_)
         refine goes_ Try.func99 B12x7_ rfl #[.slice A0_9 l0_9.length c0_9] (by rfl) rfl rfl B12x2_ ?_
         with_reducible refine (impl_byteTexts.calls k1 _ _ l0_9 t361 _ ?side1 ?side2 A50.out).mono ?_
         (case side1 => repeat (first | exact (Kd.C_below HR0_9.out HB.out) | (with_reducible refine Kd.C_alloc ?_ _) | (with_reducible refine Kd.C_drewN ?_ _) | (with_reducible refine Kd.C_drew ?_)))
         (case side2 => exact HC0_9.out)
         rintro e w54 ⟨rfl, hb⟩
         refine ⟨_, rfl, ?_⟩
         have n0_ := Aside0.mk (blk_below (g := gb333) (o := .cells #[.int .i64 a0_0, .int .i64 a0_1, .int .i64 a0_2, .int .i64 a0_3, .int .i64 a0_4, .int .i64 a0_5, .int .i64 a0_6, .bool a0_7, .slice A0_8 l0_8.length c0_8, .slice A0_9 l0_9.length c0_9, .string a0_10, .bool a0_11] 30 (0, 0)) B12x1_ hb)
         have n1_ := Aside0.mk (below_step B12x0_ hb)
         clear BK333
         clear HB
         have BK333 := n0_
         have HB := n1_
         clear n0_ n1_
         (try clear hb)
         (try clear hb2)
         (try clear hk)
         (try clear hi)
         refine hK.out _ _ ⟨(blk_cell BK333.out 0).trans rfl, (blk_cell BK333.out 1).trans rfl, (blk_cell BK333.out 2).trans rfl, (blk_cell BK333.out 3).trans rfl, (blk_cell BK333.out 4).trans rfl, (blk_cell BK333.out 5).trans rfl, (blk_cell BK333.out 6).trans rfl, (blk_cell BK333.out 7).trans rfl, (blk_cell BK333.out 8).trans rfl, (blk_cell BK333.out 9).trans rfl, (blk_cell BK333.out 10).trans rfl, (blk_cell BK333.out 11).trans rfl⟩ (fun hHeld => ?_)
         clear hK K
         refine norm_ (a' := ?_) ?_ ?_
         rotate_left
         ·show Act.put _ (some 68) _ = _
          simp only [Act.put, List.setIfInBounds_toArray, List.set_cons_zero, List.set_cons_succ, i64_w, i32_w]
          rfl
         refine one_ (i := 6) (N := some 71) #[true, true, true, true, true, true, true, false, false, false, false] rfl rfl (one_of HT_.out B12x7_) (by decide) (fun K hK => ?_)
         refine Kd.R_lit_step Kd.string _ 9 ?hg (N := 71) ?hd (xs := ([t361, a0_10] : List ByteArray)) (inner := [.string t361, .string a0_10]) (ok := fun _ => True) (okp := fun _ => True) ?hr ?hp (fun _ hk => hk) trivial (Below.refl _ _) (Nat.le_refl _) (by simp) ?_; (case hd => rfl); (case hg => rfl); (case hr => first | (go_simp; done) | (go_simp; rfl)); (case hp => exact (Reps.one (show Kd.M Kd.string _ _ _ t361 [.string t361] from rfl) (Reps.one (show Kd.M Kd.string _ _ _ a0_10 [.string a0_10] from rfl) (Reps.none _ _))))
         intro v363 w55 ho56 hb hg_ hnew_
         clear hg_ hnew_
         (first | rw [← Ny362.out] at ho56 | (simp only [Int.reduceToNat] at ho56; rw [← Ny362.out] at ho56))
         have n0_ := Aside0.mk (Kd.R_lower ho56 (below_size B12x0_))
         have n1_ := Aside0.mk (blk_below (g := gb333) (o := .cells #[.int .i64 a0_0, .int .i64 a0_1, .int .i64 a0_2, .int .i64 a0_3, .int .i64 a0_4, .int .i64 a0_5, .int .i64 a0_6, .bool a0_7, .slice A0_8 l0_8.length c0_8, .slice A0_9 l0_9.length c0_9, .string a0_10, .bool a0_11] 30 (0, 0)) B12x1_ hb)
         have n2_ := Aside0.mk (below_step B12x0_ hb)
         clear BK333
         clear HB
         have HO364 := n0_
         have BK333 := n1_
         have HB := n2_
         clear n0_ n1_ n2_
         clear hb ho56
         obtain ⟨Ao57, co57, eo57⟩ := Kd.R_slice HO364.out
         (first | subst eo57 | (injection eo57 with f1_ f2_ f3_; have f4_ := f1_.symm; have f5_ := f3_.symm; clear f1_ f2_ f3_; subst f4_; subst f5_))
         refine hK.out _ _ ⟨(blk_cell BK333.out 0).trans rfl, (blk_cell BK333.out 1).trans rfl, (blk_cell BK333.out 2).trans rfl, (blk_cell BK333.out 3).trans rfl, (blk_cell BK333.out 4).trans rfl, (blk_cell BK333.out 5).trans rfl, (blk_cell BK333.out 6).trans rfl, (blk_cell BK333.out 7).trans rfl, (blk_cell BK333.out 8).trans rfl, (blk_cell BK333.out 9).trans rfl, (blk_cell BK333.out 10).trans rfl, (blk_cell BK333.out 11).trans rfl⟩ (fun hHeld => ?_)
         clear hK K
         refine norm_ (a' := ?_) ?_ ?_
         rotate_left
         ·show Act.put _ (some 71) _ = _
          simp only [Act.put, List.setIfInBounds_toArray, List.set_cons_zero, List.set_cons_succ, i64_w, i32_w]
          rfl
         refine one_ (i := 7) (N := some 72) #[true, true, true, true, true, true, true, true, false, false, false] rfl rfl (one_of HT_.out B12x7_) (by decide) (fun K hK => ?_)
         refine goes_ Try.func102 B12x7_ rfl #[.slice Ao57 y362.length co57] (by rfl) rfl rfl B12x2_ ?_
         with_reducible refine (impl_shortTexts.calls k1 _ _ y362 t365 _ ?side1 ?side2 A51.out).mono ?_
         (case side1 => repeat (first | exact (Kd.R_reads' HO364.out).2.2 | (with_reducible refine Kd.C_alloc ?_ _) | (with_reducible refine Kd.C_drewN ?_ _) | (with_reducible refine Kd.C_drew ?_)))
         (case side2 => exact (Kd.R_reads' HO364.out).2.1)
         rintro e w58 ⟨rfl, hb⟩
         refine ⟨_, rfl, ?_⟩
         have n0_ := Aside0.mk (Kd.R_below (by (with_reducible repeat (first | apply Kd.R_alloc | apply Kd.R_drewN | apply Kd.R_drew)); exact HO364.out) hb)
         have n1_ := Aside0.mk (blk_below (g := gb333) (o := .cells #[.int .i64 a0_0, .int .i64 a0_1, .int .i64 a0_2, .int .i64 a0_3, .int .i64 a0_4, .int .i64 a0_5, .int .i64 a0_6, .bool a0_7, .slice A0_8 l0_8.length c0_8, .slice A0_9 l0_9.length c0_9, .string a0_10, .bool a0_11] 30 (0, 0)) B12x1_ hb)
         have n2_ := Aside0.mk (below_step B12x0_ hb)
         clear HO364
         clear BK333
         clear HB
         have HO364 := n0_
         have BK333 := n1_
         have HB := n2_
         clear n0_ n1_ n2_
         (try clear hb)
         (try clear hb2)
         (try clear hk)
         (try clear hi)
         refine hK.out _ _ ⟨(blk_cell BK333.out 0).trans rfl, (blk_cell BK333.out 1).trans rfl, (blk_cell BK333.out 2).trans rfl, (blk_cell BK333.out 3).trans rfl, (blk_cell BK333.out 4).trans rfl, (blk_cell BK333.out 5).trans rfl, (blk_cell BK333.out 6).trans rfl, (blk_cell BK333.out 7).trans rfl, (blk_cell BK333.out 8).trans rfl, (blk_cell BK333.out 9).trans rfl, (blk_cell BK333.out 10).trans rfl, (blk_cell BK333.out 11).trans rfl⟩ (fun hHeld => ?_)
         clear hK K
         refine norm_ (a' := ?_) ?_ ?_
         rotate_left
         ·show Act.put _ (some 72) _ = _
          simp only [Act.put, List.setIfInBounds_toArray, List.set_cons_zero, List.set_cons_succ, i64_w, i32_w]
          rfl
         refine pu_ 8 73 HT_ ?_
         refine pu_ 9 2 HT_ ?_
         refine pu_ 10 3 HT_ ?_
         refine done_ (done_of HT_.out B12x7_) ?_
         try go_wp2
         go_ret2
         exact ⟨by first | rfl | (simp [errW_none, errW_some] <;> rfl) | (simp [*, errW_none, errW_some] <;> rfl), by repeat (first | (with_reducible first | exact HB.out | apply below_alloc | apply pw_below_drewN | apply below_drew1 | refine below_set ?_ GE333.out) | exact HB.out)⟩
        ·rw [if_neg c52] at H
         exact absurd H (by simp)
    ·rw [if_neg c12] at H
     exact absurd H (by simp)
   ·rw [if_neg c10] at H
    exact absurd H (by simp)
  ·rw [if_neg c6] at H
   exact absurd H (by simp)
 ·replace c3 := Bool.eq_false_iff.mpr c3
  subst c3
  rw [if_neg (show ¬ (false = true) by decide)] at H
  simp only [Option.some.injEq, Prod.mk.injEq] at H
  obtain ⟨rfl, rfl⟩ := H
  go_enter Try.func27, Try.ntmps27
  go_wp2_with (first | ((with_reducible refine gate_dst (N := 1) rfl ?_); refine box_event ?hg (N := 1) ?hd (cs := #[.int .i64 a0_0, .int .i64 a0_1, .int .i64 a0_2, .int .i64 a0_3, .int .i64 a0_4, .int .i64 a0_5, .int .i64 a0_6, .bool a0_7, .slice A0_8 l0_8.length c0_8, .slice A0_9 l0_9.length c0_9, .string a0_10, .bool a0_11]) (t := 30) ?hr ?_; (case hd => rfl); (case hg => rfl); (case hr => first | (go_simp; done) | (go_simp; rfl)); intro gb333 hg w59 hbox hb; have n0_ := Aside0.mk (below_step B12x5_ hb); have n1_ := Aside0.mk (hbox); have n2_ := Aside0.mk ((by rw [hg]; exact (below_size B12x5_) : w.heap.size ≤ gb333)); have n3_ := Aside0.mk ((by rw [hg]; exact (below_size B12x5_) : w.heap.size ≤ gb333)); clear HB; have HB := n0_; have BK333 := n1_; have GW333 := n2_; have GE333 := n3_; clear n0_ n1_ n2_ n3_; clear hb hbox hg; obtain ⟨hcz60_0, hcz60_1, hcz60_2, hcz60_3, hcz60_4, hcz60_5, hcz60_6, hcz60_7, hcz60_8, hcz60_9, hcz60_10, hcz60_11⟩ := cl12 BK333.out; obtain ⟨hfz60_0, hfz60_1, hfz60_2, hfz60_3, hfz60_4, hfz60_5, hfz60_6, hfz60_7, hfz60_8, hfz60_9, hfz60_10, hfz60_11⟩ := fr12 BK333.out) | ((with_reducible refine gate_callee (f := 14) rfl ?_); refine goesL_ (some 10) rfl rfl Try.func14 B12x7_ rfl #[.agg #[.int .i64 a0_0, .int .i64 a0_1, .int .i64 a0_2, .int .i64 a0_3, .int .i64 a0_4, .int .i64 a0_5, .int .i64 a0_6, .bool a0_7, .slice A0_8 l0_8.length c0_8, .slice A0_9 l0_9.length c0_9, .string a0_10, .bool a0_11]] rfl B12x2_ ?_; (with_reducible refine (impl_MessageOk.calls k a0_0 a0_1 a0_2 a0_3 a0_4 a0_5 a0_6 a0_7 _ _ l0_8 _ _ l0_9 a0_10 a0_11 false _ ?side1 ?side2 ?side3 ?side4 A2.out).mono ?_); (case side1 => repeat (first | exact (Kd.C_below HR0_8.out HB.out) | (with_reducible refine Kd.C_alloc ?_ _) | (with_reducible refine Kd.C_drewN ?_ _) | (with_reducible refine Kd.C_drew ?_))); (case side2 => exact HC0_8.out); (case side3 => repeat (first | exact (Kd.C_below HR0_9.out HB.out) | (with_reducible refine Kd.C_alloc ?_ _) | (with_reducible refine Kd.C_drewN ?_ _) | (with_reducible refine Kd.C_drew ?_))); (case side4 => exact HC0_9.out); rintro e w61 ⟨rfl, hb⟩; refine ⟨_, rfl, ?_⟩; have n0_ := Aside0.mk (blk_below (g := gb333) (o := .cells #[.int .i64 a0_0, .int .i64 a0_1, .int .i64 a0_2, .int .i64 a0_3, .int .i64 a0_4, .int .i64 a0_5, .int .i64 a0_6, .bool a0_7, .slice A0_8 l0_8.length c0_8, .slice A0_9 l0_9.length c0_9, .string a0_10, .bool a0_11] 30 (0, 0)) B12x1_ hb); have n1_ := Aside0.mk (below_step B12x0_ hb); clear BK333; clear HB; have BK333 := n0_; have HB := n1_; clear n0_ n1_; (try clear hb); (try clear hb2); (try clear hk); (try clear hi)))
  go_ret2
  exact ⟨by first | rfl | (simp [errW_none, errW_some] <;> rfl) | (simp [*, errW_none, errW_some] <;> rfl), by repeat (first | (with_reducible first | exact HB.out | apply below_alloc | apply pw_below_drewN | apply below_drew1 | refine below_set ?_ GE333.out) | exact HB.out)⟩

end Go.Proofs.Ythgjcijcmacpmaa.QFnExactEncode
