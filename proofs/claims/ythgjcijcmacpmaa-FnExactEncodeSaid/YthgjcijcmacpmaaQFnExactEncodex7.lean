/- Functions that a law reaches, as functions of Lean, and the walks that show that the calls come to their answers: written by a program of this project out of the translation. No condition. -/
import Derived.Test.YthgjcijcmacpmaaQFnExactEncodex0
import Derived.Test.YthgjcijcmacpmaaQFnExactEncodex4
import Derived.Test.YthgjcijcmacpmaaQFnExactEncodex5
import Derived.Test.YthgjcijcmacpmaaQFnExactEncodex6
import Derived.Test.YthgjcijcmacpmaaVFnExactEncodeShort3
import Derived.Test.YthgjcijcmacpmaaVFnExactEncodeShort2
import Derived.Test.YthgjcijcmacpmaaVFnExactEncodeShort
namespace Go.Proofs.Ythgjcijcmacpmaa.QFnExactEncode
open Go.RowKit Go.Proofs.YthgjcijcmacpmaaW.PrintWords Go.Proofs.YthgjcijcmacpmaaW.PrintLast Go.Proofs.YthgjcijcmacpmaaW.PrintMore Go.Proofs.Ythgjcijcmacpmaa.Short
attribute [local go_sem] max2_int min2_int max_two min_two max_three min_three max_four min_four   -- for this text's walks alone
set_option linter.unusedVariables false
set_option linter.unusedSimpArgs false

theorem B7x0_ {p : Prop} (h : p := by repeat (first | (with_reducible first | exact HB.out | apply below_alloc | apply pw_below_drewN | apply below_drew1 | refine below_set ?_ GE215.out) | exact HB.out)) : p := h
theorem B7x1_ {p : Prop} (h : p := by first | (simp only [putAll, Act.put, List.setIfInBounds_toArray, List.set_cons_zero, List.set_cons_succ]; done) | (simp only [putAll, Act.put, List.setIfInBounds_toArray, List.set_cons_zero, List.set_cons_succ]; rfl)) : p := h
theorem B7x2_ {p : Prop} (h : p := by (with_reducible repeat (first | refine blk_drewN ?_ _ | refine blk_drew ?_ | refine blk_alloc ?_ _)); exact BK215.out) : p := h
theorem B7x3_ {p : Prop} (h : p := by (with_reducible repeat (first | apply Kd.R_alloc | apply Kd.R_drewN | apply Kd.R_drew)); exact HO219.out) : p := h
theorem B7x4_ {p : Prop} (h : p := by (try simp only [List.map_toArray, List.map_cons, List.map_nil]); first | done | rfl | (simp only [List.length_drop, List.length_take]; rfl)) : p := h
theorem B7x5_ {p : Prop} (h : p := by repeat (first | (with_reducible first | exact HB.out | apply below_alloc | apply pw_below_drewN | apply below_drew1) | exact HB.out)) : p := h
theorem B7x6_ {p : Prop} (h : p := by kernel_rfl) : p := h
theorem B7x7_ {p : Prop} (h : p := by first | (with_reducible assumption) | assumption) : p := h
/-! ### spec_Encode: function 26 -/
def spec_Encode.l0 : Nat → ByteArray → Int → Int → Int → Int → Int → Int → Int → Int → Bool → List (S51) → List Int → ByteArray → Bool → Option (ByteArray × Bool)
 | 0, _, _, _, _, _, _, _, _, _, _, _, _, _, _ => none
 | k + 1, x4, x5, x216000, x216001, x216002, x216003, x216004, x216005, x216006, x216007, x216008, x216009, x216010, x216011 => if x5 < (x216008.length : Int) then (if 0 ≤ x5 then ((spec_EntryText.f k 1 ((rd_T51 x216008 x5).f0) ((rd_T51 x216008 x5).f1) ((rd_T51 x216008 x5).f2)).bind fun bt228 => ((spec_l05Short.f k bt228.1).bind fun t230 => (if x4.size + t230.size ≤ 9223372036854775807 then (spec_Encode.l0 k (x4 ++ t230) (wrap64 (x5 + 1)) x216000 x216001 x216002 x216003 x216004 x216005 x216006 x216007 x216008 x216009 x216010 x216011) else (none)))) else (none)) else ((spec_ConfText.f k x216009).bind fun bt231 => ((spec_l05Short.f k bt231.1).bind fun t233 => (if x4.size + t233.size ≤ 9223372036854775807 then ((spec_l05Short.f k x216010).bind fun t234 => (if (x4 ++ t233).size + t234.size ≤ 9223372036854775807 then (some ((x4 ++ t233) ++ t234, true)) else (none))) else (none))))
def spec_Encode.f (k : Nat) (a0_0 : Int) (a0_1 : Int) (a0_2 : Int) (a0_3 : Int) (a0_4 : Int) (a0_5 : Int) (a0_6 : Int) (a0_7 : Bool) (l0_8 : List (S51)) (l0_9 : List Int) (a0_10 : ByteArray) (a0_11 : Bool) : Option (ByteArray × Bool) := (spec_MessageOk.f k a0_0 a0_1 a0_2 a0_3 a0_4 a0_5 a0_6 a0_7 l0_8 l0_9 a0_10 a0_11).bind fun t216 => (if t216 = true then ((some (([(a0_0) % 256, (a0_1) % 256, (a0_2) % 256] : List Int) : List Int)).bind fun y217 => ((spec_l01Var.f k a0_3).bind fun t220 => (if (strOfNums y217).size + t220.size ≤ 9223372036854775807 then ((spec_l01Var.f k a0_4).bind fun t221 => (if ((strOfNums y217) ++ t220).size + t221.size ≤ 9223372036854775807 then ((spec_l01Var.f k a0_5).bind fun t222 => (if (((strOfNums y217) ++ t220) ++ t221).size + t222.size ≤ 9223372036854775807 then ((spec_l01Var.f k a0_6).bind fun t223 => (if ((((strOfNums y217) ++ t220) ++ t221) ++ t222).size + t223.size ≤ 9223372036854775807 then ((spec_l17Flag.f a0_7).bind fun t224 => (if (((((strOfNums y217) ++ t220) ++ t221) ++ t222) ++ t223).size + t224.size ≤ 9223372036854775807 then ((spec_l17Flag.f a0_11).bind fun t225 => (if ((((((strOfNums y217) ++ t220) ++ t221) ++ t222) ++ t223) ++ t224).size + t225.size ≤ 9223372036854775807 then ((spec_l01Var.f k (l0_8.length : Int)).bind fun t226 => (if (((((((strOfNums y217) ++ t220) ++ t221) ++ t222) ++ t223) ++ t224) ++ t225).size + t226.size ≤ 9223372036854775807 then (spec_Encode.l0 k ((((((((strOfNums y217) ++ t220) ++ t221) ++ t222) ++ t223) ++ t224) ++ t225) ++ t226) 0 a0_0 a0_1 a0_2 a0_3 a0_4 a0_5 a0_6 a0_7 l0_8 l0_9 a0_10 a0_11) else (none))) else (none))) else (none))) else (none))) else (none))) else (none))) else (none)))) else (some ((⟨#[]⟩ : ByteArray), false)))
theorem spec_Encode.mono_l : ∀ k, (∀ y0 y1 y2 y3 y4 y5 y6 y7 y8 y9 y10 y11 y12 y13, LeO (spec_Encode.l0 k y0 y1 y2 y3 y4 y5 y6 y7 y8 y9 y10 y11 y12 y13) (spec_Encode.l0 (k + 1) y0 y1 y2 y3 y4 y5 y6 y7 y8 y9 y10 y11 y12 y13))
 | 0 => fun _ _ _ _ _ _ _ _ _ _ _ _ _ _ r h => by simp [spec_Encode.l0] at h
 | k + 1 => by
  have ih0 := spec_Encode.mono_l k
  ·intro y0 y1 y2 y3 y4 y5 y6 y7 y8 y9 y10 y11 y12 y13
   unfold spec_Encode.l0
   repeat' first
   | (with_reducible exact ih0 _ _ _ _ _ _ _ _ _ _ _ _ _ _)
   | (with_reducible exact spec_ConfText.mono _ _)
   | (with_reducible exact spec_EntryText.mono _ _ _ _ _)
   | (with_reducible exact spec_MessageOk.mono _ _ _ _ _ _ _ _ _ _ _ _ _)
   | (with_reducible exact spec_l01Var.mono _ _)
   | (with_reducible exact spec_l05Short.mono _ _)
   | (with_reducible exact LeO.refl _)
   | (with_reducible exact LeO.none _)
   | (with_reducible refine LeO.ite ?_ ?_)
   | (with_reducible refine LeO.bind ?_ (fun _ => ?_))
   | exact ih0 _ _ _ _ _ _ _ _ _ _ _ _ _ _
   | exact spec_ConfText.mono _ _
   | exact spec_EntryText.mono _ _ _ _ _
   | exact spec_MessageOk.mono _ _ _ _ _ _ _ _ _ _ _ _ _
   | exact spec_l01Var.mono _ _
   | exact spec_l05Short.mono _ _
   | exact LeO.none _
   | refine LeO.ite ?_ ?_
   | refine LeO.bind ?_ (fun _ => ?_)
theorem spec_Encode.mono : ∀ a0 a1 a2 a3 a4 a5 a6 a7 a8 a9 a10 a11 k, LeO (spec_Encode.f k a0 a1 a2 a3 a4 a5 a6 a7 a8 a9 a10 a11) (spec_Encode.f (k + 1) a0 a1 a2 a3 a4 a5 a6 a7 a8 a9 a10 a11) := by
 intro a0 a1 a2 a3 a4 a5 a6 a7 a8 a9 a10 a11 k
 have ih0 := spec_Encode.mono_l k
 unfold spec_Encode.f
 repeat' first
   | (with_reducible exact ih0 _ _ _ _ _ _ _ _ _ _ _ _ _ _)
   | (with_reducible exact spec_ConfText.mono _ _)
   | (with_reducible exact spec_EntryText.mono _ _ _ _ _)
   | (with_reducible exact spec_MessageOk.mono _ _ _ _ _ _ _ _ _ _ _ _ _)
   | (with_reducible exact spec_l01Var.mono _ _)
   | (with_reducible exact spec_l05Short.mono _ _)
   | (with_reducible exact LeO.refl _)
   | (with_reducible exact LeO.none _)
   | (with_reducible refine LeO.ite ?_ ?_)
   | (with_reducible refine LeO.bind ?_ (fun _ => ?_))
   | exact ih0 _ _ _ _ _ _ _ _ _ _ _ _ _ _
   | exact spec_ConfText.mono _ _
   | exact spec_EntryText.mono _ _ _ _ _
   | exact spec_MessageOk.mono _ _ _ _ _ _ _ _ _ _ _ _ _
   | exact spec_l01Var.mono _ _
   | exact spec_l05Short.mono _ _
   | exact LeO.none _
   | refine LeO.ite ?_ ?_
   | refine LeO.bind ?_ (fun _ => ?_)
def spec_Encode.T3 : Bool × List (List Nat × List Nat) := (true, [([], []), ([0], [0]), ([1], [1]), ([], []), ([3], [3]), ([4], [4]), ([], []), ([6], [6]), ([7], [7]), ([2, 5, 8], [2, 5, 8]), ([9], [9]), ([], []), ([11], [11]), ([12], [12]), ([10, 13], [10, 13]), ([], []), ([15], [15]), ([16, 13], [16]), ([14, 17], [14, 17]), ([], []), ([19], [19]), ([20, 17], [20]), ([18, 21], [18, 21]), ([], []), ([23], [23]), ([24, 21], [24]), ([22, 25], [22, 25]), ([], []), ([27], [27]), ([28, 25], [28]), ([26, 29], [26, 29]), ([], []), ([31], [31]), ([32, 29], [32]), ([30, 33], [30, 33]), ([], []), ([35], [35]), ([36], [36]), ([37, 33], [37]), ([34, 38], [34, 38]), ([39, 38, 0, 1, 2, 3, 4, 5, 6, 7, 8, 9, 10, 11, 12, 13, 14, 15, 16, 17, 18, 19, 20, 21, 22, 23, 24, 25, 26, 27, 28, 29, 30, 31, 32, 33, 34, 35, 36, 37, 38, 39], [39])])
def spec_Encode.B3 : List Nat := [0, 1, 3, 0, 8, 24, 0, 64, 192, 511, 1023, 0, 2048, 6144, 16383, 0, 32768, 112640, 262143, 0, 524288, 1816576, 4194303, 0, 8388608, 29079552, 67108863, 0, 134217728, 465287168, 1073741823, 0, 2147483648, 7444609024, 17179869183, 0, 34359738368, 103079215104, 256552712192, 549755813887, 1099511627775]
theorem spec_Encode.tab3 : rtab .any (opsOf Try.f26 3) = spec_Encode.T3 := by kernel_rfl
theorem spec_Encode.bits3 : waitsOk spec_Encode.T3.2 spec_Encode.B3 = true := by kernel_rfl
def spec_Encode.T10 : Bool × List (List Nat × List Nat) := (true, [([], []), ([], []), ([1], [1]), ([0, 2], [0, 2]), ([], []), ([4], [4]), ([5, 2], [5]), ([3, 6], [3, 6]), ([7, 6, 0, 1, 2, 3, 4, 5, 6, 7], [7]), ([8, 0, 1, 2, 3, 4, 5, 6, 7, 8], [])])
def spec_Encode.B10 : List Nat := [0, 0, 2, 7, 0, 16, 54, 127, 255, 511]
theorem spec_Encode.tab10 : rtab .any (opsOf Try.f26 10) = spec_Encode.T10 := by kernel_rfl
theorem spec_Encode.bits10 : waitsOk spec_Encode.T10.2 spec_Encode.B10 = true := by kernel_rfl
set_option maxHeartbeats 8000000 in
set_option maxRecDepth 100000 in
theorem spec_Encode.calls (k : Nat) (a0_0 : Int) (a0_1 : Int) (a0_2 : Int) (a0_3 : Int) (a0_4 : Int) (a0_5 : Int) (a0_6 : Int) (a0_7 : Bool) (A0_8 : Option Addr) (c0_8 : Nat) (l0_8 : List (S51)) (A0_9 : Option Addr) (c0_9 : Nat) (l0_9 : List Int) (a0_10 : ByteArray) (a0_11 : Bool) (r1 : ByteArray) (r2 : Bool) (w : World) (hr0_8 : Kd.C k51 w A0_8 l0_8.length l0_8) (hc0_8 : l0_8.length ≤ c0_8) (hr0_9 : Kd.C (Kd.int .i64) w A0_9 l0_9.length l0_9) (hc0_9 : l0_9.length ≤ c0_9) (h : spec_Encode.f k a0_0 a0_1 a0_2 a0_3 a0_4 a0_5 a0_6 a0_7 l0_8 l0_9 a0_10 a0_11 = some (r1, r2)) :
  Calls Try.prog 26 #[.agg #[.int .i64 a0_0, .int .i64 a0_1, .int .i64 a0_2, .int .i64 a0_3, .int .i64 a0_4, .int .i64 a0_5, .int .i64 a0_6, .bool a0_7, .slice A0_8 l0_8.length c0_8, .slice A0_9 l0_9.length c0_9, .string a0_10, .bool a0_11]] w fun e w' => e = .returned (.tuple #[.string r1, .bool r2]) ∧ Below w.heap.size w w' := by
 have hu30 := Try.underlying30
 have hu51 := Try.underlying51
 have HR0_8 := Aside0.mk hr0_8
 have HC0_8 := Aside0.mk hc0_8
 clear hr0_8 hc0_8
 have HR0_9 := Aside0.mk hr0_9
 have HC0_9 := Aside0.mk hc0_9
 clear hr0_9 hc0_9
 have HB := Aside0.mk (Below.refl w.heap.size w)
 have H : ((spec_MessageOk.f k a0_0 a0_1 a0_2 a0_3 a0_4 a0_5 a0_6 a0_7 l0_8 l0_9 a0_10 a0_11).bind fun t216 => (if t216 = true then ((some (([(a0_0) % 256, (a0_1) % 256, (a0_2) % 256] : List Int) : List Int)).bind fun y217 => ((spec_l01Var.f k a0_3).bind fun t220 => (if (strOfNums y217).size + t220.size ≤ 9223372036854775807 then ((spec_l01Var.f k a0_4).bind fun t221 => (if ((strOfNums y217) ++ t220).size + t221.size ≤ 9223372036854775807 then ((spec_l01Var.f k a0_5).bind fun t222 => (if (((strOfNums y217) ++ t220) ++ t221).size + t222.size ≤ 9223372036854775807 then ((spec_l01Var.f k a0_6).bind fun t223 => (if ((((strOfNums y217) ++ t220) ++ t221) ++ t222).size + t223.size ≤ 9223372036854775807 then ((spec_l17Flag.f a0_7).bind fun t224 => (if (((((strOfNums y217) ++ t220) ++ t221) ++ t222) ++ t223).size + t224.size ≤ 9223372036854775807 then ((spec_l17Flag.f a0_11).bind fun t225 => (if ((((((strOfNums y217) ++ t220) ++ t221) ++ t222) ++ t223) ++ t224).size + t225.size ≤ 9223372036854775807 then ((spec_l01Var.f k (l0_8.length : Int)).bind fun t226 => (if (((((((strOfNums y217) ++ t220) ++ t221) ++ t222) ++ t223) ++ t224) ++ t225).size + t226.size ≤ 9223372036854775807 then (spec_Encode.l0 k ((((((((strOfNums y217) ++ t220) ++ t221) ++ t222) ++ t223) ++ t224) ++ t225) ++ t226) 0 a0_0 a0_1 a0_2 a0_3 a0_4 a0_5 a0_6 a0_7 l0_8 l0_9 a0_10 a0_11) else (none))) else (none))) else (none))) else (none))) else (none))) else (none))) else (none)))) else (some ((⟨#[]⟩ : ByteArray), false)))) = some (r1, r2) := h
 clear h
 replace H := Option.bind_eq_some_iff.mp H
 obtain ⟨t216, A20, H⟩ := H
 (try dsimp only at H)
 have A2 := Aside0.mk A20
 clear A20
 by_cases c3 : t216 = true
 ·subst c3
  rw [if_pos rfl] at H
  obtain ⟨y217, hy217⟩ : ∃ y_ : List Int, y_ = (([(a0_0) % 256, (a0_1) % 256, (a0_2) % 256] : List Int)) := ⟨_, rfl⟩
  replace H : ((spec_l01Var.f k a0_3).bind fun t220 => (if (strOfNums y217).size + t220.size ≤ 9223372036854775807 then ((spec_l01Var.f k a0_4).bind fun t221 => (if ((strOfNums y217) ++ t220).size + t221.size ≤ 9223372036854775807 then ((spec_l01Var.f k a0_5).bind fun t222 => (if (((strOfNums y217) ++ t220) ++ t221).size + t222.size ≤ 9223372036854775807 then ((spec_l01Var.f k a0_6).bind fun t223 => (if ((((strOfNums y217) ++ t220) ++ t221) ++ t222).size + t223.size ≤ 9223372036854775807 then ((spec_l17Flag.f a0_7).bind fun t224 => (if (((((strOfNums y217) ++ t220) ++ t221) ++ t222) ++ t223).size + t224.size ≤ 9223372036854775807 then ((spec_l17Flag.f a0_11).bind fun t225 => (if ((((((strOfNums y217) ++ t220) ++ t221) ++ t222) ++ t223) ++ t224).size + t225.size ≤ 9223372036854775807 then ((spec_l01Var.f k (l0_8.length : Int)).bind fun t226 => (if (((((((strOfNums y217) ++ t220) ++ t221) ++ t222) ++ t223) ++ t224) ++ t225).size + t226.size ≤ 9223372036854775807 then (spec_Encode.l0 k ((((((((strOfNums y217) ++ t220) ++ t221) ++ t222) ++ t223) ++ t224) ++ t225) ++ t226) 0 a0_0 a0_1 a0_2 a0_3 a0_4 a0_5 a0_6 a0_7 l0_8 l0_9 a0_10 a0_11) else (none))) else (none))) else (none))) else (none))) else (none))) else (none))) else (none))) = some (r1, r2) := by first | (rw [hy217]; with_reducible exact H) | (have H2_ := (Option.bind_some _ _).symm.trans H; rw [hy217]; with_reducible exact H2_) | (have H2_ := (Option.bind_some _ _).symm.trans H; with_reducible exact H2_) | with_reducible exact H | (rw [hy217]; exact H) | exact H
  have Ny217 := Aside0.mk hy217
  clear hy217
  replace H := Option.bind_eq_some_iff.mp H
  obtain ⟨t220, A40, H⟩ := H
  (try dsimp only at H)
  have A4 := Aside0.mk A40
  clear A40
  by_cases c5 : (strOfNums y217).size + t220.size ≤ 9223372036854775807
  ·rw [if_pos c5] at H
   have c5b0 := eq_true c5
   have c5b1 : decide ((strOfNums y217).size + t220.size ≤ 9223372036854775807) = true := decide_eq_true c5
   try have c5b2 : (9223372036854775807 < (strOfNums y217).size + t220.size) = False := eq_false (Nat.not_lt.2 c5)
   try (have c5b9 := c5b2; simp only [ByteArray.size_append] at c5b9)
   replace H := Option.bind_eq_some_iff.mp H
   obtain ⟨t221, A60, H⟩ := H
   (try dsimp only at H)
   have A6 := Aside0.mk A60
   clear A60
   by_cases c7 : ((strOfNums y217) ++ t220).size + t221.size ≤ 9223372036854775807
   ·rw [if_pos c7] at H
    have c7b0 := eq_true c7
    have c7b1 : decide (((strOfNums y217) ++ t220).size + t221.size ≤ 9223372036854775807) = true := decide_eq_true c7
    try have c7b2 : (9223372036854775807 < ((strOfNums y217) ++ t220).size + t221.size) = False := eq_false (Nat.not_lt.2 c7)
    try have c7b8 : (9223372036854775807 < (strOfNums y217).size + t220.size + t221.size) = False := eq_false (by have h_ := c7; simp only [ByteArray.size_append, ByteArray.size_extract, decide_eq_true_eq, decide_eq_false_iff_not] at *; omega)
    try (have c7b9 := c7b2; simp only [ByteArray.size_append] at c7b9)
    replace H := Option.bind_eq_some_iff.mp H
    obtain ⟨t222, A80, H⟩ := H
    (try dsimp only at H)
    have A8 := Aside0.mk A80
    clear A80
    by_cases c9 : (((strOfNums y217) ++ t220) ++ t221).size + t222.size ≤ 9223372036854775807
    ·rw [if_pos c9] at H
     have c9b0 := eq_true c9
     have c9b1 : decide ((((strOfNums y217) ++ t220) ++ t221).size + t222.size ≤ 9223372036854775807) = true := decide_eq_true c9
     try have c9b2 : (9223372036854775807 < (((strOfNums y217) ++ t220) ++ t221).size + t222.size) = False := eq_false (Nat.not_lt.2 c9)
     try have c9b8 : (9223372036854775807 < (strOfNums y217).size + t220.size + t221.size + t222.size) = False := eq_false (by have h_ := c9; simp only [ByteArray.size_append, ByteArray.size_extract, decide_eq_true_eq, decide_eq_false_iff_not] at *; omega)
     try (have c9b9 := c9b2; simp only [ByteArray.size_append] at c9b9)
     replace H := Option.bind_eq_some_iff.mp H
     obtain ⟨t223, A100, H⟩ := H
     (try dsimp only at H)
     have A10 := Aside0.mk A100
     clear A100
     by_cases c11 : ((((strOfNums y217) ++ t220) ++ t221) ++ t222).size + t223.size ≤ 9223372036854775807
     ·rw [if_pos c11] at H
      have c11b0 := eq_true c11
      have c11b1 : decide (((((strOfNums y217) ++ t220) ++ t221) ++ t222).size + t223.size ≤ 9223372036854775807) = true := decide_eq_true c11
      try have c11b2 : (9223372036854775807 < ((((strOfNums y217) ++ t220) ++ t221) ++ t222).size + t223.size) = False := eq_false (Nat.not_lt.2 c11)
      try have c11b8 : (9223372036854775807 < (strOfNums y217).size + t220.size + t221.size + t222.size + t223.size) = False := eq_false (by have h_ := c11; simp only [ByteArray.size_append, ByteArray.size_extract, decide_eq_true_eq, decide_eq_false_iff_not] at *; omega)
      try (have c11b9 := c11b2; simp only [ByteArray.size_append] at c11b9)
      replace H := Option.bind_eq_some_iff.mp H
      obtain ⟨t224, A120, H⟩ := H
      (try dsimp only at H)
      have A12 := Aside0.mk A120
      clear A120
      by_cases c13 : (((((strOfNums y217) ++ t220) ++ t221) ++ t222) ++ t223).size + t224.size ≤ 9223372036854775807
      ·rw [if_pos c13] at H
       have c13b0 := eq_true c13
       have c13b1 : decide ((((((strOfNums y217) ++ t220) ++ t221) ++ t222) ++ t223).size + t224.size ≤ 9223372036854775807) = true := decide_eq_true c13
       try have c13b2 : (9223372036854775807 < (((((strOfNums y217) ++ t220) ++ t221) ++ t222) ++ t223).size + t224.size) = False := eq_false (Nat.not_lt.2 c13)
       try have c13b8 : (9223372036854775807 < (strOfNums y217).size + t220.size + t221.size + t222.size + t223.size + t224.size) = False := eq_false (by have h_ := c13; simp only [ByteArray.size_append, ByteArray.size_extract, decide_eq_true_eq, decide_eq_false_iff_not] at *; omega)
       try (have c13b9 := c13b2; simp only [ByteArray.size_append] at c13b9)
       replace H := Option.bind_eq_some_iff.mp H
       obtain ⟨t225, A140, H⟩ := H
       (try dsimp only at H)
       have A14 := Aside0.mk A140
       clear A140
       by_cases c15 : ((((((strOfNums y217) ++ t220) ++ t221) ++ t222) ++ t223) ++ t224).size + t225.size ≤ 9223372036854775807
       ·rw [if_pos c15] at H
        have c15b0 := eq_true c15
        have c15b1 : decide (((((((strOfNums y217) ++ t220) ++ t221) ++ t222) ++ t223) ++ t224).size + t225.size ≤ 9223372036854775807) = true := decide_eq_true c15
        try have c15b2 : (9223372036854775807 < ((((((strOfNums y217) ++ t220) ++ t221) ++ t222) ++ t223) ++ t224).size + t225.size) = False := eq_false (Nat.not_lt.2 c15)
        try have c15b8 : (9223372036854775807 < (strOfNums y217).size + t220.size + t221.size + t222.size + t223.size + t224.size + t225.size) = False := eq_false (by have h_ := c15; simp only [ByteArray.size_append, ByteArray.size_extract, decide_eq_true_eq, decide_eq_false_iff_not] at *; omega)
        try (have c15b9 := c15b2; simp only [ByteArray.size_append] at c15b9)
        replace H := Option.bind_eq_some_iff.mp H
        obtain ⟨t226, A160, H⟩ := H
        (try dsimp only at H)
        have A16 := Aside0.mk A160
        clear A160
        by_cases c17 : (((((((strOfNums y217) ++ t220) ++ t221) ++ t222) ++ t223) ++ t224) ++ t225).size + t226.size ≤ 9223372036854775807
        ·rw [if_pos c17] at H
         have c17b0 := eq_true c17
         have c17b1 : decide ((((((((strOfNums y217) ++ t220) ++ t221) ++ t222) ++ t223) ++ t224) ++ t225).size + t226.size ≤ 9223372036854775807) = true := decide_eq_true c17
         try have c17b2 : (9223372036854775807 < (((((((strOfNums y217) ++ t220) ++ t221) ++ t222) ++ t223) ++ t224) ++ t225).size + t226.size) = False := eq_false (Nat.not_lt.2 c17)
         try have c17b8 : (9223372036854775807 < (strOfNums y217).size + t220.size + t221.size + t222.size + t223.size + t224.size + t225.size + t226.size) = False := eq_false (by have h_ := c17; simp only [ByteArray.size_append, ByteArray.size_extract, decide_eq_true_eq, decide_eq_false_iff_not] at *; omega)
         try (have c17b9 := c17b2; simp only [ByteArray.size_append] at c17b9)
         have H' := Aside0.mk H
         clear H
         go_enter Try.func26, Try.ntmps26
         try go_wp2_with (first | ((with_reducible refine gate_dst (N := 1) rfl ?_); refine box_event ?hg (N := 1) ?hd (cs := #[.int .i64 a0_0, .int .i64 a0_1, .int .i64 a0_2, .int .i64 a0_3, .int .i64 a0_4, .int .i64 a0_5, .int .i64 a0_6, .bool a0_7, .slice A0_8 l0_8.length c0_8, .slice A0_9 l0_9.length c0_9, .string a0_10, .bool a0_11]) (t := 30) ?hr ?_; (case hd => rfl); (case hg => rfl); (case hr => first | (go_simp; done) | (go_simp; rfl)); intro gb215 hg w18 hbox hb; have n0_ := Aside0.mk (below_step B7x5_ hb); have n1_ := Aside0.mk (hbox); have n2_ := Aside0.mk ((by rw [hg]; exact (below_size B7x5_) : w.heap.size ≤ gb215)); have n3_ := Aside0.mk ((by rw [hg]; exact (below_size B7x5_) : w.heap.size ≤ gb215)); clear HB; have HB := n0_; have BK215 := n1_; have GW215 := n2_; have GE215 := n3_; clear n0_ n1_ n2_ n3_; clear hb hbox hg; obtain ⟨hcz19_0, hcz19_1, hcz19_2, hcz19_3, hcz19_4, hcz19_5, hcz19_6, hcz19_7, hcz19_8, hcz19_9, hcz19_10, hcz19_11⟩ := cl12 BK215.out; obtain ⟨hfz19_0, hfz19_1, hfz19_2, hfz19_3, hfz19_4, hfz19_5, hfz19_6, hfz19_7, hfz19_8, hfz19_9, hfz19_10, hfz19_11⟩ := fr12 BK215.out) | ((with_reducible refine gate_callee (f := 12) rfl ?_); refine goesL_ (some 11) rfl rfl Try.func12 B7x6_ rfl #[.agg #[.int .i64 a0_0, .int .i64 a0_1, .int .i64 a0_2, .int .i64 a0_3, .int .i64 a0_4, .int .i64 a0_5, .int .i64 a0_6, .bool a0_7, .slice A0_8 l0_8.length c0_8, .slice A0_9 l0_9.length c0_9, .string a0_10, .bool a0_11]] rfl B7x4_ ?_; (with_reducible refine (spec_MessageOk.calls k a0_0 a0_1 a0_2 a0_3 a0_4 a0_5 a0_6 a0_7 _ _ l0_8 _ _ l0_9 a0_10 a0_11 true _ ?side1 ?side2 ?side3 ?side4 A2.out).mono ?_); (case side1 => repeat (first | exact (Kd.C_below HR0_8.out HB.out) | (with_reducible refine Kd.C_alloc ?_ _) | (with_reducible refine Kd.C_drewN ?_ _) | (with_reducible refine Kd.C_drew ?_))); (case side2 => exact HC0_8.out); (case side3 => repeat (first | exact (Kd.C_below HR0_9.out HB.out) | (with_reducible refine Kd.C_alloc ?_ _) | (with_reducible refine Kd.C_drewN ?_ _) | (with_reducible refine Kd.C_drew ?_))); (case side4 => exact HC0_9.out); rintro e w20 ⟨rfl, hb⟩; refine ⟨_, rfl, ?_⟩; have n0_ := Aside0.mk (blk_below (g := gb215) (o := .cells #[.int .i64 a0_0, .int .i64 a0_1, .int .i64 a0_2, .int .i64 a0_3, .int .i64 a0_4, .int .i64 a0_5, .int .i64 a0_6, .bool a0_7, .slice A0_8 l0_8.length c0_8, .slice A0_9 l0_9.length c0_9, .string a0_10, .bool a0_11] 30 (0, 0)) B7x2_ hb); have n1_ := Aside0.mk (below_step B7x0_ hb); clear BK215; clear HB; have BK215 := n0_; have HB := n1_; clear n0_ n1_; (try clear hb); (try clear hb2); (try clear hk); (try clear hi)))
         have n0_ := Aside0.mk (blk_drew BK215.out)
         have n1_ := Aside0.mk (below_drew1 HB.out)
         clear BK215
         clear HB
         have BK215 := n0_
         have HB := n1_
         clear n0_ n1_
         refine start_ (n := 41) (S := fun w' => w'.cell? ⟨gb215, 0, none⟩ = some (.int .i64 a0_0) ∧ w'.cell? ⟨gb215, 1, none⟩ = some (.int .i64 a0_1) ∧ w'.cell? ⟨gb215, 2, none⟩ = some (.int .i64 a0_2) ∧ w'.cell? ⟨gb215, 3, none⟩ = some (.int .i64 a0_3) ∧ w'.cell? ⟨gb215, 4, none⟩ = some (.int .i64 a0_4) ∧ w'.cell? ⟨gb215, 5, none⟩ = some (.int .i64 a0_5) ∧ w'.cell? ⟨gb215, 6, none⟩ = some (.int .i64 a0_6) ∧ w'.cell? ⟨gb215, 7, none⟩ = some (.bool a0_7) ∧ w'.cell? ⟨gb215, 8, none⟩ = some (.slice A0_8 l0_8.length c0_8) ∧ w'.cell? ⟨gb215, 9, none⟩ = some (.slice A0_9 l0_9.length c0_9) ∧ w'.cell? ⟨gb215, 10, none⟩ = some (.string a0_10) ∧ w'.cell? ⟨gb215, 11, none⟩ = some (.bool a0_11)) (ds := []) #[false, false, false, false, false, false, false, false, false, false, false, false, false, false, false, false, false, false, false, false, false, false, false, false, false, false, false, false, false, false, false, false, false, false, false, false, false, false, false, false, false] B7x6_ rfl rfl ⟨(blk_cell BK215.out 0).trans rfl, (blk_cell BK215.out 1).trans rfl, (blk_cell BK215.out 2).trans rfl, (blk_cell BK215.out 3).trans rfl, (blk_cell BK215.out 4).trans rfl, (blk_cell BK215.out 5).trans rfl, (blk_cell BK215.out 6).trans rfl, (blk_cell BK215.out 7).trans rfl, (blk_cell BK215.out 8).trans rfl, (blk_cell BK215.out 9).trans rfl, (blk_cell BK215.out 10).trans rfl, (blk_cell BK215.out 11).trans rfl⟩ (fun hHeld => ?_); refine with_tabW spec_Encode.tab3 spec_Encode.bits3 (fun HT_ HW_ => ?_)
         generalize w20.drew = w21 at BK215 HB hHeld ⊢
         refine pu_ 0 13 HT_ ?_
         refine pu_ 3 16 HT_ ?_
         refine pu_ 6 19 HT_ ?_
         refine pu_ 11 24 HT_ ?_
         refine pu_ 15 28 HT_ ?_
         refine pu_ 19 32 HT_ ?_
         refine pu_ 23 36 HT_ ?_
         refine pu_ 27 40 HT_ ?_
         refine pu_ 31 44 HT_ ?_
         refine pu_ 35 48 HT_ ?_
         refine ta_ 1 14 HT_ HW_ hHeld ?_
         refine pu_ 2 15 HT_ ?_
         refine ta_ 4 17 HT_ HW_ hHeld ?_
         refine pu_ 5 18 HT_ ?_
         refine ta_ 7 20 HT_ HW_ hHeld ?_
         refine pu_ 8 21 HT_ ?_
         refine ta_ 12 25 HT_ HW_ hHeld ?_
         refine ta_ 16 29 HT_ HW_ hHeld ?_
         refine ta_ 20 33 HT_ HW_ hHeld ?_
         refine ta_ 24 37 HT_ HW_ hHeld ?_
         refine ta_ 28 41 HT_ HW_ hHeld ?_
         refine ta_ 32 45 HT_ HW_ hHeld ?_
         refine ta_ 36 49 HT_ HW_ hHeld ?_
         refine pu_ 37 50 HT_ ?_
         refine join_ (σ := Value) 2 #[true, true, true, true, true, true, true, true, true, true, true, true, true, true, true, true, true, true, true, true, true, true, true, true, true, true, true, true, true, true, true, true, true, true, true, true, true, true, true, false, false] (fun s_ => [(22, s_), (23, .string (strOfNums y217)), (26, .string t220), (30, .string t221), (34, .string t222), (38, .string t223), (42, .string t224), (46, .string t225), (51, .string t226), (27, .string ((strOfNums y217) ++ t220)), (31, .string (((strOfNums y217) ++ t220) ++ t221)), (35, .string ((((strOfNums y217) ++ t220) ++ t221) ++ t222)), (39, .string (((((strOfNums y217) ++ t220) ++ t221) ++ t222) ++ t223)), (43, .string ((((((strOfNums y217) ++ t220) ++ t221) ++ t222) ++ t223) ++ t224)), (47, .string (((((((strOfNums y217) ++ t220) ++ t221) ++ t222) ++ t223) ++ t224) ++ t225))]) (fun s_ w' => (w'.cell? ⟨gb215, 0, none⟩ = some (.int .i64 a0_0) ∧ w'.cell? ⟨gb215, 1, none⟩ = some (.int .i64 a0_1) ∧ w'.cell? ⟨gb215, 2, none⟩ = some (.int .i64 a0_2) ∧ w'.cell? ⟨gb215, 3, none⟩ = some (.int .i64 a0_3) ∧ w'.cell? ⟨gb215, 4, none⟩ = some (.int .i64 a0_4) ∧ w'.cell? ⟨gb215, 5, none⟩ = some (.int .i64 a0_5) ∧ w'.cell? ⟨gb215, 6, none⟩ = some (.int .i64 a0_6) ∧ w'.cell? ⟨gb215, 7, none⟩ = some (.bool a0_7) ∧ w'.cell? ⟨gb215, 8, none⟩ = some (.slice A0_8 l0_8.length c0_8) ∧ w'.cell? ⟨gb215, 9, none⟩ = some (.slice A0_9 l0_9.length c0_9) ∧ w'.cell? ⟨gb215, 10, none⟩ = some (.string a0_10) ∧ w'.cell? ⟨gb215, 11, none⟩ = some (.bool a0_11)) ∧ (Kd.R (Kd.int .u8) 5 w' w.heap.size (fun _ => True) s_ y217) ∧ (w'.heap[gb215]? = some (.cells #[.int .i64 a0_0, .int .i64 a0_1, .int .i64 a0_2, .int .i64 a0_3, .int .i64 a0_4, .int .i64 a0_5, .int .i64 a0_6, .bool a0_7, .slice A0_8 l0_8.length c0_8, .slice A0_9 l0_9.length c0_9, .string a0_10, .bool a0_11] 30 (0, 0))) ∧ (Below w.heap.size w w')) ?_ ?_
         rotate_left
         ·intro hJ9_10_13_17_21_25_29_33_38
          refine join_ (σ := Value) 3 #[true, true, true, true, true, true, true, true, true, true, true, true, true, true, true, true, true, true, true, true, true, true, true, true, true, true, true, true, true, true, true, true, true, true, true, true, true, true, false, false, false] (fun s_ => [(22, s_), (23, .string (strOfNums y217)), (26, .string t220), (30, .string t221), (34, .string t222), (38, .string t223), (42, .string t224), (46, .string t225), (27, .string ((strOfNums y217) ++ t220)), (31, .string (((strOfNums y217) ++ t220) ++ t221)), (35, .string ((((strOfNums y217) ++ t220) ++ t221) ++ t222)), (39, .string (((((strOfNums y217) ++ t220) ++ t221) ++ t222) ++ t223)), (43, .string ((((((strOfNums y217) ++ t220) ++ t221) ++ t222) ++ t223) ++ t224)), (47, .string (((((((strOfNums y217) ++ t220) ++ t221) ++ t222) ++ t223) ++ t224) ++ t225))]) (fun s_ w' => (w'.cell? ⟨gb215, 0, none⟩ = some (.int .i64 a0_0) ∧ w'.cell? ⟨gb215, 1, none⟩ = some (.int .i64 a0_1) ∧ w'.cell? ⟨gb215, 2, none⟩ = some (.int .i64 a0_2) ∧ w'.cell? ⟨gb215, 3, none⟩ = some (.int .i64 a0_3) ∧ w'.cell? ⟨gb215, 4, none⟩ = some (.int .i64 a0_4) ∧ w'.cell? ⟨gb215, 5, none⟩ = some (.int .i64 a0_5) ∧ w'.cell? ⟨gb215, 6, none⟩ = some (.int .i64 a0_6) ∧ w'.cell? ⟨gb215, 7, none⟩ = some (.bool a0_7) ∧ w'.cell? ⟨gb215, 8, none⟩ = some (.slice A0_8 l0_8.length c0_8) ∧ w'.cell? ⟨gb215, 9, none⟩ = some (.slice A0_9 l0_9.length c0_9) ∧ w'.cell? ⟨gb215, 10, none⟩ = some (.string a0_10) ∧ w'.cell? ⟨gb215, 11, none⟩ = some (.bool a0_11)) ∧ (Kd.R (Kd.int .u8) 5 w' w.heap.size (fun _ => True) s_ y217) ∧ (w'.heap[gb215]? = some (.cells #[.int .i64 a0_0, .int .i64 a0_1, .int .i64 a0_2, .int .i64 a0_3, .int .i64 a0_4, .int .i64 a0_5, .int .i64 a0_6, .bool a0_7, .slice A0_8 l0_8.length c0_8, .slice A0_9 l0_9.length c0_9, .string a0_10, .bool a0_11] 30 (0, 0))) ∧ (Below w.heap.size w w')) ?_ ?_
          rotate_left
          ·intro hJ9_10_13_17_21_25_29_33
           refine join_ (σ := Value) 9 #[true, true, true, true, true, true, true, true, true, true, false, true, true, true, false, true, true, true, false, true, true, true, false, true, true, true, false, true, true, true, false, true, true, true, false, true, true, true, true, false, false] (fun s_ => [(22, s_), (26, .string t220), (30, .string t221), (34, .string t222), (38, .string t223), (42, .string t224), (46, .string t225), (51, .string t226)]) (fun s_ w' => (w'.cell? ⟨gb215, 0, none⟩ = some (.int .i64 a0_0) ∧ w'.cell? ⟨gb215, 1, none⟩ = some (.int .i64 a0_1) ∧ w'.cell? ⟨gb215, 2, none⟩ = some (.int .i64 a0_2) ∧ w'.cell? ⟨gb215, 3, none⟩ = some (.int .i64 a0_3) ∧ w'.cell? ⟨gb215, 4, none⟩ = some (.int .i64 a0_4) ∧ w'.cell? ⟨gb215, 5, none⟩ = some (.int .i64 a0_5) ∧ w'.cell? ⟨gb215, 6, none⟩ = some (.int .i64 a0_6) ∧ w'.cell? ⟨gb215, 7, none⟩ = some (.bool a0_7) ∧ w'.cell? ⟨gb215, 8, none⟩ = some (.slice A0_8 l0_8.length c0_8) ∧ w'.cell? ⟨gb215, 9, none⟩ = some (.slice A0_9 l0_9.length c0_9) ∧ w'.cell? ⟨gb215, 10, none⟩ = some (.string a0_10) ∧ w'.cell? ⟨gb215, 11, none⟩ = some (.bool a0_11)) ∧ (Kd.R (Kd.int .u8) 5 w' w.heap.size (fun _ => True) s_ y217) ∧ (w'.heap[gb215]? = some (.cells #[.int .i64 a0_0, .int .i64 a0_1, .int .i64 a0_2, .int .i64 a0_3, .int .i64 a0_4, .int .i64 a0_5, .int .i64 a0_6, .bool a0_7, .slice A0_8 l0_8.length c0_8, .slice A0_9 l0_9.length c0_9, .string a0_10, .bool a0_11] 30 (0, 0))) ∧ (Below w.heap.size w w')) ?_ ?_
           rotate_left
           ·intro hJ9_13_17_21_25_29_33_38
            refine join_ (σ := Value) 5 #[true, true, true, true, true, true, true, true, true, true, true, true, true, true, true, true, true, true, true, true, true, true, true, true, true, true, true, true, true, true, true, true, true, false, false, true, true, true, false, false, false] (fun s_ => [(22, s_), (23, .string (strOfNums y217)), (26, .string t220), (30, .string t221), (34, .string t222), (38, .string t223), (42, .string t224), (27, .string ((strOfNums y217) ++ t220)), (31, .string (((strOfNums y217) ++ t220) ++ t221)), (35, .string ((((strOfNums y217) ++ t220) ++ t221) ++ t222)), (39, .string (((((strOfNums y217) ++ t220) ++ t221) ++ t222) ++ t223)), (43, .string ((((((strOfNums y217) ++ t220) ++ t221) ++ t222) ++ t223) ++ t224))]) (fun s_ w' => (w'.cell? ⟨gb215, 0, none⟩ = some (.int .i64 a0_0) ∧ w'.cell? ⟨gb215, 1, none⟩ = some (.int .i64 a0_1) ∧ w'.cell? ⟨gb215, 2, none⟩ = some (.int .i64 a0_2) ∧ w'.cell? ⟨gb215, 3, none⟩ = some (.int .i64 a0_3) ∧ w'.cell? ⟨gb215, 4, none⟩ = some (.int .i64 a0_4) ∧ w'.cell? ⟨gb215, 5, none⟩ = some (.int .i64 a0_5) ∧ w'.cell? ⟨gb215, 6, none⟩ = some (.int .i64 a0_6) ∧ w'.cell? ⟨gb215, 7, none⟩ = some (.bool a0_7) ∧ w'.cell? ⟨gb215, 8, none⟩ = some (.slice A0_8 l0_8.length c0_8) ∧ w'.cell? ⟨gb215, 9, none⟩ = some (.slice A0_9 l0_9.length c0_9) ∧ w'.cell? ⟨gb215, 10, none⟩ = some (.string a0_10) ∧ w'.cell? ⟨gb215, 11, none⟩ = some (.bool a0_11)) ∧ (Kd.R (Kd.int .u8) 5 w' w.heap.size (fun _ => True) s_ y217) ∧ (w'.heap[gb215]? = some (.cells #[.int .i64 a0_0, .int .i64 a0_1, .int .i64 a0_2, .int .i64 a0_3, .int .i64 a0_4, .int .i64 a0_5, .int .i64 a0_6, .bool a0_7, .slice A0_8 l0_8.length c0_8, .slice A0_9 l0_9.length c0_9, .string a0_10, .bool a0_11] 30 (0, 0))) ∧ (Below w.heap.size w w')) ?_ ?_
            rotate_left
            ·intro hJ9_10_13_17_21_25_29
             refine join_ (σ := Value) 10 #[true, true, true, true, true, true, true, true, true, true, false, true, true, true, false, true, true, true, false, true, true, true, false, true, true, true, false, true, true, true, false, true, true, true, false, true, true, true, false, false, false] (fun s_ => [(22, s_), (26, .string t220), (30, .string t221), (34, .string t222), (38, .string t223), (42, .string t224), (46, .string t225)]) (fun s_ w' => (w'.cell? ⟨gb215, 0, none⟩ = some (.int .i64 a0_0) ∧ w'.cell? ⟨gb215, 1, none⟩ = some (.int .i64 a0_1) ∧ w'.cell? ⟨gb215, 2, none⟩ = some (.int .i64 a0_2) ∧ w'.cell? ⟨gb215, 3, none⟩ = some (.int .i64 a0_3) ∧ w'.cell? ⟨gb215, 4, none⟩ = some (.int .i64 a0_4) ∧ w'.cell? ⟨gb215, 5, none⟩ = some (.int .i64 a0_5) ∧ w'.cell? ⟨gb215, 6, none⟩ = some (.int .i64 a0_6) ∧ w'.cell? ⟨gb215, 7, none⟩ = some (.bool a0_7) ∧ w'.cell? ⟨gb215, 8, none⟩ = some (.slice A0_8 l0_8.length c0_8) ∧ w'.cell? ⟨gb215, 9, none⟩ = some (.slice A0_9 l0_9.length c0_9) ∧ w'.cell? ⟨gb215, 10, none⟩ = some (.string a0_10) ∧ w'.cell? ⟨gb215, 11, none⟩ = some (.bool a0_11)) ∧ (Kd.R (Kd.int .u8) 5 w' w.heap.size (fun _ => True) s_ y217) ∧ (w'.heap[gb215]? = some (.cells #[.int .i64 a0_0, .int .i64 a0_1, .int .i64 a0_2, .int .i64 a0_3, .int .i64 a0_4, .int .i64 a0_5, .int .i64 a0_6, .bool a0_7, .slice A0_8 l0_8.length c0_8, .slice A0_9 l0_9.length c0_9, .string a0_10, .bool a0_11] 30 (0, 0))) ∧ (Below w.heap.size w w')) ?_ ?_
             rotate_left
             ·intro hJ9_13_17_21_25_29_33
              refine join_ (σ := Unit) 10 #[true, true, true, true, true, true, true, true, true, false, false, true, true, true, false, true, true, true, false, true, true, true, false, true, true, true, false, true, true, true, false, true, true, true, false, true, true, true, true, false, false] (fun s_ => [(26, .string t220), (30, .string t221), (34, .string t222), (38, .string t223), (42, .string t224), (46, .string t225), (51, .string t226)]) (fun s_ w' => (w'.cell? ⟨gb215, 0, none⟩ = some (.int .i64 a0_0) ∧ w'.cell? ⟨gb215, 1, none⟩ = some (.int .i64 a0_1) ∧ w'.cell? ⟨gb215, 2, none⟩ = some (.int .i64 a0_2) ∧ w'.cell? ⟨gb215, 3, none⟩ = some (.int .i64 a0_3) ∧ w'.cell? ⟨gb215, 4, none⟩ = some (.int .i64 a0_4) ∧ w'.cell? ⟨gb215, 5, none⟩ = some (.int .i64 a0_5) ∧ w'.cell? ⟨gb215, 6, none⟩ = some (.int .i64 a0_6) ∧ w'.cell? ⟨gb215, 7, none⟩ = some (.bool a0_7) ∧ w'.cell? ⟨gb215, 8, none⟩ = some (.slice A0_8 l0_8.length c0_8) ∧ w'.cell? ⟨gb215, 9, none⟩ = some (.slice A0_9 l0_9.length c0_9) ∧ w'.cell? ⟨gb215, 10, none⟩ = some (.string a0_10) ∧ w'.cell? ⟨gb215, 11, none⟩ = some (.bool a0_11)) ∧ (w'.heap[gb215]? = some (.cells #[.int .i64 a0_0, .int .i64 a0_1, .int .i64 a0_2, .int .i64 a0_3, .int .i64 a0_4, .int .i64 a0_5, .int .i64 a0_6, .bool a0_7, .slice A0_8 l0_8.length c0_8, .slice A0_9 l0_9.length c0_9, .string a0_10, .bool a0_11] 30 (0, 0))) ∧ (Below w.heap.size w w')) ?_ ?_
              rotate_left
              ·intro hJ13_17_21_25_29_33_38
               refine join_ (σ := Value) 7 #[true, true, true, true, true, true, true, true, true, true, true, true, true, true, true, true, true, true, true, true, true, true, true, true, true, true, true, true, true, false, false, true, true, false, false, true, true, true, false, false, false] (fun s_ => [(22, s_), (23, .string (strOfNums y217)), (26, .string t220), (30, .string t221), (34, .string t222), (38, .string t223), (27, .string ((strOfNums y217) ++ t220)), (31, .string (((strOfNums y217) ++ t220) ++ t221)), (35, .string ((((strOfNums y217) ++ t220) ++ t221) ++ t222)), (39, .string (((((strOfNums y217) ++ t220) ++ t221) ++ t222) ++ t223))]) (fun s_ w' => (w'.cell? ⟨gb215, 0, none⟩ = some (.int .i64 a0_0) ∧ w'.cell? ⟨gb215, 1, none⟩ = some (.int .i64 a0_1) ∧ w'.cell? ⟨gb215, 2, none⟩ = some (.int .i64 a0_2) ∧ w'.cell? ⟨gb215, 3, none⟩ = some (.int .i64 a0_3) ∧ w'.cell? ⟨gb215, 4, none⟩ = some (.int .i64 a0_4) ∧ w'.cell? ⟨gb215, 5, none⟩ = some (.int .i64 a0_5) ∧ w'.cell? ⟨gb215, 6, none⟩ = some (.int .i64 a0_6) ∧ w'.cell? ⟨gb215, 7, none⟩ = some (.bool a0_7) ∧ w'.cell? ⟨gb215, 8, none⟩ = some (.slice A0_8 l0_8.length c0_8) ∧ w'.cell? ⟨gb215, 9, none⟩ = some (.slice A0_9 l0_9.length c0_9) ∧ w'.cell? ⟨gb215, 10, none⟩ = some (.string a0_10) ∧ w'.cell? ⟨gb215, 11, none⟩ = some (.bool a0_11)) ∧ (Kd.R (Kd.int .u8) 5 w' w.heap.size (fun _ => True) s_ y217) ∧ (w'.heap[gb215]? = some (.cells #[.int .i64 a0_0, .int .i64 a0_1, .int .i64 a0_2, .int .i64 a0_3, .int .i64 a0_4, .int .i64 a0_5, .int .i64 a0_6, .bool a0_7, .slice A0_8 l0_8.length c0_8, .slice A0_9 l0_9.length c0_9, .string a0_10, .bool a0_11] 30 (0, 0))) ∧ (Below w.heap.size w w')) ?_ ?_
               rotate_left
               ·intro hJ9_10_13_17_21_25
                refine join_ (σ := Value) 11 #[true, true, true, true, true, true, true, true, true, true, false, true, true, true, false, true, true, true, false, true, true, true, false, true, true, true, false, true, true, true, false, true, true, false, false, true, true, true, false, false, false] (fun s_ => [(22, s_), (26, .string t220), (30, .string t221), (34, .string t222), (38, .string t223), (42, .string t224)]) (fun s_ w' => (w'.cell? ⟨gb215, 0, none⟩ = some (.int .i64 a0_0) ∧ w'.cell? ⟨gb215, 1, none⟩ = some (.int .i64 a0_1) ∧ w'.cell? ⟨gb215, 2, none⟩ = some (.int .i64 a0_2) ∧ w'.cell? ⟨gb215, 3, none⟩ = some (.int .i64 a0_3) ∧ w'.cell? ⟨gb215, 4, none⟩ = some (.int .i64 a0_4) ∧ w'.cell? ⟨gb215, 5, none⟩ = some (.int .i64 a0_5) ∧ w'.cell? ⟨gb215, 6, none⟩ = some (.int .i64 a0_6) ∧ w'.cell? ⟨gb215, 7, none⟩ = some (.bool a0_7) ∧ w'.cell? ⟨gb215, 8, none⟩ = some (.slice A0_8 l0_8.length c0_8) ∧ w'.cell? ⟨gb215, 9, none⟩ = some (.slice A0_9 l0_9.length c0_9) ∧ w'.cell? ⟨gb215, 10, none⟩ = some (.string a0_10) ∧ w'.cell? ⟨gb215, 11, none⟩ = some (.bool a0_11)) ∧ (Kd.R (Kd.int .u8) 5 w' w.heap.size (fun _ => True) s_ y217) ∧ (w'.heap[gb215]? = some (.cells #[.int .i64 a0_0, .int .i64 a0_1, .int .i64 a0_2, .int .i64 a0_3, .int .i64 a0_4, .int .i64 a0_5, .int .i64 a0_6, .bool a0_7, .slice A0_8 l0_8.length c0_8, .slice A0_9 l0_9.length c0_9, .string a0_10, .bool a0_11] 30 (0, 0))) ∧ (Below w.heap.size w w')) ?_ ?_
                rotate_left
                ·intro hJ9_13_17_21_25_29
                 refine join_ (σ := Unit) 11 #[true, true, true, true, true, true, true, true, true, false, false, true, true, true, false, true, true, true, false, true, true, true, false, true, true, true, false, true, true, true, false, true, true, true, false, true, true, true, false, false, false] (fun s_ => [(26, .string t220), (30, .string t221), (34, .string t222), (38, .string t223), (42, .string t224), (46, .string t225)]) (fun s_ w' => (w'.cell? ⟨gb215, 0, none⟩ = some (.int .i64 a0_0) ∧ w'.cell? ⟨gb215, 1, none⟩ = some (.int .i64 a0_1) ∧ w'.cell? ⟨gb215, 2, none⟩ = some (.int .i64 a0_2) ∧ w'.cell? ⟨gb215, 3, none⟩ = some (.int .i64 a0_3) ∧ w'.cell? ⟨gb215, 4, none⟩ = some (.int .i64 a0_4) ∧ w'.cell? ⟨gb215, 5, none⟩ = some (.int .i64 a0_5) ∧ w'.cell? ⟨gb215, 6, none⟩ = some (.int .i64 a0_6) ∧ w'.cell? ⟨gb215, 7, none⟩ = some (.bool a0_7) ∧ w'.cell? ⟨gb215, 8, none⟩ = some (.slice A0_8 l0_8.length c0_8) ∧ w'.cell? ⟨gb215, 9, none⟩ = some (.slice A0_9 l0_9.length c0_9) ∧ w'.cell? ⟨gb215, 10, none⟩ = some (.string a0_10) ∧ w'.cell? ⟨gb215, 11, none⟩ = some (.bool a0_11)) ∧ (w'.heap[gb215]? = some (.cells #[.int .i64 a0_0, .int .i64 a0_1, .int .i64 a0_2, .int .i64 a0_3, .int .i64 a0_4, .int .i64 a0_5, .int .i64 a0_6, .bool a0_7, .slice A0_8 l0_8.length c0_8, .slice A0_9 l0_9.length c0_9, .string a0_10, .bool a0_11] 30 (0, 0))) ∧ (Below w.heap.size w w')) ?_ ?_
                 rotate_left
                 ·intro hJ13_17_21_25_29_33
                  refine join_ (σ := Value) 9 #[true, true, true, true, true, true, true, true, true, true, true, true, true, true, true, true, true, true, true, true, true, true, true, true, true, false, false, true, true, false, false, true, true, false, false, true, true, true, false, false, false] (fun s_ => [(22, s_), (23, .string (strOfNums y217)), (26, .string t220), (30, .string t221), (34, .string t222), (27, .string ((strOfNums y217) ++ t220)), (31, .string (((strOfNums y217) ++ t220) ++ t221)), (35, .string ((((strOfNums y217) ++ t220) ++ t221) ++ t222))]) (fun s_ w' => (w'.cell? ⟨gb215, 0, none⟩ = some (.int .i64 a0_0) ∧ w'.cell? ⟨gb215, 1, none⟩ = some (.int .i64 a0_1) ∧ w'.cell? ⟨gb215, 2, none⟩ = some (.int .i64 a0_2) ∧ w'.cell? ⟨gb215, 3, none⟩ = some (.int .i64 a0_3) ∧ w'.cell? ⟨gb215, 4, none⟩ = some (.int .i64 a0_4) ∧ w'.cell? ⟨gb215, 5, none⟩ = some (.int .i64 a0_5) ∧ w'.cell? ⟨gb215, 6, none⟩ = some (.int .i64 a0_6) ∧ w'.cell? ⟨gb215, 7, none⟩ = some (.bool a0_7) ∧ w'.cell? ⟨gb215, 8, none⟩ = some (.slice A0_8 l0_8.length c0_8) ∧ w'.cell? ⟨gb215, 9, none⟩ = some (.slice A0_9 l0_9.length c0_9) ∧ w'.cell? ⟨gb215, 10, none⟩ = some (.string a0_10) ∧ w'.cell? ⟨gb215, 11, none⟩ = some (.bool a0_11)) ∧ (Kd.R (Kd.int .u8) 5 w' w.heap.size (fun _ => True) s_ y217) ∧ (w'.heap[gb215]? = some (.cells #[.int .i64 a0_0, .int .i64 a0_1, .int .i64 a0_2, .int .i64 a0_3, .int .i64 a0_4, .int .i64 a0_5, .int .i64 a0_6, .bool a0_7, .slice A0_8 l0_8.length c0_8, .slice A0_9 l0_9.length c0_9, .string a0_10, .bool a0_11] 30 (0, 0))) ∧ (Below w.heap.size w w')) ?_ ?_
                  rotate_left
                  ·intro hJ9_10_13_17_21
                   refine join_ (σ := Value) 12 #[true, true, true, true, true, true, true, true, true, true, false, true, true, true, false, true, true, true, false, true, true, true, false, true, true, true, false, true, true, false, false, true, true, false, false, true, true, true, false, false, false] (fun s_ => [(22, s_), (26, .string t220), (30, .string t221), (34, .string t222), (38, .string t223)]) (fun s_ w' => (w'.cell? ⟨gb215, 0, none⟩ = some (.int .i64 a0_0) ∧ w'.cell? ⟨gb215, 1, none⟩ = some (.int .i64 a0_1) ∧ w'.cell? ⟨gb215, 2, none⟩ = some (.int .i64 a0_2) ∧ w'.cell? ⟨gb215, 3, none⟩ = some (.int .i64 a0_3) ∧ w'.cell? ⟨gb215, 4, none⟩ = some (.int .i64 a0_4) ∧ w'.cell? ⟨gb215, 5, none⟩ = some (.int .i64 a0_5) ∧ w'.cell? ⟨gb215, 6, none⟩ = some (.int .i64 a0_6) ∧ w'.cell? ⟨gb215, 7, none⟩ = some (.bool a0_7) ∧ w'.cell? ⟨gb215, 8, none⟩ = some (.slice A0_8 l0_8.length c0_8) ∧ w'.cell? ⟨gb215, 9, none⟩ = some (.slice A0_9 l0_9.length c0_9) ∧ w'.cell? ⟨gb215, 10, none⟩ = some (.string a0_10) ∧ w'.cell? ⟨gb215, 11, none⟩ = some (.bool a0_11)) ∧ (Kd.R (Kd.int .u8) 5 w' w.heap.size (fun _ => True) s_ y217) ∧ (w'.heap[gb215]? = some (.cells #[.int .i64 a0_0, .int .i64 a0_1, .int .i64 a0_2, .int .i64 a0_3, .int .i64 a0_4, .int .i64 a0_5, .int .i64 a0_6, .bool a0_7, .slice A0_8 l0_8.length c0_8, .slice A0_9 l0_9.length c0_9, .string a0_10, .bool a0_11] 30 (0, 0))) ∧ (Below w.heap.size w w')) ?_ ?_
                   rotate_left
                   ·intro hJ9_13_17_21_25
                    refine join_ (σ := Unit) 12 #[true, true, true, true, true, true, true, true, true, false, false, true, true, true, false, true, true, true, false, true, true, true, false, true, true, true, false, true, true, true, false, true, true, false, false, true, true, true, false, false, false] (fun s_ => [(26, .string t220), (30, .string t221), (34, .string t222), (38, .string t223), (42, .string t224)]) (fun s_ w' => (w'.cell? ⟨gb215, 0, none⟩ = some (.int .i64 a0_0) ∧ w'.cell? ⟨gb215, 1, none⟩ = some (.int .i64 a0_1) ∧ w'.cell? ⟨gb215, 2, none⟩ = some (.int .i64 a0_2) ∧ w'.cell? ⟨gb215, 3, none⟩ = some (.int .i64 a0_3) ∧ w'.cell? ⟨gb215, 4, none⟩ = some (.int .i64 a0_4) ∧ w'.cell? ⟨gb215, 5, none⟩ = some (.int .i64 a0_5) ∧ w'.cell? ⟨gb215, 6, none⟩ = some (.int .i64 a0_6) ∧ w'.cell? ⟨gb215, 7, none⟩ = some (.bool a0_7) ∧ w'.cell? ⟨gb215, 8, none⟩ = some (.slice A0_8 l0_8.length c0_8) ∧ w'.cell? ⟨gb215, 9, none⟩ = some (.slice A0_9 l0_9.length c0_9) ∧ w'.cell? ⟨gb215, 10, none⟩ = some (.string a0_10) ∧ w'.cell? ⟨gb215, 11, none⟩ = some (.bool a0_11)) ∧ (w'.heap[gb215]? = some (.cells #[.int .i64 a0_0, .int .i64 a0_1, .int .i64 a0_2, .int .i64 a0_3, .int .i64 a0_4, .int .i64 a0_5, .int .i64 a0_6, .bool a0_7, .slice A0_8 l0_8.length c0_8, .slice A0_9 l0_9.length c0_9, .string a0_10, .bool a0_11] 30 (0, 0))) ∧ (Below w.heap.size w w')) ?_ ?_
                    rotate_left
                    ·intro hJ13_17_21_25_29
                     refine join_ (σ := Value) 11 #[true, true, true, true, true, true, true, true, true, true, true, true, true, true, true, true, true, true, true, true, true, false, false, true, true, false, false, true, true, false, false, true, true, false, false, true, true, true, false, false, false] (fun s_ => [(22, s_), (23, .string (strOfNums y217)), (26, .string t220), (30, .string t221), (27, .string ((strOfNums y217) ++ t220)), (31, .string (((strOfNums y217) ++ t220) ++ t221))]) (fun s_ w' => (w'.cell? ⟨gb215, 0, none⟩ = some (.int .i64 a0_0) ∧ w'.cell? ⟨gb215, 1, none⟩ = some (.int .i64 a0_1) ∧ w'.cell? ⟨gb215, 2, none⟩ = some (.int .i64 a0_2) ∧ w'.cell? ⟨gb215, 3, none⟩ = some (.int .i64 a0_3) ∧ w'.cell? ⟨gb215, 4, none⟩ = some (.int .i64 a0_4) ∧ w'.cell? ⟨gb215, 5, none⟩ = some (.int .i64 a0_5) ∧ w'.cell? ⟨gb215, 6, none⟩ = some (.int .i64 a0_6) ∧ w'.cell? ⟨gb215, 7, none⟩ = some (.bool a0_7) ∧ w'.cell? ⟨gb215, 8, none⟩ = some (.slice A0_8 l0_8.length c0_8) ∧ w'.cell? ⟨gb215, 9, none⟩ = some (.slice A0_9 l0_9.length c0_9) ∧ w'.cell? ⟨gb215, 10, none⟩ = some (.string a0_10) ∧ w'.cell? ⟨gb215, 11, none⟩ = some (.bool a0_11)) ∧ (Kd.R (Kd.int .u8) 5 w' w.heap.size (fun _ => True) s_ y217) ∧ (w'.heap[gb215]? = some (.cells #[.int .i64 a0_0, .int .i64 a0_1, .int .i64 a0_2, .int .i64 a0_3, .int .i64 a0_4, .int .i64 a0_5, .int .i64 a0_6, .bool a0_7, .slice A0_8 l0_8.length c0_8, .slice A0_9 l0_9.length c0_9, .string a0_10, .bool a0_11] 30 (0, 0))) ∧ (Below w.heap.size w w')) ?_ ?_
                     rotate_left
                     ·intro hJ9_10_13_17
                      refine join_ (σ := Value) 13 #[true, true, true, true, true, true, true, true, true, true, false, true, true, true, false, true, true, true, false, true, true, true, false, true, true, false, false, true, true, false, false, true, true, false, false, true, true, true, false, false, false] (fun s_ => [(22, s_), (26, .string t220), (30, .string t221), (34, .string t222)]) (fun s_ w' => (w'.cell? ⟨gb215, 0, none⟩ = some (.int .i64 a0_0) ∧ w'.cell? ⟨gb215, 1, none⟩ = some (.int .i64 a0_1) ∧ w'.cell? ⟨gb215, 2, none⟩ = some (.int .i64 a0_2) ∧ w'.cell? ⟨gb215, 3, none⟩ = some (.int .i64 a0_3) ∧ w'.cell? ⟨gb215, 4, none⟩ = some (.int .i64 a0_4) ∧ w'.cell? ⟨gb215, 5, none⟩ = some (.int .i64 a0_5) ∧ w'.cell? ⟨gb215, 6, none⟩ = some (.int .i64 a0_6) ∧ w'.cell? ⟨gb215, 7, none⟩ = some (.bool a0_7) ∧ w'.cell? ⟨gb215, 8, none⟩ = some (.slice A0_8 l0_8.length c0_8) ∧ w'.cell? ⟨gb215, 9, none⟩ = some (.slice A0_9 l0_9.length c0_9) ∧ w'.cell? ⟨gb215, 10, none⟩ = some (.string a0_10) ∧ w'.cell? ⟨gb215, 11, none⟩ = some (.bool a0_11)) ∧ (Kd.R (Kd.int .u8) 5 w' w.heap.size (fun _ => True) s_ y217) ∧ (w'.heap[gb215]? = some (.cells #[.int .i64 a0_0, .int .i64 a0_1, .int .i64 a0_2, .int .i64 a0_3, .int .i64 a0_4, .int .i64 a0_5, .int .i64 a0_6, .bool a0_7, .slice A0_8 l0_8.length c0_8, .slice A0_9 l0_9.length c0_9, .string a0_10, .bool a0_11] 30 (0, 0))) ∧ (Below w.heap.size w w')) ?_ ?_
                      rotate_left
                      ·intro hJ9_13_17_21
                       refine join_ (σ := Unit) 13 #[true, true, true, true, true, true, true, true, true, false, false, true, true, true, false, true, true, true, false, true, true, true, false, true, true, true, false, true, true, false, false, true, true, false, false, true, true, true, false, false, false] (fun s_ => [(26, .string t220), (30, .string t221), (34, .string t222), (38, .string t223)]) (fun s_ w' => (w'.cell? ⟨gb215, 0, none⟩ = some (.int .i64 a0_0) ∧ w'.cell? ⟨gb215, 1, none⟩ = some (.int .i64 a0_1) ∧ w'.cell? ⟨gb215, 2, none⟩ = some (.int .i64 a0_2) ∧ w'.cell? ⟨gb215, 3, none⟩ = some (.int .i64 a0_3) ∧ w'.cell? ⟨gb215, 4, none⟩ = some (.int .i64 a0_4) ∧ w'.cell? ⟨gb215, 5, none⟩ = some (.int .i64 a0_5) ∧ w'.cell? ⟨gb215, 6, none⟩ = some (.int .i64 a0_6) ∧ w'.cell? ⟨gb215, 7, none⟩ = some (.bool a0_7) ∧ w'.cell? ⟨gb215, 8, none⟩ = some (.slice A0_8 l0_8.length c0_8) ∧ w'.cell? ⟨gb215, 9, none⟩ = some (.slice A0_9 l0_9.length c0_9) ∧ w'.cell? ⟨gb215, 10, none⟩ = some (.string a0_10) ∧ w'.cell? ⟨gb215, 11, none⟩ = some (.bool a0_11)) ∧ (w'.heap[gb215]? = some (.cells #[.int .i64 a0_0, .int .i64 a0_1, .int .i64 a0_2, .int .i64 a0_3, .int .i64 a0_4, .int .i64 a0_5, .int .i64 a0_6, .bool a0_7, .slice A0_8 l0_8.length c0_8, .slice A0_9 l0_9.length c0_9, .string a0_10, .bool a0_11] 30 (0, 0))) ∧ (Below w.heap.size w w')) ?_ ?_
                       rotate_left
                       ·intro hJ13_17_21_25
                        refine join_ (σ := Value) 13 #[true, true, true, true, true, true, true, true, true, true, true, true, true, true, true, true, true, false, false, true, true, false, false, true, true, false, false, true, true, false, false, true, true, false, false, true, true, true, false, false, false] (fun s_ => [(22, s_), (23, .string (strOfNums y217)), (26, .string t220), (27, .string ((strOfNums y217) ++ t220))]) (fun s_ w' => (w'.cell? ⟨gb215, 0, none⟩ = some (.int .i64 a0_0) ∧ w'.cell? ⟨gb215, 1, none⟩ = some (.int .i64 a0_1) ∧ w'.cell? ⟨gb215, 2, none⟩ = some (.int .i64 a0_2) ∧ w'.cell? ⟨gb215, 3, none⟩ = some (.int .i64 a0_3) ∧ w'.cell? ⟨gb215, 4, none⟩ = some (.int .i64 a0_4) ∧ w'.cell? ⟨gb215, 5, none⟩ = some (.int .i64 a0_5) ∧ w'.cell? ⟨gb215, 6, none⟩ = some (.int .i64 a0_6) ∧ w'.cell? ⟨gb215, 7, none⟩ = some (.bool a0_7) ∧ w'.cell? ⟨gb215, 8, none⟩ = some (.slice A0_8 l0_8.length c0_8) ∧ w'.cell? ⟨gb215, 9, none⟩ = some (.slice A0_9 l0_9.length c0_9) ∧ w'.cell? ⟨gb215, 10, none⟩ = some (.string a0_10) ∧ w'.cell? ⟨gb215, 11, none⟩ = some (.bool a0_11)) ∧ (Kd.R (Kd.int .u8) 5 w' w.heap.size (fun _ => True) s_ y217) ∧ (w'.heap[gb215]? = some (.cells #[.int .i64 a0_0, .int .i64 a0_1, .int .i64 a0_2, .int .i64 a0_3, .int .i64 a0_4, .int .i64 a0_5, .int .i64 a0_6, .bool a0_7, .slice A0_8 l0_8.length c0_8, .slice A0_9 l0_9.length c0_9, .string a0_10, .bool a0_11] 30 (0, 0))) ∧ (Below w.heap.size w w')) ?_ ?_
                        rotate_left
                        ·intro hJ9_10_13
                         refine join_ (σ := Value) 14 #[true, true, true, true, true, true, true, true, true, true, false, true, true, true, false, true, true, true, false, true, true, false, false, true, true, false, false, true, true, false, false, true, true, false, false, true, true, true, false, false, false] (fun s_ => [(22, s_), (26, .string t220), (30, .string t221)]) (fun s_ w' => (w'.cell? ⟨gb215, 0, none⟩ = some (.int .i64 a0_0) ∧ w'.cell? ⟨gb215, 1, none⟩ = some (.int .i64 a0_1) ∧ w'.cell? ⟨gb215, 2, none⟩ = some (.int .i64 a0_2) ∧ w'.cell? ⟨gb215, 3, none⟩ = some (.int .i64 a0_3) ∧ w'.cell? ⟨gb215, 4, none⟩ = some (.int .i64 a0_4) ∧ w'.cell? ⟨gb215, 5, none⟩ = some (.int .i64 a0_5) ∧ w'.cell? ⟨gb215, 6, none⟩ = some (.int .i64 a0_6) ∧ w'.cell? ⟨gb215, 7, none⟩ = some (.bool a0_7) ∧ w'.cell? ⟨gb215, 8, none⟩ = some (.slice A0_8 l0_8.length c0_8) ∧ w'.cell? ⟨gb215, 9, none⟩ = some (.slice A0_9 l0_9.length c0_9) ∧ w'.cell? ⟨gb215, 10, none⟩ = some (.string a0_10) ∧ w'.cell? ⟨gb215, 11, none⟩ = some (.bool a0_11)) ∧ (Kd.R (Kd.int .u8) 5 w' w.heap.size (fun _ => True) s_ y217) ∧ (w'.heap[gb215]? = some (.cells #[.int .i64 a0_0, .int .i64 a0_1, .int .i64 a0_2, .int .i64 a0_3, .int .i64 a0_4, .int .i64 a0_5, .int .i64 a0_6, .bool a0_7, .slice A0_8 l0_8.length c0_8, .slice A0_9 l0_9.length c0_9, .string a0_10, .bool a0_11] 30 (0, 0))) ∧ (Below w.heap.size w w')) ?_ ?_
                         rotate_left
                         ·intro hJ9_13_17
                          refine join_ (σ := Unit) 14 #[true, true, true, true, true, true, true, true, true, false, false, true, true, true, false, true, true, true, false, true, true, true, false, true, true, false, false, true, true, false, false, true, true, false, false, true, true, true, false, false, false] (fun s_ => [(26, .string t220), (30, .string t221), (34, .string t222)]) (fun s_ w' => (w'.cell? ⟨gb215, 0, none⟩ = some (.int .i64 a0_0) ∧ w'.cell? ⟨gb215, 1, none⟩ = some (.int .i64 a0_1) ∧ w'.cell? ⟨gb215, 2, none⟩ = some (.int .i64 a0_2) ∧ w'.cell? ⟨gb215, 3, none⟩ = some (.int .i64 a0_3) ∧ w'.cell? ⟨gb215, 4, none⟩ = some (.int .i64 a0_4) ∧ w'.cell? ⟨gb215, 5, none⟩ = some (.int .i64 a0_5) ∧ w'.cell? ⟨gb215, 6, none⟩ = some (.int .i64 a0_6) ∧ w'.cell? ⟨gb215, 7, none⟩ = some (.bool a0_7) ∧ w'.cell? ⟨gb215, 8, none⟩ = some (.slice A0_8 l0_8.length c0_8) ∧ w'.cell? ⟨gb215, 9, none⟩ = some (.slice A0_9 l0_9.length c0_9) ∧ w'.cell? ⟨gb215, 10, none⟩ = some (.string a0_10) ∧ w'.cell? ⟨gb215, 11, none⟩ = some (.bool a0_11)) ∧ (w'.heap[gb215]? = some (.cells #[.int .i64 a0_0, .int .i64 a0_1, .int .i64 a0_2, .int .i64 a0_3, .int .i64 a0_4, .int .i64 a0_5, .int .i64 a0_6, .bool a0_7, .slice A0_8 l0_8.length c0_8, .slice A0_9 l0_9.length c0_9, .string a0_10, .bool a0_11] 30 (0, 0))) ∧ (Below w.heap.size w w')) ?_ ?_
                          rotate_left
                          ·intro hJ13_17_21
                           refine join_ (σ := Value) 15 #[true, true, true, true, true, true, true, true, true, true, true, true, true, false, false, true, true, false, false, true, true, false, false, true, true, false, false, true, true, false, false, true, true, false, false, true, true, true, false, false, false] (fun s_ => [(22, s_), (23, .string (strOfNums y217))]) (fun s_ w' => (w'.cell? ⟨gb215, 0, none⟩ = some (.int .i64 a0_0) ∧ w'.cell? ⟨gb215, 1, none⟩ = some (.int .i64 a0_1) ∧ w'.cell? ⟨gb215, 2, none⟩ = some (.int .i64 a0_2) ∧ w'.cell? ⟨gb215, 3, none⟩ = some (.int .i64 a0_3) ∧ w'.cell? ⟨gb215, 4, none⟩ = some (.int .i64 a0_4) ∧ w'.cell? ⟨gb215, 5, none⟩ = some (.int .i64 a0_5) ∧ w'.cell? ⟨gb215, 6, none⟩ = some (.int .i64 a0_6) ∧ w'.cell? ⟨gb215, 7, none⟩ = some (.bool a0_7) ∧ w'.cell? ⟨gb215, 8, none⟩ = some (.slice A0_8 l0_8.length c0_8) ∧ w'.cell? ⟨gb215, 9, none⟩ = some (.slice A0_9 l0_9.length c0_9) ∧ w'.cell? ⟨gb215, 10, none⟩ = some (.string a0_10) ∧ w'.cell? ⟨gb215, 11, none⟩ = some (.bool a0_11)) ∧ (Kd.R (Kd.int .u8) 5 w' w.heap.size (fun _ => True) s_ y217) ∧ (w'.heap[gb215]? = some (.cells #[.int .i64 a0_0, .int .i64 a0_1, .int .i64 a0_2, .int .i64 a0_3, .int .i64 a0_4, .int .i64 a0_5, .int .i64 a0_6, .bool a0_7, .slice A0_8 l0_8.length c0_8, .slice A0_9 l0_9.length c0_9, .string a0_10, .bool a0_11] 30 (0, 0))) ∧ (Below w.heap.size w w')) ?_ ?_
                           rotate_left
                           ·intro hJ9_10
                            refine join_ (σ := Value) 15 #[true, true, true, true, true, true, true, true, true, true, false, true, true, true, false, true, true, false, false, true, true, false, false, true, true, false, false, true, true, false, false, true, true, false, false, true, true, true, false, false, false] (fun s_ => [(22, s_), (26, .string t220)]) (fun s_ w' => (w'.cell? ⟨gb215, 0, none⟩ = some (.int .i64 a0_0) ∧ w'.cell? ⟨gb215, 1, none⟩ = some (.int .i64 a0_1) ∧ w'.cell? ⟨gb215, 2, none⟩ = some (.int .i64 a0_2) ∧ w'.cell? ⟨gb215, 3, none⟩ = some (.int .i64 a0_3) ∧ w'.cell? ⟨gb215, 4, none⟩ = some (.int .i64 a0_4) ∧ w'.cell? ⟨gb215, 5, none⟩ = some (.int .i64 a0_5) ∧ w'.cell? ⟨gb215, 6, none⟩ = some (.int .i64 a0_6) ∧ w'.cell? ⟨gb215, 7, none⟩ = some (.bool a0_7) ∧ w'.cell? ⟨gb215, 8, none⟩ = some (.slice A0_8 l0_8.length c0_8) ∧ w'.cell? ⟨gb215, 9, none⟩ = some (.slice A0_9 l0_9.length c0_9) ∧ w'.cell? ⟨gb215, 10, none⟩ = some (.string a0_10) ∧ w'.cell? ⟨gb215, 11, none⟩ = some (.bool a0_11)) ∧ (Kd.R (Kd.int .u8) 5 w' w.heap.size (fun _ => True) s_ y217) ∧ (w'.heap[gb215]? = some (.cells #[.int .i64 a0_0, .int .i64 a0_1, .int .i64 a0_2, .int .i64 a0_3, .int .i64 a0_4, .int .i64 a0_5, .int .i64 a0_6, .bool a0_7, .slice A0_8 l0_8.length c0_8, .slice A0_9 l0_9.length c0_9, .string a0_10, .bool a0_11] 30 (0, 0))) ∧ (Below w.heap.size w w')) ?_ ?_
                            rotate_left
                            ·intro hJ9_13
                             refine join_ (σ := Unit) 15 #[true, true, true, true, true, true, true, true, true, false, false, true, true, true, false, true, true, true, false, true, true, false, false, true, true, false, false, true, true, false, false, true, true, false, false, true, true, true, false, false, false] (fun s_ => [(26, .string t220), (30, .string t221)]) (fun s_ w' => (w'.cell? ⟨gb215, 0, none⟩ = some (.int .i64 a0_0) ∧ w'.cell? ⟨gb215, 1, none⟩ = some (.int .i64 a0_1) ∧ w'.cell? ⟨gb215, 2, none⟩ = some (.int .i64 a0_2) ∧ w'.cell? ⟨gb215, 3, none⟩ = some (.int .i64 a0_3) ∧ w'.cell? ⟨gb215, 4, none⟩ = some (.int .i64 a0_4) ∧ w'.cell? ⟨gb215, 5, none⟩ = some (.int .i64 a0_5) ∧ w'.cell? ⟨gb215, 6, none⟩ = some (.int .i64 a0_6) ∧ w'.cell? ⟨gb215, 7, none⟩ = some (.bool a0_7) ∧ w'.cell? ⟨gb215, 8, none⟩ = some (.slice A0_8 l0_8.length c0_8) ∧ w'.cell? ⟨gb215, 9, none⟩ = some (.slice A0_9 l0_9.length c0_9) ∧ w'.cell? ⟨gb215, 10, none⟩ = some (.string a0_10) ∧ w'.cell? ⟨gb215, 11, none⟩ = some (.bool a0_11)) ∧ (w'.heap[gb215]? = some (.cells #[.int .i64 a0_0, .int .i64 a0_1, .int .i64 a0_2, .int .i64 a0_3, .int .i64 a0_4, .int .i64 a0_5, .int .i64 a0_6, .bool a0_7, .slice A0_8 l0_8.length c0_8, .slice A0_9 l0_9.length c0_9, .string a0_10, .bool a0_11] 30 (0, 0))) ∧ (Below w.heap.size w w')) ?_ ?_
                             rotate_left
                             ·intro hJ13_17
                              refine join_ (σ := Value) 16 #[true, true, true, true, true, true, true, true, true, true, false, true, true, false, false, true, true, false, false, true, true, false, false, true, true, false, false, true, true, false, false, true, true, false, false, true, true, true, false, false, false] (fun s_ => [(22, s_)]) (fun s_ w' => (w'.cell? ⟨gb215, 0, none⟩ = some (.int .i64 a0_0) ∧ w'.cell? ⟨gb215, 1, none⟩ = some (.int .i64 a0_1) ∧ w'.cell? ⟨gb215, 2, none⟩ = some (.int .i64 a0_2) ∧ w'.cell? ⟨gb215, 3, none⟩ = some (.int .i64 a0_3) ∧ w'.cell? ⟨gb215, 4, none⟩ = some (.int .i64 a0_4) ∧ w'.cell? ⟨gb215, 5, none⟩ = some (.int .i64 a0_5) ∧ w'.cell? ⟨gb215, 6, none⟩ = some (.int .i64 a0_6) ∧ w'.cell? ⟨gb215, 7, none⟩ = some (.bool a0_7) ∧ w'.cell? ⟨gb215, 8, none⟩ = some (.slice A0_8 l0_8.length c0_8) ∧ w'.cell? ⟨gb215, 9, none⟩ = some (.slice A0_9 l0_9.length c0_9) ∧ w'.cell? ⟨gb215, 10, none⟩ = some (.string a0_10) ∧ w'.cell? ⟨gb215, 11, none⟩ = some (.bool a0_11)) ∧ (Kd.R (Kd.int .u8) 5 w' w.heap.size (fun _ => True) s_ y217) ∧ (w'.heap[gb215]? = some (.cells #[.int .i64 a0_0, .int .i64 a0_1, .int .i64 a0_2, .int .i64 a0_3, .int .i64 a0_4, .int .i64 a0_5, .int .i64 a0_6, .bool a0_7, .slice A0_8 l0_8.length c0_8, .slice A0_9 l0_9.length c0_9, .string a0_10, .bool a0_11] 30 (0, 0))) ∧ (Below w.heap.size w w')) ?_ ?_
                              rotate_left
                              ·intro hJ9
                               refine join_ (σ := Unit) 16 #[true, true, true, true, true, true, true, true, true, false, false, true, true, true, false, true, true, false, false, true, true, false, false, true, true, false, false, true, true, false, false, true, true, false, false, true, true, true, false, false, false] (fun s_ => [(26, .string t220)]) (fun s_ w' => (w'.cell? ⟨gb215, 0, none⟩ = some (.int .i64 a0_0) ∧ w'.cell? ⟨gb215, 1, none⟩ = some (.int .i64 a0_1) ∧ w'.cell? ⟨gb215, 2, none⟩ = some (.int .i64 a0_2) ∧ w'.cell? ⟨gb215, 3, none⟩ = some (.int .i64 a0_3) ∧ w'.cell? ⟨gb215, 4, none⟩ = some (.int .i64 a0_4) ∧ w'.cell? ⟨gb215, 5, none⟩ = some (.int .i64 a0_5) ∧ w'.cell? ⟨gb215, 6, none⟩ = some (.int .i64 a0_6) ∧ w'.cell? ⟨gb215, 7, none⟩ = some (.bool a0_7) ∧ w'.cell? ⟨gb215, 8, none⟩ = some (.slice A0_8 l0_8.length c0_8) ∧ w'.cell? ⟨gb215, 9, none⟩ = some (.slice A0_9 l0_9.length c0_9) ∧ w'.cell? ⟨gb215, 10, none⟩ = some (.string a0_10) ∧ w'.cell? ⟨gb215, 11, none⟩ = some (.bool a0_11)) ∧ (w'.heap[gb215]? = some (.cells #[.int .i64 a0_0, .int .i64 a0_1, .int .i64 a0_2, .int .i64 a0_3, .int .i64 a0_4, .int .i64 a0_5, .int .i64 a0_6, .bool a0_7, .slice A0_8 l0_8.length c0_8, .slice A0_9 l0_9.length c0_9, .string a0_10, .bool a0_11] 30 (0, 0))) ∧ (Below w.heap.size w w')) ?_ ?_
                               rotate_left
                               ·intro hJ13
                                refine two_ (i := 9) (j := 13) (Ni := some 22) (Nj := some 26) #[true, true, true, true, true, true, true, true, true, true, false, true, true, false, false, true, true, false, false, true, true, false, false, true, true, false, false, true, true, false, false, true, true, false, false, true, true, true, false, false, false] #[true, true, true, true, true, true, true, true, true, false, false, true, true, true, false, true, true, false, false, true, true, false, false, true, true, false, false, true, true, false, false, true, true, false, false, true, true, true, false, false, false] rfl rfl rfl rfl (two_of HT_.out B7x6_) (by decide) (by decide) (fun K hK => ?_) (fun K hK => ?_)
                                ·skip
                                 refine Kd.R_lit_step (Kd.int .u8) _ 5 ?hg (N := 22) ?hd (xs := ([(a0_0) % 256, (a0_1) % 256, (a0_2) % 256] : List Int)) (inner := [.int .u8 ((a0_0) % 256), .int .u8 ((a0_1) % 256), .int .u8 ((a0_2) % 256)]) (ok := fun _ => True) (okp := fun _ => True) ?hr ?hp (fun _ hk => hk) trivial (Below.refl _ _) (Nat.le_refl _) (by simp) ?_; (case hd => rfl); (case hg => rfl); (case hr => first | (go_simp; done) | (go_simp; rfl)); (case hp => exact (Reps.one (show Kd.M (Kd.int .u8) _ _ _ ((a0_0) % 256) [.int .u8 ((a0_0) % 256)] from rfl) (Reps.one (show Kd.M (Kd.int .u8) _ _ _ ((a0_1) % 256) [.int .u8 ((a0_1) % 256)] from rfl) (Reps.one (show Kd.M (Kd.int .u8) _ _ _ ((a0_2) % 256) [.int .u8 ((a0_2) % 256)] from rfl) (Reps.none _ _)))))
                                 intro v218 w22 ho23 hb hg_ hnew_
                                 clear hg_ hnew_
                                 (first | rw [← Ny217.out] at ho23 | (simp only [Int.reduceToNat] at ho23; rw [← Ny217.out] at ho23))
                                 have n0_ := Aside0.mk (Kd.R_lower ho23 (below_size B7x0_))
                                 have n1_ := Aside0.mk (blk_below (g := gb215) (o := .cells #[.int .i64 a0_0, .int .i64 a0_1, .int .i64 a0_2, .int .i64 a0_3, .int .i64 a0_4, .int .i64 a0_5, .int .i64 a0_6, .bool a0_7, .slice A0_8 l0_8.length c0_8, .slice A0_9 l0_9.length c0_9, .string a0_10, .bool a0_11] 30 (0, 0)) B7x2_ hb)
                                 have n2_ := Aside0.mk (below_step B7x0_ hb)
                                 clear BK215
                                 clear HB
                                 have HO219 := n0_
                                 have BK215 := n1_
                                 have HB := n2_
                                 clear n0_ n1_ n2_
                                 clear hb ho23
                                 refine hK.out _ _ ⟨(blk_cell BK215.out 0).trans rfl, (blk_cell BK215.out 1).trans rfl, (blk_cell BK215.out 2).trans rfl, (blk_cell BK215.out 3).trans rfl, (blk_cell BK215.out 4).trans rfl, (blk_cell BK215.out 5).trans rfl, (blk_cell BK215.out 6).trans rfl, (blk_cell BK215.out 7).trans rfl, (blk_cell BK215.out 8).trans rfl, (blk_cell BK215.out 9).trans rfl, (blk_cell BK215.out 10).trans rfl, (blk_cell BK215.out 11).trans rfl⟩ (fun hHeld => ?_)
                                 clear hK K
                                 refine norm_ (a' := ?_) ?_ ?_
                                 rotate_left
                                 ·show Act.put _ (some 22) _ = _
                                  simp only [Act.put, List.setIfInBounds_toArray, List.set_cons_zero, List.set_cons_succ, i64_w, i32_w]
                                  rfl
                                 exact norm_ B7x1_ (hJ9 (v218) _ ⟨hHeld, B7x3_, B7x2_, B7x0_⟩)
                                ·skip
                                 refine goes_ Try.func92 B7x6_ rfl #[.int .i64 a0_3] (by rfl) rfl rfl B7x4_ ?_
                                 with_reducible refine (spec_l01Var.calls k a0_3 t220 _ A4.out).mono ?_
                                 rintro e w22 ⟨rfl, hb⟩
                                 refine ⟨_, rfl, ?_⟩
                                 have n0_ := Aside0.mk (blk_below (g := gb215) (o := .cells #[.int .i64 a0_0, .int .i64 a0_1, .int .i64 a0_2, .int .i64 a0_3, .int .i64 a0_4, .int .i64 a0_5, .int .i64 a0_6, .bool a0_7, .slice A0_8 l0_8.length c0_8, .slice A0_9 l0_9.length c0_9, .string a0_10, .bool a0_11] 30 (0, 0)) B7x2_ hb)
                                 have n1_ := Aside0.mk (below_step B7x0_ hb)
                                 clear BK215
                                 clear HB
                                 have BK215 := n0_
                                 have HB := n1_
                                 clear n0_ n1_
                                 (try clear hb)
                                 (try clear hb2)
                                 (try clear hk)
                                 (try clear hi)
                                 refine hK.out _ _ ⟨(blk_cell BK215.out 0).trans rfl, (blk_cell BK215.out 1).trans rfl, (blk_cell BK215.out 2).trans rfl, (blk_cell BK215.out 3).trans rfl, (blk_cell BK215.out 4).trans rfl, (blk_cell BK215.out 5).trans rfl, (blk_cell BK215.out 6).trans rfl, (blk_cell BK215.out 7).trans rfl, (blk_cell BK215.out 8).trans rfl, (blk_cell BK215.out 9).trans rfl, (blk_cell BK215.out 10).trans rfl, (blk_cell BK215.out 11).trans rfl⟩ (fun hHeld => ?_)
                                 clear hK K
                                 refine norm_ (a' := ?_) ?_ ?_
                                 rotate_left
                                 ·show Act.put _ (some 26) _ = _
                                  simp only [Act.put, List.setIfInBounds_toArray, List.set_cons_zero, List.set_cons_succ, i64_w, i32_w]
                                  rfl
                                 exact norm_ B7x1_ (hJ13 () _ ⟨hHeld, B7x2_, B7x0_⟩)
                               ·skip
                                rintro _ w23 ⟨hS_, h0_, h1_⟩
                                have n0_ : Aside0 (w23.heap[gb215]? = some (.cells #[.int .i64 a0_0, .int .i64 a0_1, .int .i64 a0_2, .int .i64 a0_3, .int .i64 a0_4, .int .i64 a0_5, .int .i64 a0_6, .bool a0_7, .slice A0_8 l0_8.length c0_8, .slice A0_9 l0_9.length c0_9, .string a0_10, .bool a0_11] 30 (0, 0))) := ⟨h0_⟩
                                have n1_ : Aside0 (Below w.heap.size w w23) := ⟨h1_⟩
                                clear BK215
                                clear HB
                                clear h0_ h1_
                                have BK215 := n0_
                                have HB := n1_
                                clear n0_ n1_
                                have hHeld : w23.cell? ⟨gb215, 0, none⟩ = some (.int .i64 a0_0) ∧ w23.cell? ⟨gb215, 1, none⟩ = some (.int .i64 a0_1) ∧ w23.cell? ⟨gb215, 2, none⟩ = some (.int .i64 a0_2) ∧ w23.cell? ⟨gb215, 3, none⟩ = some (.int .i64 a0_3) ∧ w23.cell? ⟨gb215, 4, none⟩ = some (.int .i64 a0_4) ∧ w23.cell? ⟨gb215, 5, none⟩ = some (.int .i64 a0_5) ∧ w23.cell? ⟨gb215, 6, none⟩ = some (.int .i64 a0_6) ∧ w23.cell? ⟨gb215, 7, none⟩ = some (.bool a0_7) ∧ w23.cell? ⟨gb215, 8, none⟩ = some (.slice A0_8 l0_8.length c0_8) ∧ w23.cell? ⟨gb215, 9, none⟩ = some (.slice A0_9 l0_9.length c0_9) ∧ w23.cell? ⟨gb215, 10, none⟩ = some (.string a0_10) ∧ w23.cell? ⟨gb215, 11, none⟩ = some (.bool a0_11) := hS_
                                refine norm_ (a' := ?_) ?_ ?_
                                rotate_left
                                ·simp only [putAll, Act.put, List.setIfInBounds_toArray, List.set_cons_zero, List.set_cons_succ]
                                 rfl
                                refine two_ (i := 9) (j := 17) (Ni := some 22) (Nj := some 30) #[true, true, true, true, true, true, true, true, true, true, false, true, true, true, false, true, true, false, false, true, true, false, false, true, true, false, false, true, true, false, false, true, true, false, false, true, true, true, false, false, false] #[true, true, true, true, true, true, true, true, true, false, false, true, true, true, false, true, true, true, false, true, true, false, false, true, true, false, false, true, true, false, false, true, true, false, false, true, true, true, false, false, false] rfl rfl rfl rfl (two_of HT_.out B7x6_) (by decide) (by decide) (fun K hK => ?_) (fun K hK => ?_)
                                ·skip
                                 refine Kd.R_lit_step (Kd.int .u8) _ 5 ?hg (N := 22) ?hd (xs := ([(a0_0) % 256, (a0_1) % 256, (a0_2) % 256] : List Int)) (inner := [.int .u8 ((a0_0) % 256), .int .u8 ((a0_1) % 256), .int .u8 ((a0_2) % 256)]) (ok := fun _ => True) (okp := fun _ => True) ?hr ?hp (fun _ hk => hk) trivial (Below.refl _ _) (Nat.le_refl _) (by simp) ?_; (case hd => rfl); (case hg => rfl); (case hr => first | (go_simp; done) | (go_simp; rfl)); (case hp => exact (Reps.one (show Kd.M (Kd.int .u8) _ _ _ ((a0_0) % 256) [.int .u8 ((a0_0) % 256)] from rfl) (Reps.one (show Kd.M (Kd.int .u8) _ _ _ ((a0_1) % 256) [.int .u8 ((a0_1) % 256)] from rfl) (Reps.one (show Kd.M (Kd.int .u8) _ _ _ ((a0_2) % 256) [.int .u8 ((a0_2) % 256)] from rfl) (Reps.none _ _)))))
                                 intro v218 w24 ho25 hb hg_ hnew_
                                 clear hg_ hnew_
                                 (first | rw [← Ny217.out] at ho25 | (simp only [Int.reduceToNat] at ho25; rw [← Ny217.out] at ho25))
                                 have n0_ := Aside0.mk (Kd.R_lower ho25 (below_size B7x0_))
                                 have n1_ := Aside0.mk (blk_below (g := gb215) (o := .cells #[.int .i64 a0_0, .int .i64 a0_1, .int .i64 a0_2, .int .i64 a0_3, .int .i64 a0_4, .int .i64 a0_5, .int .i64 a0_6, .bool a0_7, .slice A0_8 l0_8.length c0_8, .slice A0_9 l0_9.length c0_9, .string a0_10, .bool a0_11] 30 (0, 0)) B7x2_ hb)
                                 have n2_ := Aside0.mk (below_step B7x0_ hb)
                                 clear BK215
                                 clear HB
                                 have HO219 := n0_
                                 have BK215 := n1_
                                 have HB := n2_
                                 clear n0_ n1_ n2_
                                 clear hb ho25
                                 refine hK.out _ _ ⟨(blk_cell BK215.out 0).trans rfl, (blk_cell BK215.out 1).trans rfl, (blk_cell BK215.out 2).trans rfl, (blk_cell BK215.out 3).trans rfl, (blk_cell BK215.out 4).trans rfl, (blk_cell BK215.out 5).trans rfl, (blk_cell BK215.out 6).trans rfl, (blk_cell BK215.out 7).trans rfl, (blk_cell BK215.out 8).trans rfl, (blk_cell BK215.out 9).trans rfl, (blk_cell BK215.out 10).trans rfl, (blk_cell BK215.out 11).trans rfl⟩ (fun hHeld => ?_)
                                 clear hK K
                                 refine norm_ (a' := ?_) ?_ ?_
                                 rotate_left
                                 ·show Act.put _ (some 22) _ = _
                                  simp only [Act.put, List.setIfInBounds_toArray, List.set_cons_zero, List.set_cons_succ, i64_w, i32_w]
                                  rfl
                                 exact norm_ B7x1_ (hJ9_13 (v218) _ ⟨hHeld, B7x3_, B7x2_, B7x0_⟩)
                                ·skip
                                 refine goes_ Try.func92 B7x6_ rfl #[.int .i64 a0_4] (by rfl) rfl rfl B7x4_ ?_
                                 with_reducible refine (spec_l01Var.calls k a0_4 t221 _ A6.out).mono ?_
                                 rintro e w24 ⟨rfl, hb⟩
                                 refine ⟨_, rfl, ?_⟩
                                 have n0_ := Aside0.mk (blk_below (g := gb215) (o := .cells #[.int .i64 a0_0, .int .i64 a0_1, .int .i64 a0_2, .int .i64 a0_3, .int .i64 a0_4, .int .i64 a0_5, .int .i64 a0_6, .bool a0_7, .slice A0_8 l0_8.length c0_8, .slice A0_9 l0_9.length c0_9, .string a0_10, .bool a0_11] 30 (0, 0)) B7x2_ hb)
                                 have n1_ := Aside0.mk (below_step B7x0_ hb)
                                 clear BK215
                                 clear HB
                                 have BK215 := n0_
                                 have HB := n1_
                                 clear n0_ n1_
                                 (try clear hb)
                                 (try clear hb2)
                                 (try clear hk)
                                 (try clear hi)
                                 refine hK.out _ _ ⟨(blk_cell BK215.out 0).trans rfl, (blk_cell BK215.out 1).trans rfl, (blk_cell BK215.out 2).trans rfl, (blk_cell BK215.out 3).trans rfl, (blk_cell BK215.out 4).trans rfl, (blk_cell BK215.out 5).trans rfl, (blk_cell BK215.out 6).trans rfl, (blk_cell BK215.out 7).trans rfl, (blk_cell BK215.out 8).trans rfl, (blk_cell BK215.out 9).trans rfl, (blk_cell BK215.out 10).trans rfl, (blk_cell BK215.out 11).trans rfl⟩ (fun hHeld => ?_)
                                 clear hK K
                                 refine norm_ (a' := ?_) ?_ ?_
                                 rotate_left
                                 ·show Act.put _ (some 30) _ = _
                                  simp only [Act.put, List.setIfInBounds_toArray, List.set_cons_zero, List.set_cons_succ, i64_w, i32_w]
                                  rfl
                                 exact norm_ B7x1_ (hJ13_17 () _ ⟨hHeld, B7x2_, B7x0_⟩)
                              ·skip
                               rintro v218 w24 ⟨hS_, h0_, h1_, h2_⟩
                               have n0_ : Aside0 (Kd.R (Kd.int .u8) 5 w24 w.heap.size (fun _ => True) v218 y217) := ⟨h0_⟩
                               have n1_ : Aside0 (w24.heap[gb215]? = some (.cells #[.int .i64 a0_0, .int .i64 a0_1, .int .i64 a0_2, .int .i64 a0_3, .int .i64 a0_4, .int .i64 a0_5, .int .i64 a0_6, .bool a0_7, .slice A0_8 l0_8.length c0_8, .slice A0_9 l0_9.length c0_9, .string a0_10, .bool a0_11] 30 (0, 0))) := ⟨h1_⟩
                               have n2_ : Aside0 (Below w.heap.size w w24) := ⟨h2_⟩
                               clear BK215
                               clear HB
                               clear h0_ h1_ h2_
                               have HO219 := n0_
                               have BK215 := n1_
                               have HB := n2_
                               clear n0_ n1_ n2_
                               have hHeld : w24.cell? ⟨gb215, 0, none⟩ = some (.int .i64 a0_0) ∧ w24.cell? ⟨gb215, 1, none⟩ = some (.int .i64 a0_1) ∧ w24.cell? ⟨gb215, 2, none⟩ = some (.int .i64 a0_2) ∧ w24.cell? ⟨gb215, 3, none⟩ = some (.int .i64 a0_3) ∧ w24.cell? ⟨gb215, 4, none⟩ = some (.int .i64 a0_4) ∧ w24.cell? ⟨gb215, 5, none⟩ = some (.int .i64 a0_5) ∧ w24.cell? ⟨gb215, 6, none⟩ = some (.int .i64 a0_6) ∧ w24.cell? ⟨gb215, 7, none⟩ = some (.bool a0_7) ∧ w24.cell? ⟨gb215, 8, none⟩ = some (.slice A0_8 l0_8.length c0_8) ∧ w24.cell? ⟨gb215, 9, none⟩ = some (.slice A0_9 l0_9.length c0_9) ∧ w24.cell? ⟨gb215, 10, none⟩ = some (.string a0_10) ∧ w24.cell? ⟨gb215, 11, none⟩ = some (.bool a0_11) := hS_
                               refine norm_ (a' := ?_) ?_ ?_
                               rotate_left
                               ·simp only [putAll, Act.put, List.setIfInBounds_toArray, List.set_cons_zero, List.set_cons_succ]
                                rfl
                               refine two_ (i := 10) (j := 13) (Ni := some 23) (Nj := some 26) #[true, true, true, true, true, true, true, true, true, true, true, true, true, false, false, true, true, false, false, true, true, false, false, true, true, false, false, true, true, false, false, true, true, false, false, true, true, true, false, false, false] #[true, true, true, true, true, true, true, true, true, true, false, true, true, true, false, true, true, false, false, true, true, false, false, true, true, false, false, true, true, false, false, true, true, false, false, true, true, true, false, false, false] rfl rfl rfl rfl (two_of HT_.out B7x6_) (by decide) (by decide) (fun K hK => ?_) (fun K hK => ?_)
                               ·skip
                                have hcv25 := own_string (P := Try.prog) Try.underlying43 Try.underlying5 Try.underlying9 (Kd.own_of_R HO219.out)
                                refine value_ (w1 := ?_) (v := ?_) (by rfl) rfl ?_ ?_
                                rotate_left 2
                                ·go_simp
                                 constructor
                                 ·rfl
                                 ·rfl
                                clear hcv25
                                refine hK.out _ _ ⟨(blk_cell BK215.out 0).trans rfl, (blk_cell BK215.out 1).trans rfl, (blk_cell BK215.out 2).trans rfl, (blk_cell BK215.out 3).trans rfl, (blk_cell BK215.out 4).trans rfl, (blk_cell BK215.out 5).trans rfl, (blk_cell BK215.out 6).trans rfl, (blk_cell BK215.out 7).trans rfl, (blk_cell BK215.out 8).trans rfl, (blk_cell BK215.out 9).trans rfl, (blk_cell BK215.out 10).trans rfl, (blk_cell BK215.out 11).trans rfl⟩ (fun hHeld => ?_)
                                clear hK K
                                refine norm_ (a' := ?_) ?_ ?_
                                rotate_left
                                ·show Act.put _ (some 23) _ = _
                                 simp only [Act.put, List.setIfInBounds_toArray, List.set_cons_zero, List.set_cons_succ, i64_w, i32_w]
                                 rfl
                                exact norm_ B7x1_ (hJ9_10 (v218) _ ⟨hHeld, B7x3_, B7x2_, B7x0_⟩)
                               ·skip
                                refine goes_ Try.func92 B7x6_ rfl #[.int .i64 a0_3] (by rfl) rfl rfl B7x4_ ?_
                                with_reducible refine (spec_l01Var.calls k a0_3 t220 _ A4.out).mono ?_
                                rintro e w25 ⟨rfl, hb⟩
                                refine ⟨_, rfl, ?_⟩
                                have n0_ := Aside0.mk (Kd.R_below B7x3_ hb)
                                have n1_ := Aside0.mk (blk_below (g := gb215) (o := .cells #[.int .i64 a0_0, .int .i64 a0_1, .int .i64 a0_2, .int .i64 a0_3, .int .i64 a0_4, .int .i64 a0_5, .int .i64 a0_6, .bool a0_7, .slice A0_8 l0_8.length c0_8, .slice A0_9 l0_9.length c0_9, .string a0_10, .bool a0_11] 30 (0, 0)) B7x2_ hb)
                                have n2_ := Aside0.mk (below_step B7x0_ hb)
                                clear HO219
                                clear BK215
                                clear HB
                                have HO219 := n0_
                                have BK215 := n1_
                                have HB := n2_
                                clear n0_ n1_ n2_
                                (try clear hb)
                                (try clear hb2)
                                (try clear hk)
                                (try clear hi)
                                refine hK.out _ _ ⟨(blk_cell BK215.out 0).trans rfl, (blk_cell BK215.out 1).trans rfl, (blk_cell BK215.out 2).trans rfl, (blk_cell BK215.out 3).trans rfl, (blk_cell BK215.out 4).trans rfl, (blk_cell BK215.out 5).trans rfl, (blk_cell BK215.out 6).trans rfl, (blk_cell BK215.out 7).trans rfl, (blk_cell BK215.out 8).trans rfl, (blk_cell BK215.out 9).trans rfl, (blk_cell BK215.out 10).trans rfl, (blk_cell BK215.out 11).trans rfl⟩ (fun hHeld => ?_)
                                clear hK K
                                refine norm_ (a' := ?_) ?_ ?_
                                rotate_left
                                ·show Act.put _ (some 26) _ = _
                                 simp only [Act.put, List.setIfInBounds_toArray, List.set_cons_zero, List.set_cons_succ, i64_w, i32_w]
                                 rfl
                                exact norm_ B7x1_ (hJ9_13 (v218) _ ⟨hHeld, B7x3_, B7x2_, B7x0_⟩)
                             ·skip
                              rintro _ w24 ⟨hS_, h0_, h1_⟩
                              have n0_ : Aside0 (w24.heap[gb215]? = some (.cells #[.int .i64 a0_0, .int .i64 a0_1, .int .i64 a0_2, .int .i64 a0_3, .int .i64 a0_4, .int .i64 a0_5, .int .i64 a0_6, .bool a0_7, .slice A0_8 l0_8.length c0_8, .slice A0_9 l0_9.length c0_9, .string a0_10, .bool a0_11] 30 (0, 0))) := ⟨h0_⟩
                              have n1_ : Aside0 (Below w.heap.size w w24) := ⟨h1_⟩
                              clear BK215
                              clear HB
                              clear h0_ h1_
                              have BK215 := n0_
                              have HB := n1_
                              clear n0_ n1_
                              have hHeld : w24.cell? ⟨gb215, 0, none⟩ = some (.int .i64 a0_0) ∧ w24.cell? ⟨gb215, 1, none⟩ = some (.int .i64 a0_1) ∧ w24.cell? ⟨gb215, 2, none⟩ = some (.int .i64 a0_2) ∧ w24.cell? ⟨gb215, 3, none⟩ = some (.int .i64 a0_3) ∧ w24.cell? ⟨gb215, 4, none⟩ = some (.int .i64 a0_4) ∧ w24.cell? ⟨gb215, 5, none⟩ = some (.int .i64 a0_5) ∧ w24.cell? ⟨gb215, 6, none⟩ = some (.int .i64 a0_6) ∧ w24.cell? ⟨gb215, 7, none⟩ = some (.bool a0_7) ∧ w24.cell? ⟨gb215, 8, none⟩ = some (.slice A0_8 l0_8.length c0_8) ∧ w24.cell? ⟨gb215, 9, none⟩ = some (.slice A0_9 l0_9.length c0_9) ∧ w24.cell? ⟨gb215, 10, none⟩ = some (.string a0_10) ∧ w24.cell? ⟨gb215, 11, none⟩ = some (.bool a0_11) := hS_
                              refine norm_ (a' := ?_) ?_ ?_
                              rotate_left
                              ·simp only [putAll, Act.put, List.setIfInBounds_toArray, List.set_cons_zero, List.set_cons_succ]
                               rfl
                              refine two_ (i := 9) (j := 21) (Ni := some 22) (Nj := some 34) #[true, true, true, true, true, true, true, true, true, true, false, true, true, true, false, true, true, true, false, true, true, false, false, true, true, false, false, true, true, false, false, true, true, false, false, true, true, true, false, false, false] #[true, true, true, true, true, true, true, true, true, false, false, true, true, true, false, true, true, true, false, true, true, true, false, true, true, false, false, true, true, false, false, true, true, false, false, true, true, true, false, false, false] rfl rfl rfl rfl (two_of HT_.out B7x6_) (by decide) (by decide) (fun K hK => ?_) (fun K hK => ?_)
                              ·skip
                               refine Kd.R_lit_step (Kd.int .u8) _ 5 ?hg (N := 22) ?hd (xs := ([(a0_0) % 256, (a0_1) % 256, (a0_2) % 256] : List Int)) (inner := [.int .u8 ((a0_0) % 256), .int .u8 ((a0_1) % 256), .int .u8 ((a0_2) % 256)]) (ok := fun _ => True) (okp := fun _ => True) ?hr ?hp (fun _ hk => hk) trivial (Below.refl _ _) (Nat.le_refl _) (by simp) ?_; (case hd => rfl); (case hg => rfl); (case hr => first | (go_simp; done) | (go_simp; rfl)); (case hp => exact (Reps.one (show Kd.M (Kd.int .u8) _ _ _ ((a0_0) % 256) [.int .u8 ((a0_0) % 256)] from rfl) (Reps.one (show Kd.M (Kd.int .u8) _ _ _ ((a0_1) % 256) [.int .u8 ((a0_1) % 256)] from rfl) (Reps.one (show Kd.M (Kd.int .u8) _ _ _ ((a0_2) % 256) [.int .u8 ((a0_2) % 256)] from rfl) (Reps.none _ _)))))
                               intro v218 w25 ho26 hb hg_ hnew_
                               clear hg_ hnew_
                               (first | rw [← Ny217.out] at ho26 | (simp only [Int.reduceToNat] at ho26; rw [← Ny217.out] at ho26))
                               have n0_ := Aside0.mk (Kd.R_lower ho26 (below_size B7x0_))
                               have n1_ := Aside0.mk (blk_below (g := gb215) (o := .cells #[.int .i64 a0_0, .int .i64 a0_1, .int .i64 a0_2, .int .i64 a0_3, .int .i64 a0_4, .int .i64 a0_5, .int .i64 a0_6, .bool a0_7, .slice A0_8 l0_8.length c0_8, .slice A0_9 l0_9.length c0_9, .string a0_10, .bool a0_11] 30 (0, 0)) B7x2_ hb)
                               have n2_ := Aside0.mk (below_step B7x0_ hb)
                               clear BK215
                               clear HB
                               have HO219 := n0_
                               have BK215 := n1_
                               have HB := n2_
                               clear n0_ n1_ n2_
                               clear hb ho26
                               refine hK.out _ _ ⟨(blk_cell BK215.out 0).trans rfl, (blk_cell BK215.out 1).trans rfl, (blk_cell BK215.out 2).trans rfl, (blk_cell BK215.out 3).trans rfl, (blk_cell BK215.out 4).trans rfl, (blk_cell BK215.out 5).trans rfl, (blk_cell BK215.out 6).trans rfl, (blk_cell BK215.out 7).trans rfl, (blk_cell BK215.out 8).trans rfl, (blk_cell BK215.out 9).trans rfl, (blk_cell BK215.out 10).trans rfl, (blk_cell BK215.out 11).trans rfl⟩ (fun hHeld => ?_)
                               clear hK K
                               refine norm_ (a' := ?_) ?_ ?_
                               rotate_left
                               ·show Act.put _ (some 22) _ = _
                                simp only [Act.put, List.setIfInBounds_toArray, List.set_cons_zero, List.set_cons_succ, i64_w, i32_w]
                                rfl
                               exact norm_ B7x1_ (hJ9_13_17 (v218) _ ⟨hHeld, B7x3_, B7x2_, B7x0_⟩)
                              ·skip
                               refine goes_ Try.func92 B7x6_ rfl #[.int .i64 a0_5] (by rfl) rfl rfl B7x4_ ?_
                               with_reducible refine (spec_l01Var.calls k a0_5 t222 _ A8.out).mono ?_
                               rintro e w25 ⟨rfl, hb⟩
                               refine ⟨_, rfl, ?_⟩
                               have n0_ := Aside0.mk (blk_below (g := gb215) (o := .cells #[.int .i64 a0_0, .int .i64 a0_1, .int .i64 a0_2, .int .i64 a0_3, .int .i64 a0_4, .int .i64 a0_5, .int .i64 a0_6, .bool a0_7, .slice A0_8 l0_8.length c0_8, .slice A0_9 l0_9.length c0_9, .string a0_10, .bool a0_11] 30 (0, 0)) B7x2_ hb)
                               have n1_ := Aside0.mk (below_step B7x0_ hb)
                               clear BK215
                               clear HB
                               have BK215 := n0_
                               have HB := n1_
                               clear n0_ n1_
                               (try clear hb)
                               (try clear hb2)
                               (try clear hk)
                               (try clear hi)
                               refine hK.out _ _ ⟨(blk_cell BK215.out 0).trans rfl, (blk_cell BK215.out 1).trans rfl, (blk_cell BK215.out 2).trans rfl, (blk_cell BK215.out 3).trans rfl, (blk_cell BK215.out 4).trans rfl, (blk_cell BK215.out 5).trans rfl, (blk_cell BK215.out 6).trans rfl, (blk_cell BK215.out 7).trans rfl, (blk_cell BK215.out 8).trans rfl, (blk_cell BK215.out 9).trans rfl, (blk_cell BK215.out 10).trans rfl, (blk_cell BK215.out 11).trans rfl⟩ (fun hHeld => ?_)
                               clear hK K
                               refine norm_ (a' := ?_) ?_ ?_
                               rotate_left
                               ·show Act.put _ (some 34) _ = _
                                simp only [Act.put, List.setIfInBounds_toArray, List.set_cons_zero, List.set_cons_succ, i64_w, i32_w]
                                rfl
                               exact norm_ B7x1_ (hJ13_17_21 () _ ⟨hHeld, B7x2_, B7x0_⟩)
                            ·skip
                             rintro v218 w25 ⟨hS_, h0_, h1_, h2_⟩
                             have n0_ : Aside0 (Kd.R (Kd.int .u8) 5 w25 w.heap.size (fun _ => True) v218 y217) := ⟨h0_⟩
                             have n1_ : Aside0 (w25.heap[gb215]? = some (.cells #[.int .i64 a0_0, .int .i64 a0_1, .int .i64 a0_2, .int .i64 a0_3, .int .i64 a0_4, .int .i64 a0_5, .int .i64 a0_6, .bool a0_7, .slice A0_8 l0_8.length c0_8, .slice A0_9 l0_9.length c0_9, .string a0_10, .bool a0_11] 30 (0, 0))) := ⟨h1_⟩
                             have n2_ : Aside0 (Below w.heap.size w w25) := ⟨h2_⟩
                             clear BK215
                             clear HB
                             clear h0_ h1_ h2_
                             have HO219 := n0_
                             have BK215 := n1_
                             have HB := n2_
                             clear n0_ n1_ n2_
                             have hHeld : w25.cell? ⟨gb215, 0, none⟩ = some (.int .i64 a0_0) ∧ w25.cell? ⟨gb215, 1, none⟩ = some (.int .i64 a0_1) ∧ w25.cell? ⟨gb215, 2, none⟩ = some (.int .i64 a0_2) ∧ w25.cell? ⟨gb215, 3, none⟩ = some (.int .i64 a0_3) ∧ w25.cell? ⟨gb215, 4, none⟩ = some (.int .i64 a0_4) ∧ w25.cell? ⟨gb215, 5, none⟩ = some (.int .i64 a0_5) ∧ w25.cell? ⟨gb215, 6, none⟩ = some (.int .i64 a0_6) ∧ w25.cell? ⟨gb215, 7, none⟩ = some (.bool a0_7) ∧ w25.cell? ⟨gb215, 8, none⟩ = some (.slice A0_8 l0_8.length c0_8) ∧ w25.cell? ⟨gb215, 9, none⟩ = some (.slice A0_9 l0_9.length c0_9) ∧ w25.cell? ⟨gb215, 10, none⟩ = some (.string a0_10) ∧ w25.cell? ⟨gb215, 11, none⟩ = some (.bool a0_11) := hS_
                             refine norm_ (a' := ?_) ?_ ?_
                             rotate_left
                             ·simp only [putAll, Act.put, List.setIfInBounds_toArray, List.set_cons_zero, List.set_cons_succ]
                              rfl
                             refine two_ (i := 10) (j := 17) (Ni := some 23) (Nj := some 30) #[true, true, true, true, true, true, true, true, true, true, true, true, true, true, false, true, true, false, false, true, true, false, false, true, true, false, false, true, true, false, false, true, true, false, false, true, true, true, false, false, false] #[true, true, true, true, true, true, true, true, true, true, false, true, true, true, false, true, true, true, false, true, true, false, false, true, true, false, false, true, true, false, false, true, true, false, false, true, true, true, false, false, false] rfl rfl rfl rfl (two_of HT_.out B7x6_) (by decide) (by decide) (fun K hK => ?_) (fun K hK => ?_)
                             ·skip
                              have hcv26 := own_string (P := Try.prog) Try.underlying43 Try.underlying5 Try.underlying9 (Kd.own_of_R HO219.out)
                              refine value_ (w1 := ?_) (v := ?_) (by rfl) rfl ?_ ?_
                              rotate_left 2
                              ·go_simp
                               constructor
                               ·rfl
                               ·rfl
                              clear hcv26
                              refine hK.out _ _ ⟨(blk_cell BK215.out 0).trans rfl, (blk_cell BK215.out 1).trans rfl, (blk_cell BK215.out 2).trans rfl, (blk_cell BK215.out 3).trans rfl, (blk_cell BK215.out 4).trans rfl, (blk_cell BK215.out 5).trans rfl, (blk_cell BK215.out 6).trans rfl, (blk_cell BK215.out 7).trans rfl, (blk_cell BK215.out 8).trans rfl, (blk_cell BK215.out 9).trans rfl, (blk_cell BK215.out 10).trans rfl, (blk_cell BK215.out 11).trans rfl⟩ (fun hHeld => ?_)
                              clear hK K
                              refine norm_ (a' := ?_) ?_ ?_
                              rotate_left
                              ·show Act.put _ (some 23) _ = _
                               simp only [Act.put, List.setIfInBounds_toArray, List.set_cons_zero, List.set_cons_succ, i64_w, i32_w]
                               rfl
                              refine pu_ 14 27 HT_ ?_
                              exact norm_ B7x1_ (hJ9_10_13 (v218) _ ⟨hHeld, B7x3_, B7x2_, B7x0_⟩)
                             ·skip
                              refine goes_ Try.func92 B7x6_ rfl #[.int .i64 a0_4] (by rfl) rfl rfl B7x4_ ?_
                              with_reducible refine (spec_l01Var.calls k a0_4 t221 _ A6.out).mono ?_
                              rintro e w26 ⟨rfl, hb⟩
                              refine ⟨_, rfl, ?_⟩
                              have n0_ := Aside0.mk (Kd.R_below B7x3_ hb)
                              have n1_ := Aside0.mk (blk_below (g := gb215) (o := .cells #[.int .i64 a0_0, .int .i64 a0_1, .int .i64 a0_2, .int .i64 a0_3, .int .i64 a0_4, .int .i64 a0_5, .int .i64 a0_6, .bool a0_7, .slice A0_8 l0_8.length c0_8, .slice A0_9 l0_9.length c0_9, .string a0_10, .bool a0_11] 30 (0, 0)) B7x2_ hb)
                              have n2_ := Aside0.mk (below_step B7x0_ hb)
                              clear HO219
                              clear BK215
                              clear HB
                              have HO219 := n0_
                              have BK215 := n1_
                              have HB := n2_
                              clear n0_ n1_ n2_
                              (try clear hb)
                              (try clear hb2)
                              (try clear hk)
                              (try clear hi)
                              refine hK.out _ _ ⟨(blk_cell BK215.out 0).trans rfl, (blk_cell BK215.out 1).trans rfl, (blk_cell BK215.out 2).trans rfl, (blk_cell BK215.out 3).trans rfl, (blk_cell BK215.out 4).trans rfl, (blk_cell BK215.out 5).trans rfl, (blk_cell BK215.out 6).trans rfl, (blk_cell BK215.out 7).trans rfl, (blk_cell BK215.out 8).trans rfl, (blk_cell BK215.out 9).trans rfl, (blk_cell BK215.out 10).trans rfl, (blk_cell BK215.out 11).trans rfl⟩ (fun hHeld => ?_)
                              clear hK K
                              refine norm_ (a' := ?_) ?_ ?_
                              rotate_left
                              ·show Act.put _ (some 30) _ = _
                               simp only [Act.put, List.setIfInBounds_toArray, List.set_cons_zero, List.set_cons_succ, i64_w, i32_w]
                               rfl
                              exact norm_ B7x1_ (hJ9_13_17 (v218) _ ⟨hHeld, B7x3_, B7x2_, B7x0_⟩)
                           ·skip
                            rintro v218 w25 ⟨hS_, h0_, h1_, h2_⟩
                            have n0_ : Aside0 (Kd.R (Kd.int .u8) 5 w25 w.heap.size (fun _ => True) v218 y217) := ⟨h0_⟩
                            have n1_ : Aside0 (w25.heap[gb215]? = some (.cells #[.int .i64 a0_0, .int .i64 a0_1, .int .i64 a0_2, .int .i64 a0_3, .int .i64 a0_4, .int .i64 a0_5, .int .i64 a0_6, .bool a0_7, .slice A0_8 l0_8.length c0_8, .slice A0_9 l0_9.length c0_9, .string a0_10, .bool a0_11] 30 (0, 0))) := ⟨h1_⟩
                            have n2_ : Aside0 (Below w.heap.size w w25) := ⟨h2_⟩
                            clear BK215
                            clear HB
                            clear h0_ h1_ h2_
                            have HO219 := n0_
                            have BK215 := n1_
                            have HB := n2_
                            clear n0_ n1_ n2_
                            have hHeld : w25.cell? ⟨gb215, 0, none⟩ = some (.int .i64 a0_0) ∧ w25.cell? ⟨gb215, 1, none⟩ = some (.int .i64 a0_1) ∧ w25.cell? ⟨gb215, 2, none⟩ = some (.int .i64 a0_2) ∧ w25.cell? ⟨gb215, 3, none⟩ = some (.int .i64 a0_3) ∧ w25.cell? ⟨gb215, 4, none⟩ = some (.int .i64 a0_4) ∧ w25.cell? ⟨gb215, 5, none⟩ = some (.int .i64 a0_5) ∧ w25.cell? ⟨gb215, 6, none⟩ = some (.int .i64 a0_6) ∧ w25.cell? ⟨gb215, 7, none⟩ = some (.bool a0_7) ∧ w25.cell? ⟨gb215, 8, none⟩ = some (.slice A0_8 l0_8.length c0_8) ∧ w25.cell? ⟨gb215, 9, none⟩ = some (.slice A0_9 l0_9.length c0_9) ∧ w25.cell? ⟨gb215, 10, none⟩ = some (.string a0_10) ∧ w25.cell? ⟨gb215, 11, none⟩ = some (.bool a0_11) := hS_
                            refine norm_ (a' := ?_) ?_ ?_
                            rotate_left
                            ·simp only [putAll, Act.put, List.setIfInBounds_toArray, List.set_cons_zero, List.set_cons_succ]
                             rfl
                            refine one_ (i := 13) (N := some 26) #[true, true, true, true, true, true, true, true, true, true, true, true, true, true, false, true, true, false, false, true, true, false, false, true, true, false, false, true, true, false, false, true, true, false, false, true, true, true, false, false, false] rfl rfl (one_of HT_.out B7x6_) (by decide) (fun K hK => ?_)
                            refine goes_ Try.func92 B7x6_ rfl #[.int .i64 a0_3] (by rfl) rfl rfl B7x4_ ?_
                            with_reducible refine (spec_l01Var.calls k a0_3 t220 _ A4.out).mono ?_
                            rintro e w26 ⟨rfl, hb⟩
                            refine ⟨_, rfl, ?_⟩
                            have n0_ := Aside0.mk (Kd.R_below B7x3_ hb)
                            have n1_ := Aside0.mk (blk_below (g := gb215) (o := .cells #[.int .i64 a0_0, .int .i64 a0_1, .int .i64 a0_2, .int .i64 a0_3, .int .i64 a0_4, .int .i64 a0_5, .int .i64 a0_6, .bool a0_7, .slice A0_8 l0_8.length c0_8, .slice A0_9 l0_9.length c0_9, .string a0_10, .bool a0_11] 30 (0, 0)) B7x2_ hb)
                            have n2_ := Aside0.mk (below_step B7x0_ hb)
                            clear HO219
                            clear BK215
                            clear HB
                            have HO219 := n0_
                            have BK215 := n1_
                            have HB := n2_
                            clear n0_ n1_ n2_
                            (try clear hb)
                            (try clear hb2)
                            (try clear hk)
                            (try clear hi)
                            refine hK.out _ _ ⟨(blk_cell BK215.out 0).trans rfl, (blk_cell BK215.out 1).trans rfl, (blk_cell BK215.out 2).trans rfl, (blk_cell BK215.out 3).trans rfl, (blk_cell BK215.out 4).trans rfl, (blk_cell BK215.out 5).trans rfl, (blk_cell BK215.out 6).trans rfl, (blk_cell BK215.out 7).trans rfl, (blk_cell BK215.out 8).trans rfl, (blk_cell BK215.out 9).trans rfl, (blk_cell BK215.out 10).trans rfl, (blk_cell BK215.out 11).trans rfl⟩ (fun hHeld => ?_)
                            clear hK K
                            refine norm_ (a' := ?_) ?_ ?_
                            rotate_left
                            ·show Act.put _ (some 26) _ = _
                             simp only [Act.put, List.setIfInBounds_toArray, List.set_cons_zero, List.set_cons_succ, i64_w, i32_w]
                             rfl
                            refine pu_ 14 27 HT_ ?_
                            exact norm_ B7x1_ (hJ9_10_13 (v218) _ ⟨hHeld, B7x3_, B7x2_, B7x0_⟩)
                          ·skip
                           rintro _ w25 ⟨hS_, h0_, h1_⟩
                           have n0_ : Aside0 (w25.heap[gb215]? = some (.cells #[.int .i64 a0_0, .int .i64 a0_1, .int .i64 a0_2, .int .i64 a0_3, .int .i64 a0_4, .int .i64 a0_5, .int .i64 a0_6, .bool a0_7, .slice A0_8 l0_8.length c0_8, .slice A0_9 l0_9.length c0_9, .string a0_10, .bool a0_11] 30 (0, 0))) := ⟨h0_⟩
                           have n1_ : Aside0 (Below w.heap.size w w25) := ⟨h1_⟩
                           clear BK215
                           clear HB
                           clear h0_ h1_
                           have BK215 := n0_
                           have HB := n1_
                           clear n0_ n1_
                           have hHeld : w25.cell? ⟨gb215, 0, none⟩ = some (.int .i64 a0_0) ∧ w25.cell? ⟨gb215, 1, none⟩ = some (.int .i64 a0_1) ∧ w25.cell? ⟨gb215, 2, none⟩ = some (.int .i64 a0_2) ∧ w25.cell? ⟨gb215, 3, none⟩ = some (.int .i64 a0_3) ∧ w25.cell? ⟨gb215, 4, none⟩ = some (.int .i64 a0_4) ∧ w25.cell? ⟨gb215, 5, none⟩ = some (.int .i64 a0_5) ∧ w25.cell? ⟨gb215, 6, none⟩ = some (.int .i64 a0_6) ∧ w25.cell? ⟨gb215, 7, none⟩ = some (.bool a0_7) ∧ w25.cell? ⟨gb215, 8, none⟩ = some (.slice A0_8 l0_8.length c0_8) ∧ w25.cell? ⟨gb215, 9, none⟩ = some (.slice A0_9 l0_9.length c0_9) ∧ w25.cell? ⟨gb215, 10, none⟩ = some (.string a0_10) ∧ w25.cell? ⟨gb215, 11, none⟩ = some (.bool a0_11) := hS_
                           refine norm_ (a' := ?_) ?_ ?_
                           rotate_left
                           ·simp only [putAll, Act.put, List.setIfInBounds_toArray, List.set_cons_zero, List.set_cons_succ]
                            rfl
                           refine two_ (i := 9) (j := 25) (Ni := some 22) (Nj := some 38) #[true, true, true, true, true, true, true, true, true, true, false, true, true, true, false, true, true, true, false, true, true, true, false, true, true, false, false, true, true, false, false, true, true, false, false, true, true, true, false, false, false] #[true, true, true, true, true, true, true, true, true, false, false, true, true, true, false, true, true, true, false, true, true, true, false, true, true, true, false, true, true, false, false, true, true, false, false, true, true, true, false, false, false] rfl rfl rfl rfl (two_of HT_.out B7x6_) (by decide) (by decide) (fun K hK => ?_) (fun K hK => ?_)
                           ·skip
                            refine Kd.R_lit_step (Kd.int .u8) _ 5 ?hg (N := 22) ?hd (xs := ([(a0_0) % 256, (a0_1) % 256, (a0_2) % 256] : List Int)) (inner := [.int .u8 ((a0_0) % 256), .int .u8 ((a0_1) % 256), .int .u8 ((a0_2) % 256)]) (ok := fun _ => True) (okp := fun _ => True) ?hr ?hp (fun _ hk => hk) trivial (Below.refl _ _) (Nat.le_refl _) (by simp) ?_; (case hd => rfl); (case hg => rfl); (case hr => first | (go_simp; done) | (go_simp; rfl)); (case hp => exact (Reps.one (show Kd.M (Kd.int .u8) _ _ _ ((a0_0) % 256) [.int .u8 ((a0_0) % 256)] from rfl) (Reps.one (show Kd.M (Kd.int .u8) _ _ _ ((a0_1) % 256) [.int .u8 ((a0_1) % 256)] from rfl) (Reps.one (show Kd.M (Kd.int .u8) _ _ _ ((a0_2) % 256) [.int .u8 ((a0_2) % 256)] from rfl) (Reps.none _ _)))))
                            intro v218 w26 ho27 hb hg_ hnew_
                            clear hg_ hnew_
                            (first | rw [← Ny217.out] at ho27 | (simp only [Int.reduceToNat] at ho27; rw [← Ny217.out] at ho27))
                            have n0_ := Aside0.mk (Kd.R_lower ho27 (below_size B7x0_))
                            have n1_ := Aside0.mk (blk_below (g := gb215) (o := .cells #[.int .i64 a0_0, .int .i64 a0_1, .int .i64 a0_2, .int .i64 a0_3, .int .i64 a0_4, .int .i64 a0_5, .int .i64 a0_6, .bool a0_7, .slice A0_8 l0_8.length c0_8, .slice A0_9 l0_9.length c0_9, .string a0_10, .bool a0_11] 30 (0, 0)) B7x2_ hb)
                            have n2_ := Aside0.mk (below_step B7x0_ hb)
                            clear BK215
                            clear HB
                            have HO219 := n0_
                            have BK215 := n1_
                            have HB := n2_
                            clear n0_ n1_ n2_
                            clear hb ho27
                            refine hK.out _ _ ⟨(blk_cell BK215.out 0).trans rfl, (blk_cell BK215.out 1).trans rfl, (blk_cell BK215.out 2).trans rfl, (blk_cell BK215.out 3).trans rfl, (blk_cell BK215.out 4).trans rfl, (blk_cell BK215.out 5).trans rfl, (blk_cell BK215.out 6).trans rfl, (blk_cell BK215.out 7).trans rfl, (blk_cell BK215.out 8).trans rfl, (blk_cell BK215.out 9).trans rfl, (blk_cell BK215.out 10).trans rfl, (blk_cell BK215.out 11).trans rfl⟩ (fun hHeld => ?_)
                            clear hK K
                            refine norm_ (a' := ?_) ?_ ?_
                            rotate_left
                            ·show Act.put _ (some 22) _ = _
                             simp only [Act.put, List.setIfInBounds_toArray, List.set_cons_zero, List.set_cons_succ, i64_w, i32_w]
                             rfl
                            exact norm_ B7x1_ (hJ9_13_17_21 (v218) _ ⟨hHeld, B7x3_, B7x2_, B7x0_⟩)
                           ·skip
                            refine goes_ Try.func92 B7x6_ rfl #[.int .i64 a0_6] (by rfl) rfl rfl B7x4_ ?_
                            with_reducible refine (spec_l01Var.calls k a0_6 t223 _ A10.out).mono ?_
                            rintro e w26 ⟨rfl, hb⟩
                            refine ⟨_, rfl, ?_⟩
                            have n0_ := Aside0.mk (blk_below (g := gb215) (o := .cells #[.int .i64 a0_0, .int .i64 a0_1, .int .i64 a0_2, .int .i64 a0_3, .int .i64 a0_4, .int .i64 a0_5, .int .i64 a0_6, .bool a0_7, .slice A0_8 l0_8.length c0_8, .slice A0_9 l0_9.length c0_9, .string a0_10, .bool a0_11] 30 (0, 0)) B7x2_ hb)
                            have n1_ := Aside0.mk (below_step B7x0_ hb)
                            clear BK215
                            clear HB
                            have BK215 := n0_
                            have HB := n1_
                            clear n0_ n1_
                            (try clear hb)
                            (try clear hb2)
                            (try clear hk)
                            (try clear hi)
                            refine hK.out _ _ ⟨(blk_cell BK215.out 0).trans rfl, (blk_cell BK215.out 1).trans rfl, (blk_cell BK215.out 2).trans rfl, (blk_cell BK215.out 3).trans rfl, (blk_cell BK215.out 4).trans rfl, (blk_cell BK215.out 5).trans rfl, (blk_cell BK215.out 6).trans rfl, (blk_cell BK215.out 7).trans rfl, (blk_cell BK215.out 8).trans rfl, (blk_cell BK215.out 9).trans rfl, (blk_cell BK215.out 10).trans rfl, (blk_cell BK215.out 11).trans rfl⟩ (fun hHeld => ?_)
                            clear hK K
                            refine norm_ (a' := ?_) ?_ ?_
                            rotate_left
                            ·show Act.put _ (some 38) _ = _
                             simp only [Act.put, List.setIfInBounds_toArray, List.set_cons_zero, List.set_cons_succ, i64_w, i32_w]
                             rfl
                            exact norm_ B7x1_ (hJ13_17_21_25 () _ ⟨hHeld, B7x2_, B7x0_⟩)
                         ·skip
                          rintro v218 w26 ⟨hS_, h0_, h1_, h2_⟩
                          have n0_ : Aside0 (Kd.R (Kd.int .u8) 5 w26 w.heap.size (fun _ => True) v218 y217) := ⟨h0_⟩
                          have n1_ : Aside0 (w26.heap[gb215]? = some (.cells #[.int .i64 a0_0, .int .i64 a0_1, .int .i64 a0_2, .int .i64 a0_3, .int .i64 a0_4, .int .i64 a0_5, .int .i64 a0_6, .bool a0_7, .slice A0_8 l0_8.length c0_8, .slice A0_9 l0_9.length c0_9, .string a0_10, .bool a0_11] 30 (0, 0))) := ⟨h1_⟩
                          have n2_ : Aside0 (Below w.heap.size w w26) := ⟨h2_⟩
                          clear BK215
                          clear HB
                          clear h0_ h1_ h2_
                          have HO219 := n0_
                          have BK215 := n1_
                          have HB := n2_
                          clear n0_ n1_ n2_
                          have hHeld : w26.cell? ⟨gb215, 0, none⟩ = some (.int .i64 a0_0) ∧ w26.cell? ⟨gb215, 1, none⟩ = some (.int .i64 a0_1) ∧ w26.cell? ⟨gb215, 2, none⟩ = some (.int .i64 a0_2) ∧ w26.cell? ⟨gb215, 3, none⟩ = some (.int .i64 a0_3) ∧ w26.cell? ⟨gb215, 4, none⟩ = some (.int .i64 a0_4) ∧ w26.cell? ⟨gb215, 5, none⟩ = some (.int .i64 a0_5) ∧ w26.cell? ⟨gb215, 6, none⟩ = some (.int .i64 a0_6) ∧ w26.cell? ⟨gb215, 7, none⟩ = some (.bool a0_7) ∧ w26.cell? ⟨gb215, 8, none⟩ = some (.slice A0_8 l0_8.length c0_8) ∧ w26.cell? ⟨gb215, 9, none⟩ = some (.slice A0_9 l0_9.length c0_9) ∧ w26.cell? ⟨gb215, 10, none⟩ = some (.string a0_10) ∧ w26.cell? ⟨gb215, 11, none⟩ = some (.bool a0_11) := hS_
                          refine norm_ (a' := ?_) ?_ ?_
                          rotate_left
                          ·simp only [putAll, Act.put, List.setIfInBounds_toArray, List.set_cons_zero, List.set_cons_succ]
                           rfl
                          refine two_ (i := 10) (j := 21) (Ni := some 23) (Nj := some 34) #[true, true, true, true, true, true, true, true, true, true, true, true, true, true, false, true, true, true, false, true, true, false, false, true, true, false, false, true, true, false, false, true, true, false, false, true, true, true, false, false, false] #[true, true, true, true, true, true, true, true, true, true, false, true, true, true, false, true, true, true, false, true, true, true, false, true, true, false, false, true, true, false, false, true, true, false, false, true, true, true, false, false, false] rfl rfl rfl rfl (two_of HT_.out B7x6_) (by decide) (by decide) (fun K hK => ?_) (fun K hK => ?_)
                          ·skip
                           have hcv27 := own_string (P := Try.prog) Try.underlying43 Try.underlying5 Try.underlying9 (Kd.own_of_R HO219.out)
                           refine value_ (w1 := ?_) (v := ?_) (by rfl) rfl ?_ ?_
                           rotate_left 2
                           ·go_simp
                            constructor
                            ·rfl
                            ·rfl
                           clear hcv27
                           refine hK.out _ _ ⟨(blk_cell BK215.out 0).trans rfl, (blk_cell BK215.out 1).trans rfl, (blk_cell BK215.out 2).trans rfl, (blk_cell BK215.out 3).trans rfl, (blk_cell BK215.out 4).trans rfl, (blk_cell BK215.out 5).trans rfl, (blk_cell BK215.out 6).trans rfl, (blk_cell BK215.out 7).trans rfl, (blk_cell BK215.out 8).trans rfl, (blk_cell BK215.out 9).trans rfl, (blk_cell BK215.out 10).trans rfl, (blk_cell BK215.out 11).trans rfl⟩ (fun hHeld => ?_)
                           clear hK K
                           refine norm_ (a' := ?_) ?_ ?_
                           rotate_left
                           ·show Act.put _ (some 23) _ = _
                            simp only [Act.put, List.setIfInBounds_toArray, List.set_cons_zero, List.set_cons_succ, i64_w, i32_w]
                            rfl
                           refine pu_ 14 27 HT_ ?_
                           refine pu_ 18 31 HT_ ?_
                           exact norm_ B7x1_ (hJ9_10_13_17 (v218) _ ⟨hHeld, B7x3_, B7x2_, B7x0_⟩)
                          ·skip
                           refine goes_ Try.func92 B7x6_ rfl #[.int .i64 a0_5] (by rfl) rfl rfl B7x4_ ?_
                           with_reducible refine (spec_l01Var.calls k a0_5 t222 _ A8.out).mono ?_
                           rintro e w27 ⟨rfl, hb⟩
                           refine ⟨_, rfl, ?_⟩
                           have n0_ := Aside0.mk (Kd.R_below B7x3_ hb)
                           have n1_ := Aside0.mk (blk_below (g := gb215) (o := .cells #[.int .i64 a0_0, .int .i64 a0_1, .int .i64 a0_2, .int .i64 a0_3, .int .i64 a0_4, .int .i64 a0_5, .int .i64 a0_6, .bool a0_7, .slice A0_8 l0_8.length c0_8, .slice A0_9 l0_9.length c0_9, .string a0_10, .bool a0_11] 30 (0, 0)) B7x2_ hb)
                           have n2_ := Aside0.mk (below_step B7x0_ hb)
                           clear HO219
                           clear BK215
                           clear HB
                           have HO219 := n0_
                           have BK215 := n1_
                           have HB := n2_
                           clear n0_ n1_ n2_
                           (try clear hb)
                           (try clear hb2)
                           (try clear hk)
                           (try clear hi)
                           refine hK.out _ _ ⟨(blk_cell BK215.out 0).trans rfl, (blk_cell BK215.out 1).trans rfl, (blk_cell BK215.out 2).trans rfl, (blk_cell BK215.out 3).trans rfl, (blk_cell BK215.out 4).trans rfl, (blk_cell BK215.out 5).trans rfl, (blk_cell BK215.out 6).trans rfl, (blk_cell BK215.out 7).trans rfl, (blk_cell BK215.out 8).trans rfl, (blk_cell BK215.out 9).trans rfl, (blk_cell BK215.out 10).trans rfl, (blk_cell BK215.out 11).trans rfl⟩ (fun hHeld => ?_)
                           clear hK K
                           refine norm_ (a' := ?_) ?_ ?_
                           rotate_left
                           ·show Act.put _ (some 34) _ = _
                            simp only [Act.put, List.setIfInBounds_toArray, List.set_cons_zero, List.set_cons_succ, i64_w, i32_w]
                            rfl
                           exact norm_ B7x1_ (hJ9_13_17_21 (v218) _ ⟨hHeld, B7x3_, B7x2_, B7x0_⟩)
                        ·skip
                         rintro v218 w26 ⟨hS_, h0_, h1_, h2_⟩
                         have n0_ : Aside0 (Kd.R (Kd.int .u8) 5 w26 w.heap.size (fun _ => True) v218 y217) := ⟨h0_⟩
                         have n1_ : Aside0 (w26.heap[gb215]? = some (.cells #[.int .i64 a0_0, .int .i64 a0_1, .int .i64 a0_2, .int .i64 a0_3, .int .i64 a0_4, .int .i64 a0_5, .int .i64 a0_6, .bool a0_7, .slice A0_8 l0_8.length c0_8, .slice A0_9 l0_9.length c0_9, .string a0_10, .bool a0_11] 30 (0, 0))) := ⟨h1_⟩
                         have n2_ : Aside0 (Below w.heap.size w w26) := ⟨h2_⟩
                         clear BK215
                         clear HB
                         clear h0_ h1_ h2_
                         have HO219 := n0_
                         have BK215 := n1_
                         have HB := n2_
                         clear n0_ n1_ n2_
                         have hHeld : w26.cell? ⟨gb215, 0, none⟩ = some (.int .i64 a0_0) ∧ w26.cell? ⟨gb215, 1, none⟩ = some (.int .i64 a0_1) ∧ w26.cell? ⟨gb215, 2, none⟩ = some (.int .i64 a0_2) ∧ w26.cell? ⟨gb215, 3, none⟩ = some (.int .i64 a0_3) ∧ w26.cell? ⟨gb215, 4, none⟩ = some (.int .i64 a0_4) ∧ w26.cell? ⟨gb215, 5, none⟩ = some (.int .i64 a0_5) ∧ w26.cell? ⟨gb215, 6, none⟩ = some (.int .i64 a0_6) ∧ w26.cell? ⟨gb215, 7, none⟩ = some (.bool a0_7) ∧ w26.cell? ⟨gb215, 8, none⟩ = some (.slice A0_8 l0_8.length c0_8) ∧ w26.cell? ⟨gb215, 9, none⟩ = some (.slice A0_9 l0_9.length c0_9) ∧ w26.cell? ⟨gb215, 10, none⟩ = some (.string a0_10) ∧ w26.cell? ⟨gb215, 11, none⟩ = some (.bool a0_11) := hS_
                         refine norm_ (a' := ?_) ?_ ?_
                         rotate_left
                         ·simp only [putAll, Act.put, List.setIfInBounds_toArray, List.set_cons_zero, List.set_cons_succ]
                          rfl
                         refine one_ (i := 17) (N := some 30) #[true, true, true, true, true, true, true, true, true, true, true, true, true, true, true, true, true, true, false, true, true, false, false, true, true, false, false, true, true, false, false, true, true, false, false, true, true, true, false, false, false] rfl rfl (one_of HT_.out B7x6_) (by decide) (fun K hK => ?_)
                         refine goes_ Try.func92 B7x6_ rfl #[.int .i64 a0_4] (by rfl) rfl rfl B7x4_ ?_
                         with_reducible refine (spec_l01Var.calls k a0_4 t221 _ A6.out).mono ?_
                         rintro e w27 ⟨rfl, hb⟩
                         refine ⟨_, rfl, ?_⟩
                         have n0_ := Aside0.mk (Kd.R_below B7x3_ hb)
                         have n1_ := Aside0.mk (blk_below (g := gb215) (o := .cells #[.int .i64 a0_0, .int .i64 a0_1, .int .i64 a0_2, .int .i64 a0_3, .int .i64 a0_4, .int .i64 a0_5, .int .i64 a0_6, .bool a0_7, .slice A0_8 l0_8.length c0_8, .slice A0_9 l0_9.length c0_9, .string a0_10, .bool a0_11] 30 (0, 0)) B7x2_ hb)
                         have n2_ := Aside0.mk (below_step B7x0_ hb)
                         clear HO219
                         clear BK215
                         clear HB
                         have HO219 := n0_
                         have BK215 := n1_
                         have HB := n2_
                         clear n0_ n1_ n2_
                         (try clear hb)
                         (try clear hb2)
                         (try clear hk)
                         (try clear hi)
                         refine hK.out _ _ ⟨(blk_cell BK215.out 0).trans rfl, (blk_cell BK215.out 1).trans rfl, (blk_cell BK215.out 2).trans rfl, (blk_cell BK215.out 3).trans rfl, (blk_cell BK215.out 4).trans rfl, (blk_cell BK215.out 5).trans rfl, (blk_cell BK215.out 6).trans rfl, (blk_cell BK215.out 7).trans rfl, (blk_cell BK215.out 8).trans rfl, (blk_cell BK215.out 9).trans rfl, (blk_cell BK215.out 10).trans rfl, (blk_cell BK215.out 11).trans rfl⟩ (fun hHeld => ?_)
                         clear hK K
                         refine norm_ (a' := ?_) ?_ ?_
                         rotate_left
                         ·show Act.put _ (some 30) _ = _
                          simp only [Act.put, List.setIfInBounds_toArray, List.set_cons_zero, List.set_cons_succ, i64_w, i32_w]
                          rfl
                         refine pu_ 18 31 HT_ ?_
                         exact norm_ B7x1_ (hJ9_10_13_17 (v218) _ ⟨hHeld, B7x3_, B7x2_, B7x0_⟩)
                       ·skip
                        rintro _ w26 ⟨hS_, h0_, h1_⟩
                        have n0_ : Aside0 (w26.heap[gb215]? = some (.cells #[.int .i64 a0_0, .int .i64 a0_1, .int .i64 a0_2, .int .i64 a0_3, .int .i64 a0_4, .int .i64 a0_5, .int .i64 a0_6, .bool a0_7, .slice A0_8 l0_8.length c0_8, .slice A0_9 l0_9.length c0_9, .string a0_10, .bool a0_11] 30 (0, 0))) := ⟨h0_⟩
                        have n1_ : Aside0 (Below w.heap.size w w26) := ⟨h1_⟩
                        clear BK215
                        clear HB
                        clear h0_ h1_
                        have BK215 := n0_
                        have HB := n1_
                        clear n0_ n1_
                        have hHeld : w26.cell? ⟨gb215, 0, none⟩ = some (.int .i64 a0_0) ∧ w26.cell? ⟨gb215, 1, none⟩ = some (.int .i64 a0_1) ∧ w26.cell? ⟨gb215, 2, none⟩ = some (.int .i64 a0_2) ∧ w26.cell? ⟨gb215, 3, none⟩ = some (.int .i64 a0_3) ∧ w26.cell? ⟨gb215, 4, none⟩ = some (.int .i64 a0_4) ∧ w26.cell? ⟨gb215, 5, none⟩ = some (.int .i64 a0_5) ∧ w26.cell? ⟨gb215, 6, none⟩ = some (.int .i64 a0_6) ∧ w26.cell? ⟨gb215, 7, none⟩ = some (.bool a0_7) ∧ w26.cell? ⟨gb215, 8, none⟩ = some (.slice A0_8 l0_8.length c0_8) ∧ w26.cell? ⟨gb215, 9, none⟩ = some (.slice A0_9 l0_9.length c0_9) ∧ w26.cell? ⟨gb215, 10, none⟩ = some (.string a0_10) ∧ w26.cell? ⟨gb215, 11, none⟩ = some (.bool a0_11) := hS_
                        refine norm_ (a' := ?_) ?_ ?_
                        rotate_left
                        ·simp only [putAll, Act.put, List.setIfInBounds_toArray, List.set_cons_zero, List.set_cons_succ]
                         rfl
                        refine two_ (i := 9) (j := 29) (Ni := some 22) (Nj := some 42) #[true, true, true, true, true, true, true, true, true, true, false, true, true, true, false, true, true, true, false, true, true, true, false, true, true, true, false, true, true, false, false, true, true, false, false, true, true, true, false, false, false] #[true, true, true, true, true, true, true, true, true, false, false, true, true, true, false, true, true, true, false, true, true, true, false, true, true, true, false, true, true, true, false, true, true, false, false, true, true, true, false, false, false] rfl rfl rfl rfl (two_of HT_.out B7x6_) (by decide) (by decide) (fun K hK => ?_) (fun K hK => ?_)
                        ·skip
                         refine Kd.R_lit_step (Kd.int .u8) _ 5 ?hg (N := 22) ?hd (xs := ([(a0_0) % 256, (a0_1) % 256, (a0_2) % 256] : List Int)) (inner := [.int .u8 ((a0_0) % 256), .int .u8 ((a0_1) % 256), .int .u8 ((a0_2) % 256)]) (ok := fun _ => True) (okp := fun _ => True) ?hr ?hp (fun _ hk => hk) trivial (Below.refl _ _) (Nat.le_refl _) (by simp) ?_; (case hd => rfl); (case hg => rfl); (case hr => first | (go_simp; done) | (go_simp; rfl)); (case hp => exact (Reps.one (show Kd.M (Kd.int .u8) _ _ _ ((a0_0) % 256) [.int .u8 ((a0_0) % 256)] from rfl) (Reps.one (show Kd.M (Kd.int .u8) _ _ _ ((a0_1) % 256) [.int .u8 ((a0_1) % 256)] from rfl) (Reps.one (show Kd.M (Kd.int .u8) _ _ _ ((a0_2) % 256) [.int .u8 ((a0_2) % 256)] from rfl) (Reps.none _ _)))))
                         intro v218 w27 ho28 hb hg_ hnew_
                         clear hg_ hnew_
                         (first | rw [← Ny217.out] at ho28 | (simp only [Int.reduceToNat] at ho28; rw [← Ny217.out] at ho28))
                         have n0_ := Aside0.mk (Kd.R_lower ho28 (below_size B7x0_))
                         have n1_ := Aside0.mk (blk_below (g := gb215) (o := .cells #[.int .i64 a0_0, .int .i64 a0_1, .int .i64 a0_2, .int .i64 a0_3, .int .i64 a0_4, .int .i64 a0_5, .int .i64 a0_6, .bool a0_7, .slice A0_8 l0_8.length c0_8, .slice A0_9 l0_9.length c0_9, .string a0_10, .bool a0_11] 30 (0, 0)) B7x2_ hb)
                         have n2_ := Aside0.mk (below_step B7x0_ hb)
                         clear BK215
                         clear HB
                         have HO219 := n0_
                         have BK215 := n1_
                         have HB := n2_
                         clear n0_ n1_ n2_
                         clear hb ho28
                         refine hK.out _ _ ⟨(blk_cell BK215.out 0).trans rfl, (blk_cell BK215.out 1).trans rfl, (blk_cell BK215.out 2).trans rfl, (blk_cell BK215.out 3).trans rfl, (blk_cell BK215.out 4).trans rfl, (blk_cell BK215.out 5).trans rfl, (blk_cell BK215.out 6).trans rfl, (blk_cell BK215.out 7).trans rfl, (blk_cell BK215.out 8).trans rfl, (blk_cell BK215.out 9).trans rfl, (blk_cell BK215.out 10).trans rfl, (blk_cell BK215.out 11).trans rfl⟩ (fun hHeld => ?_)
                         clear hK K
                         refine norm_ (a' := ?_) ?_ ?_
                         rotate_left
                         ·show Act.put _ (some 22) _ = _
                          simp only [Act.put, List.setIfInBounds_toArray, List.set_cons_zero, List.set_cons_succ, i64_w, i32_w]
                          rfl
                         exact norm_ B7x1_ (hJ9_13_17_21_25 (v218) _ ⟨hHeld, B7x3_, B7x2_, B7x0_⟩)
                        ·skip
                         refine goes_ Try.func96 B7x6_ rfl #[.bool a0_7] (by rfl) rfl rfl B7x4_ ?_
                         with_reducible refine (spec_l17Flag.calls a0_7 t224 _ A12.out).mono ?_
                         rintro e w' ⟨rfl, ⟨nd, rfl⟩⟩
                         refine ⟨_, rfl, ?_⟩
                         refine hK.out _ _ ⟨(blk_cell BK215.out 0).trans rfl, (blk_cell BK215.out 1).trans rfl, (blk_cell BK215.out 2).trans rfl, (blk_cell BK215.out 3).trans rfl, (blk_cell BK215.out 4).trans rfl, (blk_cell BK215.out 5).trans rfl, (blk_cell BK215.out 6).trans rfl, (blk_cell BK215.out 7).trans rfl, (blk_cell BK215.out 8).trans rfl, (blk_cell BK215.out 9).trans rfl, (blk_cell BK215.out 10).trans rfl, (blk_cell BK215.out 11).trans rfl⟩ (fun hHeld => ?_)
                         clear hK K
                         refine norm_ (a' := ?_) ?_ ?_
                         rotate_left
                         ·show Act.put _ (some 42) _ = _
                          simp only [Act.put, List.setIfInBounds_toArray, List.set_cons_zero, List.set_cons_succ, i64_w, i32_w]
                          rfl
                         exact norm_ B7x1_ (hJ13_17_21_25_29 () _ ⟨hHeld, B7x2_, B7x0_⟩)
                      ·skip
                       rintro v218 w27 ⟨hS_, h0_, h1_, h2_⟩
                       have n0_ : Aside0 (Kd.R (Kd.int .u8) 5 w27 w.heap.size (fun _ => True) v218 y217) := ⟨h0_⟩
                       have n1_ : Aside0 (w27.heap[gb215]? = some (.cells #[.int .i64 a0_0, .int .i64 a0_1, .int .i64 a0_2, .int .i64 a0_3, .int .i64 a0_4, .int .i64 a0_5, .int .i64 a0_6, .bool a0_7, .slice A0_8 l0_8.length c0_8, .slice A0_9 l0_9.length c0_9, .string a0_10, .bool a0_11] 30 (0, 0))) := ⟨h1_⟩
                       have n2_ : Aside0 (Below w.heap.size w w27) := ⟨h2_⟩
                       clear BK215
                       clear HB
                       clear h0_ h1_ h2_
                       have HO219 := n0_
                       have BK215 := n1_
                       have HB := n2_
                       clear n0_ n1_ n2_
                       have hHeld : w27.cell? ⟨gb215, 0, none⟩ = some (.int .i64 a0_0) ∧ w27.cell? ⟨gb215, 1, none⟩ = some (.int .i64 a0_1) ∧ w27.cell? ⟨gb215, 2, none⟩ = some (.int .i64 a0_2) ∧ w27.cell? ⟨gb215, 3, none⟩ = some (.int .i64 a0_3) ∧ w27.cell? ⟨gb215, 4, none⟩ = some (.int .i64 a0_4) ∧ w27.cell? ⟨gb215, 5, none⟩ = some (.int .i64 a0_5) ∧ w27.cell? ⟨gb215, 6, none⟩ = some (.int .i64 a0_6) ∧ w27.cell? ⟨gb215, 7, none⟩ = some (.bool a0_7) ∧ w27.cell? ⟨gb215, 8, none⟩ = some (.slice A0_8 l0_8.length c0_8) ∧ w27.cell? ⟨gb215, 9, none⟩ = some (.slice A0_9 l0_9.length c0_9) ∧ w27.cell? ⟨gb215, 10, none⟩ = some (.string a0_10) ∧ w27.cell? ⟨gb215, 11, none⟩ = some (.bool a0_11) := hS_
                       refine norm_ (a' := ?_) ?_ ?_
                       rotate_left
                       ·simp only [putAll, Act.put, List.setIfInBounds_toArray, List.set_cons_zero, List.set_cons_succ]
                        rfl
                       refine two_ (i := 10) (j := 25) (Ni := some 23) (Nj := some 38) #[true, true, true, true, true, true, true, true, true, true, true, true, true, true, false, true, true, true, false, true, true, true, false, true, true, false, false, true, true, false, false, true, true, false, false, true, true, true, false, false, false] #[true, true, true, true, true, true, true, true, true, true, false, true, true, true, false, true, true, true, false, true, true, true, false, true, true, true, false, true, true, false, false, true, true, false, false, true, true, true, false, false, false] rfl rfl rfl rfl (two_of HT_.out B7x6_) (by decide) (by decide) (fun K hK => ?_) (fun K hK => ?_)
                       ·skip
                        have hcv28 := own_string (P := Try.prog) Try.underlying43 Try.underlying5 Try.underlying9 (Kd.own_of_R HO219.out)
                        refine value_ (w1 := ?_) (v := ?_) (by rfl) rfl ?_ ?_
                        rotate_left 2
                        ·go_simp
                         constructor
                         ·rfl
                         ·rfl
                        clear hcv28
                        refine hK.out _ _ ⟨(blk_cell BK215.out 0).trans rfl, (blk_cell BK215.out 1).trans rfl, (blk_cell BK215.out 2).trans rfl, (blk_cell BK215.out 3).trans rfl, (blk_cell BK215.out 4).trans rfl, (blk_cell BK215.out 5).trans rfl, (blk_cell BK215.out 6).trans rfl, (blk_cell BK215.out 7).trans rfl, (blk_cell BK215.out 8).trans rfl, (blk_cell BK215.out 9).trans rfl, (blk_cell BK215.out 10).trans rfl, (blk_cell BK215.out 11).trans rfl⟩ (fun hHeld => ?_)
                        clear hK K
                        refine norm_ (a' := ?_) ?_ ?_
                        rotate_left
                        ·show Act.put _ (some 23) _ = _
                         simp only [Act.put, List.setIfInBounds_toArray, List.set_cons_zero, List.set_cons_succ, i64_w, i32_w]
                         rfl
                        refine pu_ 14 27 HT_ ?_
                        refine pu_ 18 31 HT_ ?_
                        refine pu_ 22 35 HT_ ?_
                        exact norm_ B7x1_ (hJ9_10_13_17_21 (v218) _ ⟨hHeld, B7x3_, B7x2_, B7x0_⟩)
                       ·skip
                        refine goes_ Try.func92 B7x6_ rfl #[.int .i64 a0_6] (by rfl) rfl rfl B7x4_ ?_
                        with_reducible refine (spec_l01Var.calls k a0_6 t223 _ A10.out).mono ?_
                        rintro e w28 ⟨rfl, hb⟩
                        refine ⟨_, rfl, ?_⟩
                        have n0_ := Aside0.mk (Kd.R_below B7x3_ hb)
                        have n1_ := Aside0.mk (blk_below (g := gb215) (o := .cells #[.int .i64 a0_0, .int .i64 a0_1, .int .i64 a0_2, .int .i64 a0_3, .int .i64 a0_4, .int .i64 a0_5, .int .i64 a0_6, .bool a0_7, .slice A0_8 l0_8.length c0_8, .slice A0_9 l0_9.length c0_9, .string a0_10, .bool a0_11] 30 (0, 0)) B7x2_ hb)
                        have n2_ := Aside0.mk (below_step B7x0_ hb)
                        clear HO219
                        clear BK215
                        clear HB
                        have HO219 := n0_
                        have BK215 := n1_
                        have HB := n2_
                        clear n0_ n1_ n2_
                        (try clear hb)
                        (try clear hb2)
                        (try clear hk)
                        (try clear hi)
                        refine hK.out _ _ ⟨(blk_cell BK215.out 0).trans rfl, (blk_cell BK215.out 1).trans rfl, (blk_cell BK215.out 2).trans rfl, (blk_cell BK215.out 3).trans rfl, (blk_cell BK215.out 4).trans rfl, (blk_cell BK215.out 5).trans rfl, (blk_cell BK215.out 6).trans rfl, (blk_cell BK215.out 7).trans rfl, (blk_cell BK215.out 8).trans rfl, (blk_cell BK215.out 9).trans rfl, (blk_cell BK215.out 10).trans rfl, (blk_cell BK215.out 11).trans rfl⟩ (fun hHeld => ?_)
                        clear hK K
                        refine norm_ (a' := ?_) ?_ ?_
                        rotate_left
                        ·show Act.put _ (some 38) _ = _
                         simp only [Act.put, List.setIfInBounds_toArray, List.set_cons_zero, List.set_cons_succ, i64_w, i32_w]
                         rfl
                        exact norm_ B7x1_ (hJ9_13_17_21_25 (v218) _ ⟨hHeld, B7x3_, B7x2_, B7x0_⟩)
                     ·skip
                      rintro v218 w27 ⟨hS_, h0_, h1_, h2_⟩
                      have n0_ : Aside0 (Kd.R (Kd.int .u8) 5 w27 w.heap.size (fun _ => True) v218 y217) := ⟨h0_⟩
                      have n1_ : Aside0 (w27.heap[gb215]? = some (.cells #[.int .i64 a0_0, .int .i64 a0_1, .int .i64 a0_2, .int .i64 a0_3, .int .i64 a0_4, .int .i64 a0_5, .int .i64 a0_6, .bool a0_7, .slice A0_8 l0_8.length c0_8, .slice A0_9 l0_9.length c0_9, .string a0_10, .bool a0_11] 30 (0, 0))) := ⟨h1_⟩
                      have n2_ : Aside0 (Below w.heap.size w w27) := ⟨h2_⟩
                      clear BK215
                      clear HB
                      clear h0_ h1_ h2_
                      have HO219 := n0_
                      have BK215 := n1_
                      have HB := n2_
                      clear n0_ n1_ n2_
                      have hHeld : w27.cell? ⟨gb215, 0, none⟩ = some (.int .i64 a0_0) ∧ w27.cell? ⟨gb215, 1, none⟩ = some (.int .i64 a0_1) ∧ w27.cell? ⟨gb215, 2, none⟩ = some (.int .i64 a0_2) ∧ w27.cell? ⟨gb215, 3, none⟩ = some (.int .i64 a0_3) ∧ w27.cell? ⟨gb215, 4, none⟩ = some (.int .i64 a0_4) ∧ w27.cell? ⟨gb215, 5, none⟩ = some (.int .i64 a0_5) ∧ w27.cell? ⟨gb215, 6, none⟩ = some (.int .i64 a0_6) ∧ w27.cell? ⟨gb215, 7, none⟩ = some (.bool a0_7) ∧ w27.cell? ⟨gb215, 8, none⟩ = some (.slice A0_8 l0_8.length c0_8) ∧ w27.cell? ⟨gb215, 9, none⟩ = some (.slice A0_9 l0_9.length c0_9) ∧ w27.cell? ⟨gb215, 10, none⟩ = some (.string a0_10) ∧ w27.cell? ⟨gb215, 11, none⟩ = some (.bool a0_11) := hS_
                      refine norm_ (a' := ?_) ?_ ?_
                      rotate_left
                      ·simp only [putAll, Act.put, List.setIfInBounds_toArray, List.set_cons_zero, List.set_cons_succ]
                       rfl
                      refine one_ (i := 21) (N := some 34) #[true, true, true, true, true, true, true, true, true, true, true, true, true, true, true, true, true, true, true, true, true, true, false, true, true, false, false, true, true, false, false, true, true, false, false, true, true, true, false, false, false] rfl rfl (one_of HT_.out B7x6_) (by decide) (fun K hK => ?_)
                      refine goes_ Try.func92 B7x6_ rfl #[.int .i64 a0_5] (by rfl) rfl rfl B7x4_ ?_
                      with_reducible refine (spec_l01Var.calls k a0_5 t222 _ A8.out).mono ?_
                      rintro e w28 ⟨rfl, hb⟩
                      refine ⟨_, rfl, ?_⟩
                      have n0_ := Aside0.mk (Kd.R_below B7x3_ hb)
                      have n1_ := Aside0.mk (blk_below (g := gb215) (o := .cells #[.int .i64 a0_0, .int .i64 a0_1, .int .i64 a0_2, .int .i64 a0_3, .int .i64 a0_4, .int .i64 a0_5, .int .i64 a0_6, .bool a0_7, .slice A0_8 l0_8.length c0_8, .slice A0_9 l0_9.length c0_9, .string a0_10, .bool a0_11] 30 (0, 0)) B7x2_ hb)
                      have n2_ := Aside0.mk (below_step B7x0_ hb)
                      clear HO219
                      clear BK215
                      clear HB
                      have HO219 := n0_
                      have BK215 := n1_
                      have HB := n2_
                      clear n0_ n1_ n2_
                      (try clear hb)
                      (try clear hb2)
                      (try clear hk)
                      (try clear hi)
                      refine hK.out _ _ ⟨(blk_cell BK215.out 0).trans rfl, (blk_cell BK215.out 1).trans rfl, (blk_cell BK215.out 2).trans rfl, (blk_cell BK215.out 3).trans rfl, (blk_cell BK215.out 4).trans rfl, (blk_cell BK215.out 5).trans rfl, (blk_cell BK215.out 6).trans rfl, (blk_cell BK215.out 7).trans rfl, (blk_cell BK215.out 8).trans rfl, (blk_cell BK215.out 9).trans rfl, (blk_cell BK215.out 10).trans rfl, (blk_cell BK215.out 11).trans rfl⟩ (fun hHeld => ?_)
                      clear hK K
                      refine norm_ (a' := ?_) ?_ ?_
                      rotate_left
                      ·show Act.put _ (some 34) _ = _
                       simp only [Act.put, List.setIfInBounds_toArray, List.set_cons_zero, List.set_cons_succ, i64_w, i32_w]
                       rfl
                      refine pu_ 22 35 HT_ ?_
                      exact norm_ B7x1_ (hJ9_10_13_17_21 (v218) _ ⟨hHeld, B7x3_, B7x2_, B7x0_⟩)
                    ·skip
                     rintro _ w26 ⟨hS_, h0_, h1_⟩
                     have n0_ : Aside0 (w26.heap[gb215]? = some (.cells #[.int .i64 a0_0, .int .i64 a0_1, .int .i64 a0_2, .int .i64 a0_3, .int .i64 a0_4, .int .i64 a0_5, .int .i64 a0_6, .bool a0_7, .slice A0_8 l0_8.length c0_8, .slice A0_9 l0_9.length c0_9, .string a0_10, .bool a0_11] 30 (0, 0))) := ⟨h0_⟩
                     have n1_ : Aside0 (Below w.heap.size w w26) := ⟨h1_⟩
                     clear BK215
                     clear HB
                     clear h0_ h1_
                     have BK215 := n0_
                     have HB := n1_
                     clear n0_ n1_
                     have hHeld : w26.cell? ⟨gb215, 0, none⟩ = some (.int .i64 a0_0) ∧ w26.cell? ⟨gb215, 1, none⟩ = some (.int .i64 a0_1) ∧ w26.cell? ⟨gb215, 2, none⟩ = some (.int .i64 a0_2) ∧ w26.cell? ⟨gb215, 3, none⟩ = some (.int .i64 a0_3) ∧ w26.cell? ⟨gb215, 4, none⟩ = some (.int .i64 a0_4) ∧ w26.cell? ⟨gb215, 5, none⟩ = some (.int .i64 a0_5) ∧ w26.cell? ⟨gb215, 6, none⟩ = some (.int .i64 a0_6) ∧ w26.cell? ⟨gb215, 7, none⟩ = some (.bool a0_7) ∧ w26.cell? ⟨gb215, 8, none⟩ = some (.slice A0_8 l0_8.length c0_8) ∧ w26.cell? ⟨gb215, 9, none⟩ = some (.slice A0_9 l0_9.length c0_9) ∧ w26.cell? ⟨gb215, 10, none⟩ = some (.string a0_10) ∧ w26.cell? ⟨gb215, 11, none⟩ = some (.bool a0_11) := hS_
                     refine norm_ (a' := ?_) ?_ ?_
                     rotate_left
                     ·simp only [putAll, Act.put, List.setIfInBounds_toArray, List.set_cons_zero, List.set_cons_succ]
                      rfl
                     refine two_ (i := 9) (j := 33) (Ni := some 22) (Nj := some 46) #[true, true, true, true, true, true, true, true, true, true, false, true, true, true, false, true, true, true, false, true, true, true, false, true, true, true, false, true, true, true, false, true, true, false, false, true, true, true, false, false, false] #[true, true, true, true, true, true, true, true, true, false, false, true, true, true, false, true, true, true, false, true, true, true, false, true, true, true, false, true, true, true, false, true, true, true, false, true, true, true, false, false, false] rfl rfl rfl rfl (two_of HT_.out B7x6_) (by decide) (by decide) (fun K hK => ?_) (fun K hK => ?_)
                     ·skip
                      refine Kd.R_lit_step (Kd.int .u8) _ 5 ?hg (N := 22) ?hd (xs := ([(a0_0) % 256, (a0_1) % 256, (a0_2) % 256] : List Int)) (inner := [.int .u8 ((a0_0) % 256), .int .u8 ((a0_1) % 256), .int .u8 ((a0_2) % 256)]) (ok := fun _ => True) (okp := fun _ => True) ?hr ?hp (fun _ hk => hk) trivial (Below.refl _ _) (Nat.le_refl _) (by simp) ?_; (case hd => rfl); (case hg => rfl); (case hr => first | (go_simp; done) | (go_simp; rfl)); (case hp => exact (Reps.one (show Kd.M (Kd.int .u8) _ _ _ ((a0_0) % 256) [.int .u8 ((a0_0) % 256)] from rfl) (Reps.one (show Kd.M (Kd.int .u8) _ _ _ ((a0_1) % 256) [.int .u8 ((a0_1) % 256)] from rfl) (Reps.one (show Kd.M (Kd.int .u8) _ _ _ ((a0_2) % 256) [.int .u8 ((a0_2) % 256)] from rfl) (Reps.none _ _)))))
                      intro v218 w27 ho28 hb hg_ hnew_
                      clear hg_ hnew_
                      (first | rw [← Ny217.out] at ho28 | (simp only [Int.reduceToNat] at ho28; rw [← Ny217.out] at ho28))
                      have n0_ := Aside0.mk (Kd.R_lower ho28 (below_size B7x0_))
                      have n1_ := Aside0.mk (blk_below (g := gb215) (o := .cells #[.int .i64 a0_0, .int .i64 a0_1, .int .i64 a0_2, .int .i64 a0_3, .int .i64 a0_4, .int .i64 a0_5, .int .i64 a0_6, .bool a0_7, .slice A0_8 l0_8.length c0_8, .slice A0_9 l0_9.length c0_9, .string a0_10, .bool a0_11] 30 (0, 0)) B7x2_ hb)
                      have n2_ := Aside0.mk (below_step B7x0_ hb)
                      clear BK215
                      clear HB
                      have HO219 := n0_
                      have BK215 := n1_
                      have HB := n2_
                      clear n0_ n1_ n2_
                      clear hb ho28
                      refine hK.out _ _ ⟨(blk_cell BK215.out 0).trans rfl, (blk_cell BK215.out 1).trans rfl, (blk_cell BK215.out 2).trans rfl, (blk_cell BK215.out 3).trans rfl, (blk_cell BK215.out 4).trans rfl, (blk_cell BK215.out 5).trans rfl, (blk_cell BK215.out 6).trans rfl, (blk_cell BK215.out 7).trans rfl, (blk_cell BK215.out 8).trans rfl, (blk_cell BK215.out 9).trans rfl, (blk_cell BK215.out 10).trans rfl, (blk_cell BK215.out 11).trans rfl⟩ (fun hHeld => ?_)
                      clear hK K
                      refine norm_ (a' := ?_) ?_ ?_
                      rotate_left
                      ·show Act.put _ (some 22) _ = _
                       simp only [Act.put, List.setIfInBounds_toArray, List.set_cons_zero, List.set_cons_succ, i64_w, i32_w]
                       rfl
                      exact norm_ B7x1_ (hJ9_13_17_21_25_29 (v218) _ ⟨hHeld, B7x3_, B7x2_, B7x0_⟩)
                     ·skip
                      refine goes_ Try.func96 B7x6_ rfl #[.bool a0_11] (by rfl) rfl rfl B7x4_ ?_
                      with_reducible refine (spec_l17Flag.calls a0_11 t225 _ A14.out).mono ?_
                      rintro e w' ⟨rfl, ⟨nd, rfl⟩⟩
                      refine ⟨_, rfl, ?_⟩
                      refine hK.out _ _ ⟨(blk_cell BK215.out 0).trans rfl, (blk_cell BK215.out 1).trans rfl, (blk_cell BK215.out 2).trans rfl, (blk_cell BK215.out 3).trans rfl, (blk_cell BK215.out 4).trans rfl, (blk_cell BK215.out 5).trans rfl, (blk_cell BK215.out 6).trans rfl, (blk_cell BK215.out 7).trans rfl, (blk_cell BK215.out 8).trans rfl, (blk_cell BK215.out 9).trans rfl, (blk_cell BK215.out 10).trans rfl, (blk_cell BK215.out 11).trans rfl⟩ (fun hHeld => ?_)
                      clear hK K
                      refine norm_ (a' := ?_) ?_ ?_
                      rotate_left
                      ·show Act.put _ (some 46) _ = _
                       simp only [Act.put, List.setIfInBounds_toArray, List.set_cons_zero, List.set_cons_succ, i64_w, i32_w]
                       rfl
                      exact norm_ B7x1_ (hJ13_17_21_25_29_33 () _ ⟨hHeld, B7x2_, B7x0_⟩)
                   ·skip
                    rintro v218 w28 ⟨hS_, h0_, h1_, h2_⟩
                    have n0_ : Aside0 (Kd.R (Kd.int .u8) 5 w28 w.heap.size (fun _ => True) v218 y217) := ⟨h0_⟩
                    have n1_ : Aside0 (w28.heap[gb215]? = some (.cells #[.int .i64 a0_0, .int .i64 a0_1, .int .i64 a0_2, .int .i64 a0_3, .int .i64 a0_4, .int .i64 a0_5, .int .i64 a0_6, .bool a0_7, .slice A0_8 l0_8.length c0_8, .slice A0_9 l0_9.length c0_9, .string a0_10, .bool a0_11] 30 (0, 0))) := ⟨h1_⟩
                    have n2_ : Aside0 (Below w.heap.size w w28) := ⟨h2_⟩
                    clear BK215
                    clear HB
                    clear h0_ h1_ h2_
                    have HO219 := n0_
                    have BK215 := n1_
                    have HB := n2_
                    clear n0_ n1_ n2_
                    have hHeld : w28.cell? ⟨gb215, 0, none⟩ = some (.int .i64 a0_0) ∧ w28.cell? ⟨gb215, 1, none⟩ = some (.int .i64 a0_1) ∧ w28.cell? ⟨gb215, 2, none⟩ = some (.int .i64 a0_2) ∧ w28.cell? ⟨gb215, 3, none⟩ = some (.int .i64 a0_3) ∧ w28.cell? ⟨gb215, 4, none⟩ = some (.int .i64 a0_4) ∧ w28.cell? ⟨gb215, 5, none⟩ = some (.int .i64 a0_5) ∧ w28.cell? ⟨gb215, 6, none⟩ = some (.int .i64 a0_6) ∧ w28.cell? ⟨gb215, 7, none⟩ = some (.bool a0_7) ∧ w28.cell? ⟨gb215, 8, none⟩ = some (.slice A0_8 l0_8.length c0_8) ∧ w28.cell? ⟨gb215, 9, none⟩ = some (.slice A0_9 l0_9.length c0_9) ∧ w28.cell? ⟨gb215, 10, none⟩ = some (.string a0_10) ∧ w28.cell? ⟨gb215, 11, none⟩ = some (.bool a0_11) := hS_
                    refine norm_ (a' := ?_) ?_ ?_
                    rotate_left
                    ·simp only [putAll, Act.put, List.setIfInBounds_toArray, List.set_cons_zero, List.set_cons_succ]
                     rfl
                    refine two_ (i := 10) (j := 29) (Ni := some 23) (Nj := some 42) #[true, true, true, true, true, true, true, true, true, true, true, true, true, true, false, true, true, true, false, true, true, true, false, true, true, true, false, true, true, false, false, true, true, false, false, true, true, true, false, false, false] #[true, true, true, true, true, true, true, true, true, true, false, true, true, true, false, true, true, true, false, true, true, true, false, true, true, true, false, true, true, true, false, true, true, false, false, true, true, true, false, false, false] rfl rfl rfl rfl (two_of HT_.out B7x6_) (by decide) (by decide) (fun K hK => ?_) (fun K hK => ?_)
                    ·skip
                     have hcv29 := own_string (P := Try.prog) Try.underlying43 Try.underlying5 Try.underlying9 (Kd.own_of_R HO219.out)
                     refine value_ (w1 := ?_) (v := ?_) (by rfl) rfl ?_ ?_
                     rotate_left 2
                     ·go_simp
                      constructor
                      ·rfl
                      ·rfl
                     clear hcv29
                     refine hK.out _ _ ⟨(blk_cell BK215.out 0).trans rfl, (blk_cell BK215.out 1).trans rfl, (blk_cell BK215.out 2).trans rfl, (blk_cell BK215.out 3).trans rfl, (blk_cell BK215.out 4).trans rfl, (blk_cell BK215.out 5).trans rfl, (blk_cell BK215.out 6).trans rfl, (blk_cell BK215.out 7).trans rfl, (blk_cell BK215.out 8).trans rfl, (blk_cell BK215.out 9).trans rfl, (blk_cell BK215.out 10).trans rfl, (blk_cell BK215.out 11).trans rfl⟩ (fun hHeld => ?_)
                     clear hK K
                     refine norm_ (a' := ?_) ?_ ?_
                     rotate_left
                     ·show Act.put _ (some 23) _ = _
                      simp only [Act.put, List.setIfInBounds_toArray, List.set_cons_zero, List.set_cons_succ, i64_w, i32_w]
                      rfl
                     refine pu_ 14 27 HT_ ?_
                     refine pu_ 18 31 HT_ ?_
                     refine pu_ 22 35 HT_ ?_
                     refine pu_ 26 39 HT_ ?_
                     exact norm_ B7x1_ (hJ9_10_13_17_21_25 (v218) _ ⟨hHeld, B7x3_, B7x2_, B7x0_⟩)
                    ·skip
                     refine goes_ Try.func96 B7x6_ rfl #[.bool a0_7] (by rfl) rfl rfl B7x4_ ?_
                     with_reducible refine (spec_l17Flag.calls a0_7 t224 _ A12.out).mono ?_
                     rintro e w' ⟨rfl, ⟨nd, rfl⟩⟩
                     refine ⟨_, rfl, ?_⟩
                     refine hK.out _ _ ⟨(blk_cell BK215.out 0).trans rfl, (blk_cell BK215.out 1).trans rfl, (blk_cell BK215.out 2).trans rfl, (blk_cell BK215.out 3).trans rfl, (blk_cell BK215.out 4).trans rfl, (blk_cell BK215.out 5).trans rfl, (blk_cell BK215.out 6).trans rfl, (blk_cell BK215.out 7).trans rfl, (blk_cell BK215.out 8).trans rfl, (blk_cell BK215.out 9).trans rfl, (blk_cell BK215.out 10).trans rfl, (blk_cell BK215.out 11).trans rfl⟩ (fun hHeld => ?_)
                     clear hK K
                     refine norm_ (a' := ?_) ?_ ?_
                     rotate_left
                     ·show Act.put _ (some 42) _ = _
                      simp only [Act.put, List.setIfInBounds_toArray, List.set_cons_zero, List.set_cons_succ, i64_w, i32_w]
                      rfl
                     exact norm_ B7x1_ (hJ9_13_17_21_25_29 (v218) _ ⟨hHeld, B7x3_, B7x2_, B7x0_⟩)
                  ·skip
                   rintro v218 w28 ⟨hS_, h0_, h1_, h2_⟩
                   have n0_ : Aside0 (Kd.R (Kd.int .u8) 5 w28 w.heap.size (fun _ => True) v218 y217) := ⟨h0_⟩
                   have n1_ : Aside0 (w28.heap[gb215]? = some (.cells #[.int .i64 a0_0, .int .i64 a0_1, .int .i64 a0_2, .int .i64 a0_3, .int .i64 a0_4, .int .i64 a0_5, .int .i64 a0_6, .bool a0_7, .slice A0_8 l0_8.length c0_8, .slice A0_9 l0_9.length c0_9, .string a0_10, .bool a0_11] 30 (0, 0))) := ⟨h1_⟩
                   have n2_ : Aside0 (Below w.heap.size w w28) := ⟨h2_⟩
                   clear BK215
                   clear HB
                   clear h0_ h1_ h2_
                   have HO219 := n0_
                   have BK215 := n1_
                   have HB := n2_
                   clear n0_ n1_ n2_
                   have hHeld : w28.cell? ⟨gb215, 0, none⟩ = some (.int .i64 a0_0) ∧ w28.cell? ⟨gb215, 1, none⟩ = some (.int .i64 a0_1) ∧ w28.cell? ⟨gb215, 2, none⟩ = some (.int .i64 a0_2) ∧ w28.cell? ⟨gb215, 3, none⟩ = some (.int .i64 a0_3) ∧ w28.cell? ⟨gb215, 4, none⟩ = some (.int .i64 a0_4) ∧ w28.cell? ⟨gb215, 5, none⟩ = some (.int .i64 a0_5) ∧ w28.cell? ⟨gb215, 6, none⟩ = some (.int .i64 a0_6) ∧ w28.cell? ⟨gb215, 7, none⟩ = some (.bool a0_7) ∧ w28.cell? ⟨gb215, 8, none⟩ = some (.slice A0_8 l0_8.length c0_8) ∧ w28.cell? ⟨gb215, 9, none⟩ = some (.slice A0_9 l0_9.length c0_9) ∧ w28.cell? ⟨gb215, 10, none⟩ = some (.string a0_10) ∧ w28.cell? ⟨gb215, 11, none⟩ = some (.bool a0_11) := hS_
                   refine norm_ (a' := ?_) ?_ ?_
                   rotate_left
                   ·simp only [putAll, Act.put, List.setIfInBounds_toArray, List.set_cons_zero, List.set_cons_succ]
                    rfl
                   refine one_ (i := 25) (N := some 38) #[true, true, true, true, true, true, true, true, true, true, true, true, true, true, true, true, true, true, true, true, true, true, true, true, true, true, false, true, true, false, false, true, true, false, false, true, true, true, false, false, false] rfl rfl (one_of HT_.out B7x6_) (by decide) (fun K hK => ?_)
                   refine goes_ Try.func92 B7x6_ rfl #[.int .i64 a0_6] (by rfl) rfl rfl B7x4_ ?_
                   with_reducible refine (spec_l01Var.calls k a0_6 t223 _ A10.out).mono ?_
                   rintro e w29 ⟨rfl, hb⟩
                   refine ⟨_, rfl, ?_⟩
                   have n0_ := Aside0.mk (Kd.R_below B7x3_ hb)
                   have n1_ := Aside0.mk (blk_below (g := gb215) (o := .cells #[.int .i64 a0_0, .int .i64 a0_1, .int .i64 a0_2, .int .i64 a0_3, .int .i64 a0_4, .int .i64 a0_5, .int .i64 a0_6, .bool a0_7, .slice A0_8 l0_8.length c0_8, .slice A0_9 l0_9.length c0_9, .string a0_10, .bool a0_11] 30 (0, 0)) B7x2_ hb)
                   have n2_ := Aside0.mk (below_step B7x0_ hb)
                   clear HO219
                   clear BK215
                   clear HB
                   have HO219 := n0_
                   have BK215 := n1_
                   have HB := n2_
                   clear n0_ n1_ n2_
                   (try clear hb)
                   (try clear hb2)
                   (try clear hk)
                   (try clear hi)
                   refine hK.out _ _ ⟨(blk_cell BK215.out 0).trans rfl, (blk_cell BK215.out 1).trans rfl, (blk_cell BK215.out 2).trans rfl, (blk_cell BK215.out 3).trans rfl, (blk_cell BK215.out 4).trans rfl, (blk_cell BK215.out 5).trans rfl, (blk_cell BK215.out 6).trans rfl, (blk_cell BK215.out 7).trans rfl, (blk_cell BK215.out 8).trans rfl, (blk_cell BK215.out 9).trans rfl, (blk_cell BK215.out 10).trans rfl, (blk_cell BK215.out 11).trans rfl⟩ (fun hHeld => ?_)
                   clear hK K
                   refine norm_ (a' := ?_) ?_ ?_
                   rotate_left
                   ·show Act.put _ (some 38) _ = _
                    simp only [Act.put, List.setIfInBounds_toArray, List.set_cons_zero, List.set_cons_succ, i64_w, i32_w]
                    rfl
                   refine pu_ 26 39 HT_ ?_
                   exact norm_ B7x1_ (hJ9_10_13_17_21_25 (v218) _ ⟨hHeld, B7x3_, B7x2_, B7x0_⟩)
                 ·skip
                  rintro _ w26 ⟨hS_, h0_, h1_⟩
                  have n0_ : Aside0 (w26.heap[gb215]? = some (.cells #[.int .i64 a0_0, .int .i64 a0_1, .int .i64 a0_2, .int .i64 a0_3, .int .i64 a0_4, .int .i64 a0_5, .int .i64 a0_6, .bool a0_7, .slice A0_8 l0_8.length c0_8, .slice A0_9 l0_9.length c0_9, .string a0_10, .bool a0_11] 30 (0, 0))) := ⟨h0_⟩
                  have n1_ : Aside0 (Below w.heap.size w w26) := ⟨h1_⟩
                  clear BK215
                  clear HB
                  clear h0_ h1_
                  have BK215 := n0_
                  have HB := n1_
                  clear n0_ n1_
                  have hHeld : w26.cell? ⟨gb215, 0, none⟩ = some (.int .i64 a0_0) ∧ w26.cell? ⟨gb215, 1, none⟩ = some (.int .i64 a0_1) ∧ w26.cell? ⟨gb215, 2, none⟩ = some (.int .i64 a0_2) ∧ w26.cell? ⟨gb215, 3, none⟩ = some (.int .i64 a0_3) ∧ w26.cell? ⟨gb215, 4, none⟩ = some (.int .i64 a0_4) ∧ w26.cell? ⟨gb215, 5, none⟩ = some (.int .i64 a0_5) ∧ w26.cell? ⟨gb215, 6, none⟩ = some (.int .i64 a0_6) ∧ w26.cell? ⟨gb215, 7, none⟩ = some (.bool a0_7) ∧ w26.cell? ⟨gb215, 8, none⟩ = some (.slice A0_8 l0_8.length c0_8) ∧ w26.cell? ⟨gb215, 9, none⟩ = some (.slice A0_9 l0_9.length c0_9) ∧ w26.cell? ⟨gb215, 10, none⟩ = some (.string a0_10) ∧ w26.cell? ⟨gb215, 11, none⟩ = some (.bool a0_11) := hS_
                  refine norm_ (a' := ?_) ?_ ?_
                  rotate_left
                  ·simp only [putAll, Act.put, List.setIfInBounds_toArray, List.set_cons_zero, List.set_cons_succ]
                   rfl
                  refine two_ (i := 9) (j := 38) (Ni := some 22) (Nj := some 51) #[true, true, true, true, true, true, true, true, true, true, false, true, true, true, false, true, true, true, false, true, true, true, false, true, true, true, false, true, true, true, false, true, true, true, false, true, true, true, false, false, false] #[true, true, true, true, true, true, true, true, true, false, false, true, true, true, false, true, true, true, false, true, true, true, false, true, true, true, false, true, true, true, false, true, true, true, false, true, true, true, true, false, false] rfl rfl rfl rfl (two_of HT_.out B7x6_) (by decide) (by decide) (fun K hK => ?_) (fun K hK => ?_)
                  ·skip
                   refine Kd.R_lit_step (Kd.int .u8) _ 5 ?hg (N := 22) ?hd (xs := ([(a0_0) % 256, (a0_1) % 256, (a0_2) % 256] : List Int)) (inner := [.int .u8 ((a0_0) % 256), .int .u8 ((a0_1) % 256), .int .u8 ((a0_2) % 256)]) (ok := fun _ => True) (okp := fun _ => True) ?hr ?hp (fun _ hk => hk) trivial (Below.refl _ _) (Nat.le_refl _) (by simp) ?_; (case hd => rfl); (case hg => rfl); (case hr => first | (go_simp; done) | (go_simp; rfl)); (case hp => exact (Reps.one (show Kd.M (Kd.int .u8) _ _ _ ((a0_0) % 256) [.int .u8 ((a0_0) % 256)] from rfl) (Reps.one (show Kd.M (Kd.int .u8) _ _ _ ((a0_1) % 256) [.int .u8 ((a0_1) % 256)] from rfl) (Reps.one (show Kd.M (Kd.int .u8) _ _ _ ((a0_2) % 256) [.int .u8 ((a0_2) % 256)] from rfl) (Reps.none _ _)))))
                   intro v218 w27 ho28 hb hg_ hnew_
                   clear hg_ hnew_
                   (first | rw [← Ny217.out] at ho28 | (simp only [Int.reduceToNat] at ho28; rw [← Ny217.out] at ho28))
                   have n0_ := Aside0.mk (Kd.R_lower ho28 (below_size B7x0_))
                   have n1_ := Aside0.mk (blk_below (g := gb215) (o := .cells #[.int .i64 a0_0, .int .i64 a0_1, .int .i64 a0_2, .int .i64 a0_3, .int .i64 a0_4, .int .i64 a0_5, .int .i64 a0_6, .bool a0_7, .slice A0_8 l0_8.length c0_8, .slice A0_9 l0_9.length c0_9, .string a0_10, .bool a0_11] 30 (0, 0)) B7x2_ hb)
                   have n2_ := Aside0.mk (below_step B7x0_ hb)
                   clear BK215
                   clear HB
                   have HO219 := n0_
                   have BK215 := n1_
                   have HB := n2_
                   clear n0_ n1_ n2_
                   clear hb ho28
                   refine hK.out _ _ ⟨(blk_cell BK215.out 0).trans rfl, (blk_cell BK215.out 1).trans rfl, (blk_cell BK215.out 2).trans rfl, (blk_cell BK215.out 3).trans rfl, (blk_cell BK215.out 4).trans rfl, (blk_cell BK215.out 5).trans rfl, (blk_cell BK215.out 6).trans rfl, (blk_cell BK215.out 7).trans rfl, (blk_cell BK215.out 8).trans rfl, (blk_cell BK215.out 9).trans rfl, (blk_cell BK215.out 10).trans rfl, (blk_cell BK215.out 11).trans rfl⟩ (fun hHeld => ?_)
                   clear hK K
                   refine norm_ (a' := ?_) ?_ ?_
                   rotate_left
                   ·show Act.put _ (some 22) _ = _
                    simp only [Act.put, List.setIfInBounds_toArray, List.set_cons_zero, List.set_cons_succ, i64_w, i32_w]
                    rfl
                   exact norm_ B7x1_ (hJ9_13_17_21_25_29_33 (v218) _ ⟨hHeld, B7x3_, B7x2_, B7x0_⟩)
                  ·skip
                   refine goes_ Try.func92 B7x6_ rfl #[.int .i64 (l0_8.length : Int)] (by rfl) rfl rfl B7x4_ ?_
                   with_reducible refine (spec_l01Var.calls k (l0_8.length : Int) t226 _ A16.out).mono ?_
                   rintro e w27 ⟨rfl, hb⟩
                   refine ⟨_, rfl, ?_⟩
                   have n0_ := Aside0.mk (blk_below (g := gb215) (o := .cells #[.int .i64 a0_0, .int .i64 a0_1, .int .i64 a0_2, .int .i64 a0_3, .int .i64 a0_4, .int .i64 a0_5, .int .i64 a0_6, .bool a0_7, .slice A0_8 l0_8.length c0_8, .slice A0_9 l0_9.length c0_9, .string a0_10, .bool a0_11] 30 (0, 0)) B7x2_ hb)
                   have n1_ := Aside0.mk (below_step B7x0_ hb)
                   clear BK215
                   clear HB
                   have BK215 := n0_
                   have HB := n1_
                   clear n0_ n1_
                   (try clear hb)
                   (try clear hb2)
                   (try clear hk)
                   (try clear hi)
                   refine hK.out _ _ ⟨(blk_cell BK215.out 0).trans rfl, (blk_cell BK215.out 1).trans rfl, (blk_cell BK215.out 2).trans rfl, (blk_cell BK215.out 3).trans rfl, (blk_cell BK215.out 4).trans rfl, (blk_cell BK215.out 5).trans rfl, (blk_cell BK215.out 6).trans rfl, (blk_cell BK215.out 7).trans rfl, (blk_cell BK215.out 8).trans rfl, (blk_cell BK215.out 9).trans rfl, (blk_cell BK215.out 10).trans rfl, (blk_cell BK215.out 11).trans rfl⟩ (fun hHeld => ?_)
                   clear hK K
                   refine norm_ (a' := ?_) ?_ ?_
                   rotate_left
                   ·show Act.put _ (some 51) _ = _
                    simp only [Act.put, List.setIfInBounds_toArray, List.set_cons_zero, List.set_cons_succ, i64_w, i32_w]
                    rfl
                   exact norm_ B7x1_ (hJ13_17_21_25_29_33_38 () _ ⟨hHeld, B7x2_, B7x0_⟩)
                ·skip
                 rintro v218 w28 ⟨hS_, h0_, h1_, h2_⟩
                 have n0_ : Aside0 (Kd.R (Kd.int .u8) 5 w28 w.heap.size (fun _ => True) v218 y217) := ⟨h0_⟩
                 have n1_ : Aside0 (w28.heap[gb215]? = some (.cells #[.int .i64 a0_0, .int .i64 a0_1, .int .i64 a0_2, .int .i64 a0_3, .int .i64 a0_4, .int .i64 a0_5, .int .i64 a0_6, .bool a0_7, .slice A0_8 l0_8.length c0_8, .slice A0_9 l0_9.length c0_9, .string a0_10, .bool a0_11] 30 (0, 0))) := ⟨h1_⟩
                 have n2_ : Aside0 (Below w.heap.size w w28) := ⟨h2_⟩
                 clear BK215
                 clear HB
                 clear h0_ h1_ h2_
                 have HO219 := n0_
                 have BK215 := n1_
                 have HB := n2_
                 clear n0_ n1_ n2_
                 have hHeld : w28.cell? ⟨gb215, 0, none⟩ = some (.int .i64 a0_0) ∧ w28.cell? ⟨gb215, 1, none⟩ = some (.int .i64 a0_1) ∧ w28.cell? ⟨gb215, 2, none⟩ = some (.int .i64 a0_2) ∧ w28.cell? ⟨gb215, 3, none⟩ = some (.int .i64 a0_3) ∧ w28.cell? ⟨gb215, 4, none⟩ = some (.int .i64 a0_4) ∧ w28.cell? ⟨gb215, 5, none⟩ = some (.int .i64 a0_5) ∧ w28.cell? ⟨gb215, 6, none⟩ = some (.int .i64 a0_6) ∧ w28.cell? ⟨gb215, 7, none⟩ = some (.bool a0_7) ∧ w28.cell? ⟨gb215, 8, none⟩ = some (.slice A0_8 l0_8.length c0_8) ∧ w28.cell? ⟨gb215, 9, none⟩ = some (.slice A0_9 l0_9.length c0_9) ∧ w28.cell? ⟨gb215, 10, none⟩ = some (.string a0_10) ∧ w28.cell? ⟨gb215, 11, none⟩ = some (.bool a0_11) := hS_
                 refine norm_ (a' := ?_) ?_ ?_
                 rotate_left
                 ·simp only [putAll, Act.put, List.setIfInBounds_toArray, List.set_cons_zero, List.set_cons_succ]
                  rfl
                 refine two_ (i := 10) (j := 33) (Ni := some 23) (Nj := some 46) #[true, true, true, true, true, true, true, true, true, true, true, true, true, true, false, true, true, true, false, true, true, true, false, true, true, true, false, true, true, true, false, true, true, false, false, true, true, true, false, false, false] #[true, true, true, true, true, true, true, true, true, true, false, true, true, true, false, true, true, true, false, true, true, true, false, true, true, true, false, true, true, true, false, true, true, true, false, true, true, true, false, false, false] rfl rfl rfl rfl (two_of HT_.out B7x6_) (by decide) (by decide) (fun K hK => ?_) (fun K hK => ?_)
                 ·skip
                  have hcv29 := own_string (P := Try.prog) Try.underlying43 Try.underlying5 Try.underlying9 (Kd.own_of_R HO219.out)
                  refine value_ (w1 := ?_) (v := ?_) (by rfl) rfl ?_ ?_
                  rotate_left 2
                  ·go_simp
                   constructor
                   ·rfl
                   ·rfl
                  clear hcv29
                  refine hK.out _ _ ⟨(blk_cell BK215.out 0).trans rfl, (blk_cell BK215.out 1).trans rfl, (blk_cell BK215.out 2).trans rfl, (blk_cell BK215.out 3).trans rfl, (blk_cell BK215.out 4).trans rfl, (blk_cell BK215.out 5).trans rfl, (blk_cell BK215.out 6).trans rfl, (blk_cell BK215.out 7).trans rfl, (blk_cell BK215.out 8).trans rfl, (blk_cell BK215.out 9).trans rfl, (blk_cell BK215.out 10).trans rfl, (blk_cell BK215.out 11).trans rfl⟩ (fun hHeld => ?_)
                  clear hK K
                  refine norm_ (a' := ?_) ?_ ?_
                  rotate_left
                  ·show Act.put _ (some 23) _ = _
                   simp only [Act.put, List.setIfInBounds_toArray, List.set_cons_zero, List.set_cons_succ, i64_w, i32_w]
                   rfl
                  refine pu_ 14 27 HT_ ?_
                  refine pu_ 18 31 HT_ ?_
                  refine pu_ 22 35 HT_ ?_
                  refine pu_ 26 39 HT_ ?_
                  refine pu_ 30 43 HT_ ?_
                  exact norm_ B7x1_ (hJ9_10_13_17_21_25_29 (v218) _ ⟨hHeld, B7x3_, B7x2_, B7x0_⟩)
                 ·skip
                  refine goes_ Try.func96 B7x6_ rfl #[.bool a0_11] (by rfl) rfl rfl B7x4_ ?_
                  with_reducible refine (spec_l17Flag.calls a0_11 t225 _ A14.out).mono ?_
                  rintro e w' ⟨rfl, ⟨nd, rfl⟩⟩
                  refine ⟨_, rfl, ?_⟩
                  refine hK.out _ _ ⟨(blk_cell BK215.out 0).trans rfl, (blk_cell BK215.out 1).trans rfl, (blk_cell BK215.out 2).trans rfl, (blk_cell BK215.out 3).trans rfl, (blk_cell BK215.out 4).trans rfl, (blk_cell BK215.out 5).trans rfl, (blk_cell BK215.out 6).trans rfl, (blk_cell BK215.out 7).trans rfl, (blk_cell BK215.out 8).trans rfl, (blk_cell BK215.out 9).trans rfl, (blk_cell BK215.out 10).trans rfl, (blk_cell BK215.out 11).trans rfl⟩ (fun hHeld => ?_)
                  clear hK K
                  refine norm_ (a' := ?_) ?_ ?_
                  rotate_left
                  ·show Act.put _ (some 46) _ = _
                   simp only [Act.put, List.setIfInBounds_toArray, List.set_cons_zero, List.set_cons_succ, i64_w, i32_w]
                   rfl
                  exact norm_ B7x1_ (hJ9_13_17_21_25_29_33 (v218) _ ⟨hHeld, B7x3_, B7x2_, B7x0_⟩)
               ·skip
                rintro v218 w29 ⟨hS_, h0_, h1_, h2_⟩
                have n0_ : Aside0 (Kd.R (Kd.int .u8) 5 w29 w.heap.size (fun _ => True) v218 y217) := ⟨h0_⟩
                have n1_ : Aside0 (w29.heap[gb215]? = some (.cells #[.int .i64 a0_0, .int .i64 a0_1, .int .i64 a0_2, .int .i64 a0_3, .int .i64 a0_4, .int .i64 a0_5, .int .i64 a0_6, .bool a0_7, .slice A0_8 l0_8.length c0_8, .slice A0_9 l0_9.length c0_9, .string a0_10, .bool a0_11] 30 (0, 0))) := ⟨h1_⟩
                have n2_ : Aside0 (Below w.heap.size w w29) := ⟨h2_⟩
                clear BK215
                clear HB
                clear h0_ h1_ h2_
                have HO219 := n0_
                have BK215 := n1_
                have HB := n2_
                clear n0_ n1_ n2_
                have hHeld : w29.cell? ⟨gb215, 0, none⟩ = some (.int .i64 a0_0) ∧ w29.cell? ⟨gb215, 1, none⟩ = some (.int .i64 a0_1) ∧ w29.cell? ⟨gb215, 2, none⟩ = some (.int .i64 a0_2) ∧ w29.cell? ⟨gb215, 3, none⟩ = some (.int .i64 a0_3) ∧ w29.cell? ⟨gb215, 4, none⟩ = some (.int .i64 a0_4) ∧ w29.cell? ⟨gb215, 5, none⟩ = some (.int .i64 a0_5) ∧ w29.cell? ⟨gb215, 6, none⟩ = some (.int .i64 a0_6) ∧ w29.cell? ⟨gb215, 7, none⟩ = some (.bool a0_7) ∧ w29.cell? ⟨gb215, 8, none⟩ = some (.slice A0_8 l0_8.length c0_8) ∧ w29.cell? ⟨gb215, 9, none⟩ = some (.slice A0_9 l0_9.length c0_9) ∧ w29.cell? ⟨gb215, 10, none⟩ = some (.string a0_10) ∧ w29.cell? ⟨gb215, 11, none⟩ = some (.bool a0_11) := hS_
                refine norm_ (a' := ?_) ?_ ?_
                rotate_left
                ·simp only [putAll, Act.put, List.setIfInBounds_toArray, List.set_cons_zero, List.set_cons_succ]
                 rfl
                refine one_ (i := 29) (N := some 42) #[true, true, true, true, true, true, true, true, true, true, true, true, true, true, true, true, true, true, true, true, true, true, true, true, true, true, true, true, true, true, false, true, true, false, false, true, true, true, false, false, false] rfl rfl (one_of HT_.out B7x6_) (by decide) (fun K hK => ?_)
                refine goes_ Try.func96 B7x6_ rfl #[.bool a0_7] (by rfl) rfl rfl B7x4_ ?_
                with_reducible refine (spec_l17Flag.calls a0_7 t224 _ A12.out).mono ?_
                rintro e w' ⟨rfl, ⟨nd, rfl⟩⟩
                refine ⟨_, rfl, ?_⟩
                refine hK.out _ _ ⟨(blk_cell BK215.out 0).trans rfl, (blk_cell BK215.out 1).trans rfl, (blk_cell BK215.out 2).trans rfl, (blk_cell BK215.out 3).trans rfl, (blk_cell BK215.out 4).trans rfl, (blk_cell BK215.out 5).trans rfl, (blk_cell BK215.out 6).trans rfl, (blk_cell BK215.out 7).trans rfl, (blk_cell BK215.out 8).trans rfl, (blk_cell BK215.out 9).trans rfl, (blk_cell BK215.out 10).trans rfl, (blk_cell BK215.out 11).trans rfl⟩ (fun hHeld => ?_)
                clear hK K
                refine norm_ (a' := ?_) ?_ ?_
                rotate_left
                ·show Act.put _ (some 42) _ = _
                 simp only [Act.put, List.setIfInBounds_toArray, List.set_cons_zero, List.set_cons_succ, i64_w, i32_w]
                 rfl
                refine pu_ 30 43 HT_ ?_
                exact norm_ B7x1_ (hJ9_10_13_17_21_25_29 (v218) _ ⟨hHeld, B7x3_, B7x2_, B7x0_⟩)
              ·skip
               rintro _ w27 ⟨hS_, h0_, h1_⟩
               have n0_ : Aside0 (w27.heap[gb215]? = some (.cells #[.int .i64 a0_0, .int .i64 a0_1, .int .i64 a0_2, .int .i64 a0_3, .int .i64 a0_4, .int .i64 a0_5, .int .i64 a0_6, .bool a0_7, .slice A0_8 l0_8.length c0_8, .slice A0_9 l0_9.length c0_9, .string a0_10, .bool a0_11] 30 (0, 0))) := ⟨h0_⟩
               have n1_ : Aside0 (Below w.heap.size w w27) := ⟨h1_⟩
               clear BK215
               clear HB
               clear h0_ h1_
               have BK215 := n0_
               have HB := n1_
               clear n0_ n1_
               have hHeld : w27.cell? ⟨gb215, 0, none⟩ = some (.int .i64 a0_0) ∧ w27.cell? ⟨gb215, 1, none⟩ = some (.int .i64 a0_1) ∧ w27.cell? ⟨gb215, 2, none⟩ = some (.int .i64 a0_2) ∧ w27.cell? ⟨gb215, 3, none⟩ = some (.int .i64 a0_3) ∧ w27.cell? ⟨gb215, 4, none⟩ = some (.int .i64 a0_4) ∧ w27.cell? ⟨gb215, 5, none⟩ = some (.int .i64 a0_5) ∧ w27.cell? ⟨gb215, 6, none⟩ = some (.int .i64 a0_6) ∧ w27.cell? ⟨gb215, 7, none⟩ = some (.bool a0_7) ∧ w27.cell? ⟨gb215, 8, none⟩ = some (.slice A0_8 l0_8.length c0_8) ∧ w27.cell? ⟨gb215, 9, none⟩ = some (.slice A0_9 l0_9.length c0_9) ∧ w27.cell? ⟨gb215, 10, none⟩ = some (.string a0_10) ∧ w27.cell? ⟨gb215, 11, none⟩ = some (.bool a0_11) := hS_
               refine norm_ (a' := ?_) ?_ ?_
               rotate_left
               ·simp only [putAll, Act.put, List.setIfInBounds_toArray, List.set_cons_zero, List.set_cons_succ]
                rfl
               refine one_ (i := 9) (N := some 22) #[true, true, true, true, true, true, true, true, true, true, false, true, true, true, false, true, true, true, false, true, true, true, false, true, true, true, false, true, true, true, false, true, true, true, false, true, true, true, true, false, false] rfl rfl (one_of HT_.out B7x6_) (by decide) (fun K hK => ?_)
               refine Kd.R_lit_step (Kd.int .u8) _ 5 ?hg (N := 22) ?hd (xs := ([(a0_0) % 256, (a0_1) % 256, (a0_2) % 256] : List Int)) (inner := [.int .u8 ((a0_0) % 256), .int .u8 ((a0_1) % 256), .int .u8 ((a0_2) % 256)]) (ok := fun _ => True) (okp := fun _ => True) ?hr ?hp (fun _ hk => hk) trivial (Below.refl _ _) (Nat.le_refl _) (by simp) ?_; (case hd => rfl); (case hg => rfl); (case hr => first | (go_simp; done) | (go_simp; rfl)); (case hp => exact (Reps.one (show Kd.M (Kd.int .u8) _ _ _ ((a0_0) % 256) [.int .u8 ((a0_0) % 256)] from rfl) (Reps.one (show Kd.M (Kd.int .u8) _ _ _ ((a0_1) % 256) [.int .u8 ((a0_1) % 256)] from rfl) (Reps.one (show Kd.M (Kd.int .u8) _ _ _ ((a0_2) % 256) [.int .u8 ((a0_2) % 256)] from rfl) (Reps.none _ _)))))
               intro v218 w28 ho29 hb hg_ hnew_
               clear hg_ hnew_
               (first | rw [← Ny217.out] at ho29 | (simp only [Int.reduceToNat] at ho29; rw [← Ny217.out] at ho29))
               have n0_ := Aside0.mk (Kd.R_lower ho29 (below_size B7x0_))
               have n1_ := Aside0.mk (blk_below (g := gb215) (o := .cells #[.int .i64 a0_0, .int .i64 a0_1, .int .i64 a0_2, .int .i64 a0_3, .int .i64 a0_4, .int .i64 a0_5, .int .i64 a0_6, .bool a0_7, .slice A0_8 l0_8.length c0_8, .slice A0_9 l0_9.length c0_9, .string a0_10, .bool a0_11] 30 (0, 0)) B7x2_ hb)
               have n2_ := Aside0.mk (below_step B7x0_ hb)
               clear BK215
               clear HB
               have HO219 := n0_
               have BK215 := n1_
               have HB := n2_
               clear n0_ n1_ n2_
               clear hb ho29
               refine hK.out _ _ ⟨(blk_cell BK215.out 0).trans rfl, (blk_cell BK215.out 1).trans rfl, (blk_cell BK215.out 2).trans rfl, (blk_cell BK215.out 3).trans rfl, (blk_cell BK215.out 4).trans rfl, (blk_cell BK215.out 5).trans rfl, (blk_cell BK215.out 6).trans rfl, (blk_cell BK215.out 7).trans rfl, (blk_cell BK215.out 8).trans rfl, (blk_cell BK215.out 9).trans rfl, (blk_cell BK215.out 10).trans rfl, (blk_cell BK215.out 11).trans rfl⟩ (fun hHeld => ?_)
               clear hK K
               refine norm_ (a' := ?_) ?_ ?_
               rotate_left
               ·show Act.put _ (some 22) _ = _
                simp only [Act.put, List.setIfInBounds_toArray, List.set_cons_zero, List.set_cons_succ, i64_w, i32_w]
                rfl
               exact norm_ B7x1_ (hJ9_13_17_21_25_29_33_38 (v218) _ ⟨hHeld, B7x3_, B7x2_, B7x0_⟩)
             ·skip
              rintro v218 w28 ⟨hS_, h0_, h1_, h2_⟩
              have n0_ : Aside0 (Kd.R (Kd.int .u8) 5 w28 w.heap.size (fun _ => True) v218 y217) := ⟨h0_⟩
              have n1_ : Aside0 (w28.heap[gb215]? = some (.cells #[.int .i64 a0_0, .int .i64 a0_1, .int .i64 a0_2, .int .i64 a0_3, .int .i64 a0_4, .int .i64 a0_5, .int .i64 a0_6, .bool a0_7, .slice A0_8 l0_8.length c0_8, .slice A0_9 l0_9.length c0_9, .string a0_10, .bool a0_11] 30 (0, 0))) := ⟨h1_⟩
              have n2_ : Aside0 (Below w.heap.size w w28) := ⟨h2_⟩
              clear BK215
              clear HB
              clear h0_ h1_ h2_
              have HO219 := n0_
              have BK215 := n1_
              have HB := n2_
              clear n0_ n1_ n2_
              have hHeld : w28.cell? ⟨gb215, 0, none⟩ = some (.int .i64 a0_0) ∧ w28.cell? ⟨gb215, 1, none⟩ = some (.int .i64 a0_1) ∧ w28.cell? ⟨gb215, 2, none⟩ = some (.int .i64 a0_2) ∧ w28.cell? ⟨gb215, 3, none⟩ = some (.int .i64 a0_3) ∧ w28.cell? ⟨gb215, 4, none⟩ = some (.int .i64 a0_4) ∧ w28.cell? ⟨gb215, 5, none⟩ = some (.int .i64 a0_5) ∧ w28.cell? ⟨gb215, 6, none⟩ = some (.int .i64 a0_6) ∧ w28.cell? ⟨gb215, 7, none⟩ = some (.bool a0_7) ∧ w28.cell? ⟨gb215, 8, none⟩ = some (.slice A0_8 l0_8.length c0_8) ∧ w28.cell? ⟨gb215, 9, none⟩ = some (.slice A0_9 l0_9.length c0_9) ∧ w28.cell? ⟨gb215, 10, none⟩ = some (.string a0_10) ∧ w28.cell? ⟨gb215, 11, none⟩ = some (.bool a0_11) := hS_
              refine norm_ (a' := ?_) ?_ ?_
              rotate_left
              ·simp only [putAll, Act.put, List.setIfInBounds_toArray, List.set_cons_zero, List.set_cons_succ]
               rfl
              refine two_ (i := 10) (j := 38) (Ni := some 23) (Nj := some 51) #[true, true, true, true, true, true, true, true, true, true, true, true, true, true, false, true, true, true, false, true, true, true, false, true, true, true, false, true, true, true, false, true, true, true, false, true, true, true, false, false, false] #[true, true, true, true, true, true, true, true, true, true, false, true, true, true, false, true, true, true, false, true, true, true, false, true, true, true, false, true, true, true, false, true, true, true, false, true, true, true, true, false, false] rfl rfl rfl rfl (two_of HT_.out B7x6_) (by decide) (by decide) (fun K hK => ?_) (fun K hK => ?_)
              ·skip
               have hcv29 := own_string (P := Try.prog) Try.underlying43 Try.underlying5 Try.underlying9 (Kd.own_of_R HO219.out)
               refine value_ (w1 := ?_) (v := ?_) (by rfl) rfl ?_ ?_
               rotate_left 2
               ·go_simp
                constructor
                ·rfl
                ·rfl
               clear hcv29
               refine hK.out _ _ ⟨(blk_cell BK215.out 0).trans rfl, (blk_cell BK215.out 1).trans rfl, (blk_cell BK215.out 2).trans rfl, (blk_cell BK215.out 3).trans rfl, (blk_cell BK215.out 4).trans rfl, (blk_cell BK215.out 5).trans rfl, (blk_cell BK215.out 6).trans rfl, (blk_cell BK215.out 7).trans rfl, (blk_cell BK215.out 8).trans rfl, (blk_cell BK215.out 9).trans rfl, (blk_cell BK215.out 10).trans rfl, (blk_cell BK215.out 11).trans rfl⟩ (fun hHeld => ?_)
               clear hK K
               refine norm_ (a' := ?_) ?_ ?_
               rotate_left
               ·show Act.put _ (some 23) _ = _
                simp only [Act.put, List.setIfInBounds_toArray, List.set_cons_zero, List.set_cons_succ, i64_w, i32_w]
                rfl
               refine pu_ 14 27 HT_ ?_
               refine pu_ 18 31 HT_ ?_
               refine pu_ 22 35 HT_ ?_
               refine pu_ 26 39 HT_ ?_
               refine pu_ 30 43 HT_ ?_
               refine pu_ 34 47 HT_ ?_
               exact norm_ B7x1_ (hJ9_10_13_17_21_25_29_33 (v218) _ ⟨hHeld, B7x3_, B7x2_, B7x0_⟩)
              ·skip
               refine goes_ Try.func92 B7x6_ rfl #[.int .i64 (l0_8.length : Int)] (by rfl) rfl rfl B7x4_ ?_
               with_reducible refine (spec_l01Var.calls k (l0_8.length : Int) t226 _ A16.out).mono ?_
               rintro e w29 ⟨rfl, hb⟩
               refine ⟨_, rfl, ?_⟩
               have n0_ := Aside0.mk (Kd.R_below B7x3_ hb)
               have n1_ := Aside0.mk (blk_below (g := gb215) (o := .cells #[.int .i64 a0_0, .int .i64 a0_1, .int .i64 a0_2, .int .i64 a0_3, .int .i64 a0_4, .int .i64 a0_5, .int .i64 a0_6, .bool a0_7, .slice A0_8 l0_8.length c0_8, .slice A0_9 l0_9.length c0_9, .string a0_10, .bool a0_11] 30 (0, 0)) B7x2_ hb)
               have n2_ := Aside0.mk (below_step B7x0_ hb)
               clear HO219
               clear BK215
               clear HB
               have HO219 := n0_
               have BK215 := n1_
               have HB := n2_
               clear n0_ n1_ n2_
               (try clear hb)
               (try clear hb2)
               (try clear hk)
               (try clear hi)
               refine hK.out _ _ ⟨(blk_cell BK215.out 0).trans rfl, (blk_cell BK215.out 1).trans rfl, (blk_cell BK215.out 2).trans rfl, (blk_cell BK215.out 3).trans rfl, (blk_cell BK215.out 4).trans rfl, (blk_cell BK215.out 5).trans rfl, (blk_cell BK215.out 6).trans rfl, (blk_cell BK215.out 7).trans rfl, (blk_cell BK215.out 8).trans rfl, (blk_cell BK215.out 9).trans rfl, (blk_cell BK215.out 10).trans rfl, (blk_cell BK215.out 11).trans rfl⟩ (fun hHeld => ?_)
               clear hK K
               refine norm_ (a' := ?_) ?_ ?_
               rotate_left
               ·show Act.put _ (some 51) _ = _
                simp only [Act.put, List.setIfInBounds_toArray, List.set_cons_zero, List.set_cons_succ, i64_w, i32_w]
                rfl
               exact norm_ B7x1_ (hJ9_13_17_21_25_29_33_38 (v218) _ ⟨hHeld, B7x3_, B7x2_, B7x0_⟩)
            ·skip
             rintro v218 w29 ⟨hS_, h0_, h1_, h2_⟩
             have n0_ : Aside0 (Kd.R (Kd.int .u8) 5 w29 w.heap.size (fun _ => True) v218 y217) := ⟨h0_⟩
             have n1_ : Aside0 (w29.heap[gb215]? = some (.cells #[.int .i64 a0_0, .int .i64 a0_1, .int .i64 a0_2, .int .i64 a0_3, .int .i64 a0_4, .int .i64 a0_5, .int .i64 a0_6, .bool a0_7, .slice A0_8 l0_8.length c0_8, .slice A0_9 l0_9.length c0_9, .string a0_10, .bool a0_11] 30 (0, 0))) := ⟨h1_⟩
             have n2_ : Aside0 (Below w.heap.size w w29) := ⟨h2_⟩
             clear BK215
             clear HB
             clear h0_ h1_ h2_
             have HO219 := n0_
             have BK215 := n1_
             have HB := n2_
             clear n0_ n1_ n2_
             have hHeld : w29.cell? ⟨gb215, 0, none⟩ = some (.int .i64 a0_0) ∧ w29.cell? ⟨gb215, 1, none⟩ = some (.int .i64 a0_1) ∧ w29.cell? ⟨gb215, 2, none⟩ = some (.int .i64 a0_2) ∧ w29.cell? ⟨gb215, 3, none⟩ = some (.int .i64 a0_3) ∧ w29.cell? ⟨gb215, 4, none⟩ = some (.int .i64 a0_4) ∧ w29.cell? ⟨gb215, 5, none⟩ = some (.int .i64 a0_5) ∧ w29.cell? ⟨gb215, 6, none⟩ = some (.int .i64 a0_6) ∧ w29.cell? ⟨gb215, 7, none⟩ = some (.bool a0_7) ∧ w29.cell? ⟨gb215, 8, none⟩ = some (.slice A0_8 l0_8.length c0_8) ∧ w29.cell? ⟨gb215, 9, none⟩ = some (.slice A0_9 l0_9.length c0_9) ∧ w29.cell? ⟨gb215, 10, none⟩ = some (.string a0_10) ∧ w29.cell? ⟨gb215, 11, none⟩ = some (.bool a0_11) := hS_
             refine norm_ (a' := ?_) ?_ ?_
             rotate_left
             ·simp only [putAll, Act.put, List.setIfInBounds_toArray, List.set_cons_zero, List.set_cons_succ]
              rfl
             refine one_ (i := 33) (N := some 46) #[true, true, true, true, true, true, true, true, true, true, true, true, true, true, true, true, true, true, true, true, true, true, true, true, true, true, true, true, true, true, true, true, true, true, false, true, true, true, false, false, false] rfl rfl (one_of HT_.out B7x6_) (by decide) (fun K hK => ?_)
             refine goes_ Try.func96 B7x6_ rfl #[.bool a0_11] (by rfl) rfl rfl B7x4_ ?_
             with_reducible refine (spec_l17Flag.calls a0_11 t225 _ A14.out).mono ?_
             rintro e w' ⟨rfl, ⟨nd, rfl⟩⟩
             refine ⟨_, rfl, ?_⟩
             refine hK.out _ _ ⟨(blk_cell BK215.out 0).trans rfl, (blk_cell BK215.out 1).trans rfl, (blk_cell BK215.out 2).trans rfl, (blk_cell BK215.out 3).trans rfl, (blk_cell BK215.out 4).trans rfl, (blk_cell BK215.out 5).trans rfl, (blk_cell BK215.out 6).trans rfl, (blk_cell BK215.out 7).trans rfl, (blk_cell BK215.out 8).trans rfl, (blk_cell BK215.out 9).trans rfl, (blk_cell BK215.out 10).trans rfl, (blk_cell BK215.out 11).trans rfl⟩ (fun hHeld => ?_)
             clear hK K
             refine norm_ (a' := ?_) ?_ ?_
             rotate_left
             ·show Act.put _ (some 46) _ = _
              simp only [Act.put, List.setIfInBounds_toArray, List.set_cons_zero, List.set_cons_succ, i64_w, i32_w]
              rfl
             refine pu_ 34 47 HT_ ?_
             exact norm_ B7x1_ (hJ9_10_13_17_21_25_29_33 (v218) _ ⟨hHeld, B7x3_, B7x2_, B7x0_⟩)
           ·skip
            rintro v218 w29 ⟨hS_, h0_, h1_, h2_⟩
            have n0_ : Aside0 (Kd.R (Kd.int .u8) 5 w29 w.heap.size (fun _ => True) v218 y217) := ⟨h0_⟩
            have n1_ : Aside0 (w29.heap[gb215]? = some (.cells #[.int .i64 a0_0, .int .i64 a0_1, .int .i64 a0_2, .int .i64 a0_3, .int .i64 a0_4, .int .i64 a0_5, .int .i64 a0_6, .bool a0_7, .slice A0_8 l0_8.length c0_8, .slice A0_9 l0_9.length c0_9, .string a0_10, .bool a0_11] 30 (0, 0))) := ⟨h1_⟩
            have n2_ : Aside0 (Below w.heap.size w w29) := ⟨h2_⟩
            clear BK215
            clear HB
            clear h0_ h1_ h2_
            have HO219 := n0_
            have BK215 := n1_
            have HB := n2_
            clear n0_ n1_ n2_
            have hHeld : w29.cell? ⟨gb215, 0, none⟩ = some (.int .i64 a0_0) ∧ w29.cell? ⟨gb215, 1, none⟩ = some (.int .i64 a0_1) ∧ w29.cell? ⟨gb215, 2, none⟩ = some (.int .i64 a0_2) ∧ w29.cell? ⟨gb215, 3, none⟩ = some (.int .i64 a0_3) ∧ w29.cell? ⟨gb215, 4, none⟩ = some (.int .i64 a0_4) ∧ w29.cell? ⟨gb215, 5, none⟩ = some (.int .i64 a0_5) ∧ w29.cell? ⟨gb215, 6, none⟩ = some (.int .i64 a0_6) ∧ w29.cell? ⟨gb215, 7, none⟩ = some (.bool a0_7) ∧ w29.cell? ⟨gb215, 8, none⟩ = some (.slice A0_8 l0_8.length c0_8) ∧ w29.cell? ⟨gb215, 9, none⟩ = some (.slice A0_9 l0_9.length c0_9) ∧ w29.cell? ⟨gb215, 10, none⟩ = some (.string a0_10) ∧ w29.cell? ⟨gb215, 11, none⟩ = some (.bool a0_11) := hS_
            refine norm_ (a' := ?_) ?_ ?_
            rotate_left
            ·simp only [putAll, Act.put, List.setIfInBounds_toArray, List.set_cons_zero, List.set_cons_succ]
             rfl
            refine one_ (i := 10) (N := some 23) #[true, true, true, true, true, true, true, true, true, true, true, true, true, true, false, true, true, true, false, true, true, true, false, true, true, true, false, true, true, true, false, true, true, true, false, true, true, true, true, false, false] rfl rfl (one_of HT_.out B7x6_) (by decide) (fun K hK => ?_)
            have hcv30 := own_string (P := Try.prog) Try.underlying43 Try.underlying5 Try.underlying9 (Kd.own_of_R HO219.out)
            refine value_ (w1 := ?_) (v := ?_) (by rfl) rfl ?_ ?_
            rotate_left 2
            ·go_simp
             constructor
             ·rfl
             ·rfl
            clear hcv30
            refine hK.out _ _ ⟨(blk_cell BK215.out 0).trans rfl, (blk_cell BK215.out 1).trans rfl, (blk_cell BK215.out 2).trans rfl, (blk_cell BK215.out 3).trans rfl, (blk_cell BK215.out 4).trans rfl, (blk_cell BK215.out 5).trans rfl, (blk_cell BK215.out 6).trans rfl, (blk_cell BK215.out 7).trans rfl, (blk_cell BK215.out 8).trans rfl, (blk_cell BK215.out 9).trans rfl, (blk_cell BK215.out 10).trans rfl, (blk_cell BK215.out 11).trans rfl⟩ (fun hHeld => ?_)
            clear hK K
            refine norm_ (a' := ?_) ?_ ?_
            rotate_left
            ·show Act.put _ (some 23) _ = _
             simp only [Act.put, List.setIfInBounds_toArray, List.set_cons_zero, List.set_cons_succ, i64_w, i32_w]
             rfl
            refine pu_ 14 27 HT_ ?_
            refine pu_ 18 31 HT_ ?_
            refine pu_ 22 35 HT_ ?_
            refine pu_ 26 39 HT_ ?_
            refine pu_ 30 43 HT_ ?_
            refine pu_ 34 47 HT_ ?_
            exact norm_ B7x1_ (hJ9_10_13_17_21_25_29_33_38 (v218) _ ⟨hHeld, B7x3_, B7x2_, B7x0_⟩)
          ·skip
           rintro v218 w29 ⟨hS_, h0_, h1_, h2_⟩
           have n0_ : Aside0 (Kd.R (Kd.int .u8) 5 w29 w.heap.size (fun _ => True) v218 y217) := ⟨h0_⟩
           have n1_ : Aside0 (w29.heap[gb215]? = some (.cells #[.int .i64 a0_0, .int .i64 a0_1, .int .i64 a0_2, .int .i64 a0_3, .int .i64 a0_4, .int .i64 a0_5, .int .i64 a0_6, .bool a0_7, .slice A0_8 l0_8.length c0_8, .slice A0_9 l0_9.length c0_9, .string a0_10, .bool a0_11] 30 (0, 0))) := ⟨h1_⟩
           have n2_ : Aside0 (Below w.heap.size w w29) := ⟨h2_⟩
           clear BK215
           clear HB
           clear h0_ h1_ h2_
           have HO219 := n0_
           have BK215 := n1_
           have HB := n2_
           clear n0_ n1_ n2_
           have hHeld : w29.cell? ⟨gb215, 0, none⟩ = some (.int .i64 a0_0) ∧ w29.cell? ⟨gb215, 1, none⟩ = some (.int .i64 a0_1) ∧ w29.cell? ⟨gb215, 2, none⟩ = some (.int .i64 a0_2) ∧ w29.cell? ⟨gb215, 3, none⟩ = some (.int .i64 a0_3) ∧ w29.cell? ⟨gb215, 4, none⟩ = some (.int .i64 a0_4) ∧ w29.cell? ⟨gb215, 5, none⟩ = some (.int .i64 a0_5) ∧ w29.cell? ⟨gb215, 6, none⟩ = some (.int .i64 a0_6) ∧ w29.cell? ⟨gb215, 7, none⟩ = some (.bool a0_7) ∧ w29.cell? ⟨gb215, 8, none⟩ = some (.slice A0_8 l0_8.length c0_8) ∧ w29.cell? ⟨gb215, 9, none⟩ = some (.slice A0_9 l0_9.length c0_9) ∧ w29.cell? ⟨gb215, 10, none⟩ = some (.string a0_10) ∧ w29.cell? ⟨gb215, 11, none⟩ = some (.bool a0_11) := hS_
           refine norm_ (a' := ?_) ?_ ?_
           rotate_left
           ·simp only [putAll, Act.put, List.setIfInBounds_toArray, List.set_cons_zero, List.set_cons_succ]
            rfl
           refine one_ (i := 38) (N := some 51) #[true, true, true, true, true, true, true, true, true, true, true, true, true, true, true, true, true, true, true, true, true, true, true, true, true, true, true, true, true, true, true, true, true, true, true, true, true, true, true, false, false] rfl rfl (one_of HT_.out B7x6_) (by decide) (fun K hK => ?_)
           refine goes_ Try.func92 B7x6_ rfl #[.int .i64 (l0_8.length : Int)] (by rfl) rfl rfl B7x4_ ?_
           with_reducible refine (spec_l01Var.calls k (l0_8.length : Int) t226 _ A16.out).mono ?_
           rintro e w30 ⟨rfl, hb⟩
           refine ⟨_, rfl, ?_⟩
           have n0_ := Aside0.mk (Kd.R_below B7x3_ hb)
           have n1_ := Aside0.mk (blk_below (g := gb215) (o := .cells #[.int .i64 a0_0, .int .i64 a0_1, .int .i64 a0_2, .int .i64 a0_3, .int .i64 a0_4, .int .i64 a0_5, .int .i64 a0_6, .bool a0_7, .slice A0_8 l0_8.length c0_8, .slice A0_9 l0_9.length c0_9, .string a0_10, .bool a0_11] 30 (0, 0)) B7x2_ hb)
           have n2_ := Aside0.mk (below_step B7x0_ hb)
           clear HO219
           clear BK215
           clear HB
           have HO219 := n0_
           have BK215 := n1_
           have HB := n2_
           clear n0_ n1_ n2_
           (try clear hb)
           (try clear hb2)
           (try clear hk)
           (try clear hi)
           refine hK.out _ _ ⟨(blk_cell BK215.out 0).trans rfl, (blk_cell BK215.out 1).trans rfl, (blk_cell BK215.out 2).trans rfl, (blk_cell BK215.out 3).trans rfl, (blk_cell BK215.out 4).trans rfl, (blk_cell BK215.out 5).trans rfl, (blk_cell BK215.out 6).trans rfl, (blk_cell BK215.out 7).trans rfl, (blk_cell BK215.out 8).trans rfl, (blk_cell BK215.out 9).trans rfl, (blk_cell BK215.out 10).trans rfl, (blk_cell BK215.out 11).trans rfl⟩ (fun hHeld => ?_)
           clear hK K
           refine norm_ (a' := ?_) ?_ ?_
           rotate_left
           ·show Act.put _ (some 51) _ = _
            simp only [Act.put, List.setIfInBounds_toArray, List.set_cons_zero, List.set_cons_succ, i64_w, i32_w]
            rfl
           exact norm_ B7x1_ (hJ9_10_13_17_21_25_29_33_38 (v218) _ ⟨hHeld, B7x3_, B7x2_, B7x0_⟩)
         rintro v218 w30 ⟨hS_, h0_, h1_, h2_⟩
         have n0_ : Aside0 (Kd.R (Kd.int .u8) 5 w30 w.heap.size (fun _ => True) v218 y217) := ⟨h0_⟩
         have n1_ : Aside0 (w30.heap[gb215]? = some (.cells #[.int .i64 a0_0, .int .i64 a0_1, .int .i64 a0_2, .int .i64 a0_3, .int .i64 a0_4, .int .i64 a0_5, .int .i64 a0_6, .bool a0_7, .slice A0_8 l0_8.length c0_8, .slice A0_9 l0_9.length c0_9, .string a0_10, .bool a0_11] 30 (0, 0))) := ⟨h1_⟩
         have n2_ : Aside0 (Below w.heap.size w w30) := ⟨h2_⟩
         clear BK215
         clear HB
         clear h0_ h1_ h2_
         have HO219 := n0_
         have BK215 := n1_
         have HB := n2_
         clear n0_ n1_ n2_
         have hHeld : w30.cell? ⟨gb215, 0, none⟩ = some (.int .i64 a0_0) ∧ w30.cell? ⟨gb215, 1, none⟩ = some (.int .i64 a0_1) ∧ w30.cell? ⟨gb215, 2, none⟩ = some (.int .i64 a0_2) ∧ w30.cell? ⟨gb215, 3, none⟩ = some (.int .i64 a0_3) ∧ w30.cell? ⟨gb215, 4, none⟩ = some (.int .i64 a0_4) ∧ w30.cell? ⟨gb215, 5, none⟩ = some (.int .i64 a0_5) ∧ w30.cell? ⟨gb215, 6, none⟩ = some (.int .i64 a0_6) ∧ w30.cell? ⟨gb215, 7, none⟩ = some (.bool a0_7) ∧ w30.cell? ⟨gb215, 8, none⟩ = some (.slice A0_8 l0_8.length c0_8) ∧ w30.cell? ⟨gb215, 9, none⟩ = some (.slice A0_9 l0_9.length c0_9) ∧ w30.cell? ⟨gb215, 10, none⟩ = some (.string a0_10) ∧ w30.cell? ⟨gb215, 11, none⟩ = some (.bool a0_11) := hS_
         refine norm_ (a' := ?_) ?_ ?_
         rotate_left
         ·simp only [putAll, Act.put, List.setIfInBounds_toArray, List.set_cons_zero, List.set_cons_succ]
          rfl
         refine pu_ 39 52 HT_ ?_
         refine pu_ 40 4 HT_ ?_
         refine done_ (done_of HT_.out B7x6_) ?_
         try go_wp2
         go_loopg [4, 5] k (fun kq v4 v5 w' => ∃ (x4_1 : ByteArray) (x5_1 : Int), v4 = .string x4_1 ∧ v5 = .int .i64 x5_1 ∧ Aside0 (spec_Encode.l0 kq x4_1 x5_1 a0_0 a0_1 a0_2 a0_3 a0_4 a0_5 a0_6 a0_7 l0_8 l0_9 a0_10 a0_11 = some (r1, r2)) ∧ Aside0 (kq ≤ k) ∧ Aside0 (w'.heap[gb215]? = some (.cells #[.int .i64 a0_0, .int .i64 a0_1, .int .i64 a0_2, .int .i64 a0_3, .int .i64 a0_4, .int .i64 a0_5, .int .i64 a0_6, .bool a0_7, (.slice A0_8 l0_8.length c0_8), (.slice A0_9 l0_9.length c0_9), .string a0_10, .bool a0_11] 30 (0, 0))) ∧ Aside0 (Below w.heap.size w w'))
         case atStart => exact ⟨((((((((strOfNums y217) ++ t220) ++ t221) ++ t222) ++ t223) ++ t224) ++ t225) ++ t226), (0), (be_), (be_), H', ⟨Nat.le_refl _⟩, ⟨by (with_reducible repeat (first | refine blk_drewN ?_ _ | refine blk_drew ?_ | refine blk_alloc ?_ _)); exact BK215.out⟩, ⟨by repeat (first | (with_reducible first | exact HB.out | apply below_alloc | apply pw_below_drewN | apply below_drew1 | refine below_set ?_ GE215.out) | exact HB.out)⟩⟩
         case round =>
          clear H'
          try clear p2
          try clear hcv2
          try clear hcv3
          try clear c9
          try clear hcv29
          try clear hcv30
          obtain ⟨x4_1, x5_1, rfl, rfl, HA, HK1, BK215, HB⟩ := hrel
          cases gk with
          | zero => exact absurd HA.out (by simp [spec_Encode.l0])
          | succ k1 =>
           have H := HA.out
           clear HA
           simp only [spec_Encode.l0] at H
           by_cases c31 : x5_1 < (l0_8.length : Int)
           ·rw [if_pos c31] at H
            have c31b0 : decide (x5_1 < (l0_8.length : Int)) = true := decide_eq_true c31
            clear c31
            by_cases c32 : 0 ≤ x5_1
            ·rw [if_pos c32] at H
             have c32b0 : decide (0 ≤ x5_1) = true := decide_eq_true c32
             clear c32
             replace H := Option.bind_eq_some_iff.mp H
             obtain ⟨⟨t228, t229⟩, A330, H⟩ := H
             (try dsimp only at H)
             have A33 := Aside0.mk A330
             clear A330
             replace H := Option.bind_eq_some_iff.mp H
             obtain ⟨t230, A340, H⟩ := H
             (try dsimp only at H)
             have A34 := Aside0.mk A340
             clear A340
             by_cases c35 : x4_1.size + t230.size ≤ 9223372036854775807
             ·rw [if_pos c35] at H
              have c35b0 := eq_true c35
              have c35b1 : decide (x4_1.size + t230.size ≤ 9223372036854775807) = true := decide_eq_true c35
              try have c35b2 : (9223372036854775807 < x4_1.size + t230.size) = False := eq_false (Nat.not_lt.2 c35)
              try (have c35b9 := c35b2; simp only [ByteArray.size_append] at c35b9)
              have H' := Aside0.mk H
              clear H
              obtain ⟨hcz36_0, hcz36_1, hcz36_2, hcz36_3, hcz36_4, hcz36_5, hcz36_6, hcz36_7, hcz36_8, hcz36_9, hcz36_10, hcz36_11⟩ := cl12 BK215.out
              obtain ⟨hfz36_0, hfz36_1, hfz36_2, hfz36_3, hfz36_4, hfz36_5, hfz36_6, hfz36_7, hfz36_8, hfz36_9, hfz36_10, hfz36_11⟩ := fr12 BK215.out
              have p227 : 0 ≤ (x5_1 : Int) := of_decide_eq_true B7x7_
              have q227 : x5_1 < (l0_8.length : Int) := of_decide_eq_true B7x7_
              obtain ⟨ad227, e227, hx227_0, hx227_1, hx227_2⟩ := at_T51 HR0_8.out x5_1 p227 q227
              cases e227
              replace hx227_0 := (HB.out.cell (World.block_lt_of_cell? w _ hx227_0)).trans hx227_0
              replace hx227_1 := (HB.out.cell (World.block_lt_of_cell? w _ hx227_1)).trans hx227_1
              replace hx227_2 := (HB.out.cell (World.block_lt_of_cell? w _ hx227_2)).trans hx227_2
              replace p227 := eq_true p227
              replace q227 := eq_true q227
              go_wp2_with (first | ((with_reducible refine gate_callee (f := 30) rfl ?_); refine goesL_ (some 66) rfl rfl Try.func30 B7x6_ rfl #[.int .i64 1, .agg #[.int .i64 ((rd_T51 l0_8 x5_1).f0), .int .i64 ((rd_T51 l0_8 x5_1).f1), .string ((rd_T51 l0_8 x5_1).f2)]] rfl B7x4_ ?_; (with_reducible refine (spec_EntryText.calls k1 1 ((rd_T51 l0_8 x5_1).f0) ((rd_T51 l0_8 x5_1).f1) ((rd_T51 l0_8 x5_1).f2) t228 t229 _ A33.out).mono ?_); rintro e w37 ⟨rfl, hb⟩; refine ⟨_, rfl, ?_⟩; have n0_ := Aside0.mk (blk_below (g := gb215) (o := .cells #[.int .i64 a0_0, .int .i64 a0_1, .int .i64 a0_2, .int .i64 a0_3, .int .i64 a0_4, .int .i64 a0_5, .int .i64 a0_6, .bool a0_7, .slice (some ad227) l0_8.length c0_8, .slice A0_9 l0_9.length c0_9, .string a0_10, .bool a0_11] 30 (0, 0)) B7x2_ hb); have n1_ := Aside0.mk (below_step B7x0_ hb); clear BK215; clear HB; have BK215 := n0_; have HB := n1_; clear n0_ n1_; (try clear hb); (try clear hb2); (try clear hk); (try clear hi)) | ((with_reducible refine gate_callee (f := 97) rfl ?_); refine goesL_ (some 71) rfl rfl Try.func97 B7x6_ rfl #[.string t228] rfl B7x4_ ?_; (with_reducible refine (spec_l05Short.calls k1 t228 t230 _ A34.out).mono ?_); rintro e w38 ⟨rfl, hb⟩; refine ⟨_, rfl, ?_⟩; have n0_ := Aside0.mk (blk_below (g := gb215) (o := .cells #[.int .i64 a0_0, .int .i64 a0_1, .int .i64 a0_2, .int .i64 a0_3, .int .i64 a0_4, .int .i64 a0_5, .int .i64 a0_6, .bool a0_7, .slice (some ad227) l0_8.length c0_8, .slice A0_9 l0_9.length c0_9, .string a0_10, .bool a0_11] 30 (0, 0)) B7x2_ hb); have n1_ := Aside0.mk (below_step B7x0_ hb); clear BK215; clear HB; have BK215 := n0_; have HB := n1_; clear n0_ n1_; (try clear hb); (try clear hb2); (try clear hk); (try clear hi)))
              go_roundg k1
              case measure => have := HK1.out; omega
              case rel => exact ⟨(x4_1 ++ t230), (wrap64 (x5_1 + 1)), (be_), (be_), H', ⟨by have := HK1.out; omega⟩, ⟨by (with_reducible repeat (first | refine blk_drewN ?_ _ | refine blk_drew ?_ | refine blk_alloc ?_ _)); exact BK215.out⟩, ⟨by repeat (first | (with_reducible first | exact HB.out | apply below_alloc | apply pw_below_drewN | apply below_drew1 | refine below_set ?_ GE215.out) | exact HB.out)⟩⟩
             ·rw [if_neg c35] at H
              exact absurd H (by simp)
            ·rw [if_neg c32] at H
             exact absurd H (by simp)
           ·rw [if_neg c31] at H
            have c31b0 : decide (x5_1 < (l0_8.length : Int)) = false := decide_eq_false c31
            clear c31
            replace H := Option.bind_eq_some_iff.mp H
            obtain ⟨⟨t231, t232⟩, A390, H⟩ := H
            (try dsimp only at H)
            have A39 := Aside0.mk A390
            clear A390
            replace H := Option.bind_eq_some_iff.mp H
            obtain ⟨t233, A400, H⟩ := H
            (try dsimp only at H)
            have A40 := Aside0.mk A400
            clear A400
            by_cases c41 : x4_1.size + t233.size ≤ 9223372036854775807
            ·rw [if_pos c41] at H
             have c41b0 := eq_true c41
             have c41b1 : decide (x4_1.size + t233.size ≤ 9223372036854775807) = true := decide_eq_true c41
             try have c41b2 : (9223372036854775807 < x4_1.size + t233.size) = False := eq_false (Nat.not_lt.2 c41)
             try (have c41b9 := c41b2; simp only [ByteArray.size_append] at c41b9)
             replace H := Option.bind_eq_some_iff.mp H
             obtain ⟨t234, A420, H⟩ := H
             (try dsimp only at H)
             have A42 := Aside0.mk A420
             clear A420
             by_cases c43 : (x4_1 ++ t233).size + t234.size ≤ 9223372036854775807
             ·rw [if_pos c43] at H
              have c43b0 := eq_true c43
              have c43b1 : decide ((x4_1 ++ t233).size + t234.size ≤ 9223372036854775807) = true := decide_eq_true c43
              try have c43b2 : (9223372036854775807 < (x4_1 ++ t233).size + t234.size) = False := eq_false (Nat.not_lt.2 c43)
              try have c43b8 : (9223372036854775807 < x4_1.size + t233.size + t234.size) = False := eq_false (by have h_ := c43; simp only [ByteArray.size_append, ByteArray.size_extract, decide_eq_true_eq, decide_eq_false_iff_not] at *; omega)
              try (have c43b9 := c43b2; simp only [ByteArray.size_append] at c43b9)
              simp only [Option.some.injEq, Prod.mk.injEq] at H
              obtain ⟨rfl, rfl⟩ := H
              obtain ⟨hcz44_0, hcz44_1, hcz44_2, hcz44_3, hcz44_4, hcz44_5, hcz44_6, hcz44_7, hcz44_8, hcz44_9, hcz44_10, hcz44_11⟩ := cl12 BK215.out
              obtain ⟨hfz44_0, hfz44_1, hfz44_2, hfz44_3, hfz44_4, hfz44_5, hfz44_6, hfz44_7, hfz44_8, hfz44_9, hfz44_10, hfz44_11⟩ := fr12 BK215.out
              try go_wp2_with (first | ((with_reducible refine gate_callee (f := 98) rfl ?_); refine goesL_ (some 76) rfl rfl Try.func98 B7x6_ rfl #[.slice A0_9 l0_9.length c0_9] rfl B7x4_ ?_; (with_reducible refine (spec_ConfText.calls k1 _ _ l0_9 t231 t232 _ ?side1 ?side2 A39.out).mono ?_); (case side1 => repeat (first | exact (Kd.C_below HR0_9.out HB.out) | (with_reducible refine Kd.C_alloc ?_ _) | (with_reducible refine Kd.C_drewN ?_ _) | (with_reducible refine Kd.C_drew ?_))); (case side2 => exact HC0_9.out); rintro e w45 ⟨rfl, hb⟩; refine ⟨_, rfl, ?_⟩; have n0_ := Aside0.mk (blk_below (g := gb215) (o := .cells #[.int .i64 a0_0, .int .i64 a0_1, .int .i64 a0_2, .int .i64 a0_3, .int .i64 a0_4, .int .i64 a0_5, .int .i64 a0_6, .bool a0_7, .slice A0_8 l0_8.length c0_8, .slice A0_9 l0_9.length c0_9, .string a0_10, .bool a0_11] 30 (0, 0)) B7x2_ hb); have n1_ := Aside0.mk (below_step B7x0_ hb); clear BK215; clear HB; have BK215 := n0_; have HB := n1_; clear n0_ n1_; (try clear hb); (try clear hb2); (try clear hk); (try clear hi)))
              have n0_ := Aside0.mk (blk_drew BK215.out)
              have n1_ := Aside0.mk (below_drew1 HB.out)
              clear BK215
              clear HB
              have BK215 := n0_
              have HB := n1_
              clear n0_ n1_
              refine start_ (n := 10) (S := fun w' => w'.cell? ⟨gb215, 0, none⟩ = some (.int .i64 a0_0) ∧ w'.cell? ⟨gb215, 1, none⟩ = some (.int .i64 a0_1) ∧ w'.cell? ⟨gb215, 2, none⟩ = some (.int .i64 a0_2) ∧ w'.cell? ⟨gb215, 3, none⟩ = some (.int .i64 a0_3) ∧ w'.cell? ⟨gb215, 4, none⟩ = some (.int .i64 a0_4) ∧ w'.cell? ⟨gb215, 5, none⟩ = some (.int .i64 a0_5) ∧ w'.cell? ⟨gb215, 6, none⟩ = some (.int .i64 a0_6) ∧ w'.cell? ⟨gb215, 7, none⟩ = some (.bool a0_7) ∧ w'.cell? ⟨gb215, 8, none⟩ = some (.slice A0_8 l0_8.length c0_8) ∧ w'.cell? ⟨gb215, 9, none⟩ = some (.slice A0_9 l0_9.length c0_9) ∧ w'.cell? ⟨gb215, 10, none⟩ = some (.string a0_10) ∧ w'.cell? ⟨gb215, 11, none⟩ = some (.bool a0_11)) (ds := []) #[false, false, false, false, false, false, false, false, false, false] B7x6_ rfl rfl ⟨(blk_cell BK215.out 0).trans rfl, (blk_cell BK215.out 1).trans rfl, (blk_cell BK215.out 2).trans rfl, (blk_cell BK215.out 3).trans rfl, (blk_cell BK215.out 4).trans rfl, (blk_cell BK215.out 5).trans rfl, (blk_cell BK215.out 6).trans rfl, (blk_cell BK215.out 7).trans rfl, (blk_cell BK215.out 8).trans rfl, (blk_cell BK215.out 9).trans rfl, (blk_cell BK215.out 10).trans rfl, (blk_cell BK215.out 11).trans rfl⟩ (fun hHeld => ?_); refine with_tabW spec_Encode.tab10 spec_Encode.bits10 (fun HT_ HW_ => ?_)
              generalize w45.drew = w46 at BK215 HB hHeld ⊢
              refine pu_ 0 79 HT_ ?_
              refine pu_ 1 80 HT_ ?_
              refine pu_ 4 83 HT_ ?_
              refine ta_ 5 84 HT_ HW_ hHeld ?_
              refine one_ (i := 2) (N := some 81) #[true, true, true, false, true, true, false, false, false, false] rfl rfl (one_of HT_.out B7x6_) (by decide) (fun K hK => ?_)
              refine goes_ Try.func97 B7x6_ rfl #[.string t231] (by rfl) rfl rfl B7x4_ ?_
              with_reducible refine (spec_l05Short.calls k1 t231 t233 _ A40.out).mono ?_
              rintro e w47 ⟨rfl, hb⟩
              refine ⟨_, rfl, ?_⟩
              have n0_ := Aside0.mk (blk_below (g := gb215) (o := .cells #[.int .i64 a0_0, .int .i64 a0_1, .int .i64 a0_2, .int .i64 a0_3, .int .i64 a0_4, .int .i64 a0_5, .int .i64 a0_6, .bool a0_7, .slice A0_8 l0_8.length c0_8, .slice A0_9 l0_9.length c0_9, .string a0_10, .bool a0_11] 30 (0, 0)) B7x2_ hb)
              have n1_ := Aside0.mk (below_step B7x0_ hb)
              clear BK215
              clear HB
              have BK215 := n0_
              have HB := n1_
              clear n0_ n1_
              (try clear hb)
              (try clear hb2)
              (try clear hk)
              (try clear hi)
              refine hK.out _ _ ⟨(blk_cell BK215.out 0).trans rfl, (blk_cell BK215.out 1).trans rfl, (blk_cell BK215.out 2).trans rfl, (blk_cell BK215.out 3).trans rfl, (blk_cell BK215.out 4).trans rfl, (blk_cell BK215.out 5).trans rfl, (blk_cell BK215.out 6).trans rfl, (blk_cell BK215.out 7).trans rfl, (blk_cell BK215.out 8).trans rfl, (blk_cell BK215.out 9).trans rfl, (blk_cell BK215.out 10).trans rfl, (blk_cell BK215.out 11).trans rfl⟩ (fun hHeld => ?_)
              clear hK K
              refine norm_ (a' := ?_) ?_ ?_
              rotate_left
              ·show Act.put _ (some 81) _ = _
               simp only [Act.put, List.setIfInBounds_toArray, List.set_cons_zero, List.set_cons_succ, i64_w, i32_w]
               rfl
              refine pu_ 3 82 HT_ ?_
              refine one_ (i := 6) (N := some 85) #[true, true, true, true, true, true, true, false, false, false] rfl rfl (one_of HT_.out B7x6_) (by decide) (fun K hK => ?_)
              refine goes_ Try.func97 B7x6_ rfl #[.string a0_10] (by rfl) rfl rfl B7x4_ ?_
              with_reducible refine (spec_l05Short.calls k1 a0_10 t234 _ A42.out).mono ?_
              rintro e w48 ⟨rfl, hb⟩
              refine ⟨_, rfl, ?_⟩
              have n0_ := Aside0.mk (blk_below (g := gb215) (o := .cells #[.int .i64 a0_0, .int .i64 a0_1, .int .i64 a0_2, .int .i64 a0_3, .int .i64 a0_4, .int .i64 a0_5, .int .i64 a0_6, .bool a0_7, .slice A0_8 l0_8.length c0_8, .slice A0_9 l0_9.length c0_9, .string a0_10, .bool a0_11] 30 (0, 0)) B7x2_ hb)
              have n1_ := Aside0.mk (below_step B7x0_ hb)
              clear BK215
              clear HB
              have BK215 := n0_
              have HB := n1_
              clear n0_ n1_
              (try clear hb)
              (try clear hb2)
              (try clear hk)
              (try clear hi)
              refine hK.out _ _ ⟨(blk_cell BK215.out 0).trans rfl, (blk_cell BK215.out 1).trans rfl, (blk_cell BK215.out 2).trans rfl, (blk_cell BK215.out 3).trans rfl, (blk_cell BK215.out 4).trans rfl, (blk_cell BK215.out 5).trans rfl, (blk_cell BK215.out 6).trans rfl, (blk_cell BK215.out 7).trans rfl, (blk_cell BK215.out 8).trans rfl, (blk_cell BK215.out 9).trans rfl, (blk_cell BK215.out 10).trans rfl, (blk_cell BK215.out 11).trans rfl⟩ (fun hHeld => ?_)
              clear hK K
              refine norm_ (a' := ?_) ?_ ?_
              rotate_left
              ·show Act.put _ (some 85) _ = _
               simp only [Act.put, List.setIfInBounds_toArray, List.set_cons_zero, List.set_cons_succ, i64_w, i32_w]
               rfl
              refine pu_ 7 86 HT_ ?_
              refine pu_ 8 2 HT_ ?_
              refine pu_ 9 3 HT_ ?_
              refine done_ (done_of HT_.out B7x6_) ?_
              try go_wp2
              go_ret2
              exact ⟨by first | rfl | (simp [errW_none, errW_some] <;> rfl) | (simp [*, errW_none, errW_some] <;> rfl), by repeat (first | (with_reducible first | exact HB.out | apply below_alloc | apply pw_below_drewN | apply below_drew1 | refine below_set ?_ GE215.out) | exact HB.out)⟩
             ·rw [if_neg c43] at H
              exact absurd H (by simp)
            ·rw [if_neg c41] at H
             exact absurd H (by simp)
        ·rw [if_neg c17] at H
         exact absurd H (by simp)
       ·rw [if_neg c15] at H
        exact absurd H (by simp)
      ·rw [if_neg c13] at H
       exact absurd H (by simp)
     ·rw [if_neg c11] at H
      exact absurd H (by simp)
    ·rw [if_neg c9] at H
     exact absurd H (by simp)
   ·rw [if_neg c7] at H
    exact absurd H (by simp)
  ·rw [if_neg c5] at H
   exact absurd H (by simp)
 ·replace c3 := Bool.eq_false_iff.mpr c3
  subst c3
  rw [if_neg (show ¬ (false = true) by decide)] at H
  simp only [Option.some.injEq, Prod.mk.injEq] at H
  obtain ⟨rfl, rfl⟩ := H
  go_enter Try.func26, Try.ntmps26
  go_wp2_with (first | ((with_reducible refine gate_dst (N := 1) rfl ?_); refine box_event ?hg (N := 1) ?hd (cs := #[.int .i64 a0_0, .int .i64 a0_1, .int .i64 a0_2, .int .i64 a0_3, .int .i64 a0_4, .int .i64 a0_5, .int .i64 a0_6, .bool a0_7, .slice A0_8 l0_8.length c0_8, .slice A0_9 l0_9.length c0_9, .string a0_10, .bool a0_11]) (t := 30) ?hr ?_; (case hd => rfl); (case hg => rfl); (case hr => first | (go_simp; done) | (go_simp; rfl)); intro gb215 hg w49 hbox hb; have n0_ := Aside0.mk (below_step B7x5_ hb); have n1_ := Aside0.mk (hbox); have n2_ := Aside0.mk ((by rw [hg]; exact (below_size B7x5_) : w.heap.size ≤ gb215)); have n3_ := Aside0.mk ((by rw [hg]; exact (below_size B7x5_) : w.heap.size ≤ gb215)); clear HB; have HB := n0_; have BK215 := n1_; have GW215 := n2_; have GE215 := n3_; clear n0_ n1_ n2_ n3_; clear hb hbox hg; obtain ⟨hcz50_0, hcz50_1, hcz50_2, hcz50_3, hcz50_4, hcz50_5, hcz50_6, hcz50_7, hcz50_8, hcz50_9, hcz50_10, hcz50_11⟩ := cl12 BK215.out; obtain ⟨hfz50_0, hfz50_1, hfz50_2, hfz50_3, hfz50_4, hfz50_5, hfz50_6, hfz50_7, hfz50_8, hfz50_9, hfz50_10, hfz50_11⟩ := fr12 BK215.out) | ((with_reducible refine gate_callee (f := 12) rfl ?_); refine goesL_ (some 11) rfl rfl Try.func12 B7x6_ rfl #[.agg #[.int .i64 a0_0, .int .i64 a0_1, .int .i64 a0_2, .int .i64 a0_3, .int .i64 a0_4, .int .i64 a0_5, .int .i64 a0_6, .bool a0_7, .slice A0_8 l0_8.length c0_8, .slice A0_9 l0_9.length c0_9, .string a0_10, .bool a0_11]] rfl B7x4_ ?_; (with_reducible refine (spec_MessageOk.calls k a0_0 a0_1 a0_2 a0_3 a0_4 a0_5 a0_6 a0_7 _ _ l0_8 _ _ l0_9 a0_10 a0_11 false _ ?side1 ?side2 ?side3 ?side4 A2.out).mono ?_); (case side1 => repeat (first | exact (Kd.C_below HR0_8.out HB.out) | (with_reducible refine Kd.C_alloc ?_ _) | (with_reducible refine Kd.C_drewN ?_ _) | (with_reducible refine Kd.C_drew ?_))); (case side2 => exact HC0_8.out); (case side3 => repeat (first | exact (Kd.C_below HR0_9.out HB.out) | (with_reducible refine Kd.C_alloc ?_ _) | (with_reducible refine Kd.C_drewN ?_ _) | (with_reducible refine Kd.C_drew ?_))); (case side4 => exact HC0_9.out); rintro e w51 ⟨rfl, hb⟩; refine ⟨_, rfl, ?_⟩; have n0_ := Aside0.mk (blk_below (g := gb215) (o := .cells #[.int .i64 a0_0, .int .i64 a0_1, .int .i64 a0_2, .int .i64 a0_3, .int .i64 a0_4, .int .i64 a0_5, .int .i64 a0_6, .bool a0_7, .slice A0_8 l0_8.length c0_8, .slice A0_9 l0_9.length c0_9, .string a0_10, .bool a0_11] 30 (0, 0)) B7x2_ hb); have n1_ := Aside0.mk (below_step B7x0_ hb); clear BK215; clear HB; have BK215 := n0_; have HB := n1_; clear n0_ n1_; (try clear hb); (try clear hb2); (try clear hk); (try clear hi)))
  go_ret2
  exact ⟨by first | rfl | (simp [errW_none, errW_some] <;> rfl) | (simp [*, errW_none, errW_some] <;> rfl), by repeat (first | (with_reducible first | exact HB.out | apply below_alloc | apply pw_below_drewN | apply below_drew1 | refine below_set ?_ GE215.out) | exact HB.out)⟩

end Go.Proofs.Ythgjcijcmacpmaa.QFnExactEncode
