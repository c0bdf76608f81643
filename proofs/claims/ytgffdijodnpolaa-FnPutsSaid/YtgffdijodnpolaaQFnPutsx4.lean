/- Functions that a law reaches, as functions of Lean, and the walks that show that the calls come to their answers: written by a program of this project out of the translation. No condition. -/
import Derived.Test.YtgffdijodnpolaaQFnPutsx0
import Derived.Test.YtgffdijodnpolaaQFnPutsx3
import Derived.Test.YtgffdijodnpolaaVFnPutsShort4
import Derived.Test.YtgffdijodnpolaaVFnPutshort3
import Derived.Test.YtgffdijodnpolaaVFnPutsShort
namespace Go.Proofs.Ytgffdijodnpolaa.QFnPuts
open Go.RowKit Go.Proofs.YtgffdijodnpolaaW.PrintWords Go.Proofs.YtgffdijodnpolaaW.PrintLast Go.Proofs.YtgffdijodnpolaaW.PrintMore Go.Proofs.Ytgffdijodnpolaa.Short
attribute [local go_sem] max2_int min2_int max_two min_two max_three min_three max_four min_four   -- for this text's walks alone
set_option linter.unusedVariables false
set_option linter.unusedSimpArgs false

theorem B4x0_ {p : Prop} (h : p := by repeat (first | (with_reducible first | exact HB.out | apply below_alloc | apply pw_below_drewN | apply below_drew1 | refine below_set ?_ GE139.out) | exact HB.out)) : p := h
theorem B4x1_ {p : Prop} (h : p := by first | (simp only [putAll, Act.put, List.setIfInBounds_toArray, List.set_cons_zero, List.set_cons_succ]; done) | (simp only [putAll, Act.put, List.setIfInBounds_toArray, List.set_cons_zero, List.set_cons_succ]; rfl)) : p := h
theorem B4x2_ {p : Prop} (h : p := by (with_reducible repeat (first | apply Kd.R_alloc | apply Kd.R_drewN | apply Kd.R_drew)); exact HO143.out) : p := h
theorem B4x3_ {p : Prop} (h : p := by (with_reducible repeat (first | refine blk_drewN ?_ _ | refine blk_drew ?_ | refine blk_alloc ?_ _)); exact BK139.out) : p := h
theorem B4x4_ {p : Prop} (h : p := by (try simp only [List.map_toArray, List.map_cons, List.map_nil]); first | done | rfl | (simp only [List.length_drop, List.length_take]; rfl)) : p := h
theorem B4x5_ {p : Prop} (h : p := by exact (Reps.one (show Kd.M (Kd.int .u8) _ _ _ ((a0_0) % 256) [.int .u8 ((a0_0) % 256)] from rfl) (Reps.none _ _))) : p := h
theorem B4x6_ {p : Prop} (h : p := by kernel_rfl) : p := h
theorem B4x7_ {p : Prop} (h : p := by first | (go_simp; done) | (go_simp; rfl)) : p := h
theorem B4x8_ {p : Prop} (h : p := by repeat (first | (with_reducible first | exact HB.out | apply below_alloc | apply pw_below_drewN | apply below_drew1) | exact HB.out)) : p := h
theorem B4x9_ {p : Prop} (h : p := by first | rfl | (simp [errW_none, errW_some] <;> rfl) | (simp [*, errW_none, errW_some] <;> rfl)) : p := h
/-! ### spec_CommandText: function 79 -/
def spec_CommandText.f (k : Nat) (a0_0 : Int) (a0_1 : Int) (a0_2 : Int) (a0_3 : ByteArray) (a0_4 : ByteArray) (a0_5 : Int) : Option (ByteArray × Bool) := (spec_CommandOk.f k a0_0 a0_1 a0_2 a0_3 a0_4 a0_5).bind fun t140 => (if t140 = true then ((some (([(a0_0) % 256] : List Int) : List Int)).bind fun y141 => ((spec_l01Var.f k a0_1).bind fun t144 => (if (strOfNums y141).size + t144.size ≤ 9223372036854775807 then ((spec_l01Var.f k a0_2).bind fun t145 => (if ((strOfNums y141) ++ t144).size + t145.size ≤ 9223372036854775807 then ((spec_l16Short.f k a0_3).bind fun t146 => (if (((strOfNums y141) ++ t144) ++ t145).size + t146.size ≤ 9223372036854775807 then ((spec_l16Short.f k a0_4).bind fun t147 => (if ((((strOfNums y141) ++ t144) ++ t145) ++ t146).size + t147.size ≤ 9223372036854775807 then ((spec_l01Var.f k a0_5).bind fun t148 => (if (((((strOfNums y141) ++ t144) ++ t145) ++ t146) ++ t147).size + t148.size ≤ 9223372036854775807 then (some ((((((strOfNums y141) ++ t144) ++ t145) ++ t146) ++ t147) ++ t148, true)) else (none))) else (none))) else (none))) else (none))) else (none)))) else (some ((⟨#[]⟩ : ByteArray), false)))
theorem spec_CommandText.mono : ∀ a0 a1 a2 a3 a4 a5 k, LeO (spec_CommandText.f k a0 a1 a2 a3 a4 a5) (spec_CommandText.f (k + 1) a0 a1 a2 a3 a4 a5) := by
 intro a0 a1 a2 a3 a4 a5 k
 unfold spec_CommandText.f
 repeat' first
   | (with_reducible exact spec_CommandOk.mono _ _ _ _ _ _ _)
   | (with_reducible exact spec_l01Var.mono _ _)
   | (with_reducible exact spec_l16Short.mono _ _)
   | (with_reducible first | exact LeO.refl _ | exact LeO.none _ | refine LeO.ite ?_ ?_ | refine LeO.bind ?_ (fun _ => ?_))
   | exact spec_CommandOk.mono _ _ _ _ _ _ _
   | exact spec_l01Var.mono _ _
   | exact spec_l16Short.mono _ _
def spec_CommandText.T3 : Bool × List (List Nat × List Nat) := (true, [([], []), ([0], [0]), ([1], [1]), ([2], [2]), ([3], [3]), ([], []), ([5], [5]), ([6], [6]), ([4, 7], [4, 7]), ([], []), ([9], [9]), ([10, 7], [10]), ([8, 11], [8, 11]), ([], []), ([13], [13]), ([14, 11], [14]), ([12, 15], [12, 15]), ([], []), ([17], [17]), ([18, 15], [18]), ([16, 19], [16, 19]), ([], []), ([21], [21]), ([22, 19], [22]), ([20, 23], [20, 23]), ([24, 23, 0, 1, 2, 3, 4, 5, 6, 7, 8, 9, 10, 11, 12, 13, 14, 15, 16, 17, 18, 19, 20, 21, 22, 23, 24], [24]), ([25, 0, 1, 2, 3, 4, 5, 6, 7, 8, 9, 10, 11, 12, 13, 14, 15, 16, 17, 18, 19, 20, 21, 22, 23, 24, 25], [])])
def spec_CommandText.B3 : List Nat := [0, 1, 3, 7, 15, 0, 32, 96, 255, 0, 512, 1760, 4095, 0, 8192, 28384, 65535, 0, 131072, 454368, 1048575, 0, 2097152, 7270112, 16777215, 33554431, 67108863]
theorem spec_CommandText.tab3 : rtab .any (opsOf Try.f79 3) = spec_CommandText.T3 := by kernel_rfl
theorem spec_CommandText.bits3 : waitsOk spec_CommandText.T3.2 spec_CommandText.B3 = true := by kernel_rfl
set_option maxHeartbeats 8000000 in
set_option maxRecDepth 100000 in
theorem spec_CommandText.calls (k : Nat) (a0_0 : Int) (a0_1 : Int) (a0_2 : Int) (a0_3 : ByteArray) (a0_4 : ByteArray) (a0_5 : Int) (r1 : ByteArray) (r2 : Bool) (w : World) (h : spec_CommandText.f k a0_0 a0_1 a0_2 a0_3 a0_4 a0_5 = some (r1, r2)) :
  Calls Try.prog 79 #[.agg #[.int .i64 a0_0, .int .i64 a0_1, .int .i64 a0_2, .string a0_3, .string a0_4, .int .i64 a0_5]] w fun e w' => e = .returned (.tuple #[.string r1, .bool r2]) ∧ Below w.heap.size w w' := by
 have hu59 := Try.underlying59
 have HB := Aside0.mk (Below.refl w.heap.size w)
 have H : ((spec_CommandOk.f k a0_0 a0_1 a0_2 a0_3 a0_4 a0_5).bind fun t140 => (if t140 = true then ((some (([(a0_0) % 256] : List Int) : List Int)).bind fun y141 => ((spec_l01Var.f k a0_1).bind fun t144 => (if (strOfNums y141).size + t144.size ≤ 9223372036854775807 then ((spec_l01Var.f k a0_2).bind fun t145 => (if ((strOfNums y141) ++ t144).size + t145.size ≤ 9223372036854775807 then ((spec_l16Short.f k a0_3).bind fun t146 => (if (((strOfNums y141) ++ t144) ++ t145).size + t146.size ≤ 9223372036854775807 then ((spec_l16Short.f k a0_4).bind fun t147 => (if ((((strOfNums y141) ++ t144) ++ t145) ++ t146).size + t147.size ≤ 9223372036854775807 then ((spec_l01Var.f k a0_5).bind fun t148 => (if (((((strOfNums y141) ++ t144) ++ t145) ++ t146) ++ t147).size + t148.size ≤ 9223372036854775807 then (some ((((((strOfNums y141) ++ t144) ++ t145) ++ t146) ++ t147) ++ t148, true)) else (none))) else (none))) else (none))) else (none))) else (none)))) else (some ((⟨#[]⟩ : ByteArray), false)))) = some (r1, r2) := h
 clear h
 replace H := bsi H
 obtain ⟨t140, A2, H⟩ := H
 (try dsimp only at H)
 by_cases c3 : t140 = true
 ·subst c3
  rw [if_pos rfl] at H
  obtain ⟨y141, hy141⟩ : ∃ y_ : List Int, y_ = (([(a0_0) % 256] : List Int)) := ⟨_, rfl⟩
  replace H : ((spec_l01Var.f k a0_1).bind fun t144 => (if (strOfNums y141).size + t144.size ≤ 9223372036854775807 then ((spec_l01Var.f k a0_2).bind fun t145 => (if ((strOfNums y141) ++ t144).size + t145.size ≤ 9223372036854775807 then ((spec_l16Short.f k a0_3).bind fun t146 => (if (((strOfNums y141) ++ t144) ++ t145).size + t146.size ≤ 9223372036854775807 then ((spec_l16Short.f k a0_4).bind fun t147 => (if ((((strOfNums y141) ++ t144) ++ t145) ++ t146).size + t147.size ≤ 9223372036854775807 then ((spec_l01Var.f k a0_5).bind fun t148 => (if (((((strOfNums y141) ++ t144) ++ t145) ++ t146) ++ t147).size + t148.size ≤ 9223372036854775807 then (some ((((((strOfNums y141) ++ t144) ++ t145) ++ t146) ++ t147) ++ t148, true)) else (none))) else (none))) else (none))) else (none))) else (none))) = some (r1, r2) := by first | (rw [hy141]; with_reducible exact H) | (have H2_ := (Option.bind_some _ _).symm.trans H; rw [hy141]; with_reducible exact H2_) | (have H2_ := (Option.bind_some _ _).symm.trans H; with_reducible exact H2_) | with_reducible exact H | (rw [hy141]; exact H) | exact H
  have Ny141 := Aside0.mk hy141
  clear hy141
  replace H := bsi H
  obtain ⟨t144, A4, H⟩ := H
  (try dsimp only at H)
  by_cases c5 : (strOfNums y141).size + t144.size ≤ 9223372036854775807
  rotate_left
  ·rw [if_neg c5] at H
   exact absurd H (by simp)
  rw [if_pos c5] at H
  have c5b0 := eq_true c5
  have c5b1 : decide ((strOfNums y141).size + t144.size ≤ 9223372036854775807) = true := decide_eq_true c5
  try have c5b2 : (9223372036854775807 < (strOfNums y141).size + t144.size) = False := eq_false (Nat.not_lt.2 c5)
  try (have c5b9 := c5b2; simp only [ByteArray.size_append] at c5b9)
  replace H := bsi H
  obtain ⟨t145, A6, H⟩ := H
  (try dsimp only at H)
  by_cases c7 : ((strOfNums y141) ++ t144).size + t145.size ≤ 9223372036854775807
  rotate_left
  ·rw [if_neg c7] at H
   exact absurd H (by simp)
  rw [if_pos c7] at H
  have c7b0 := eq_true c7
  have c7b1 : decide (((strOfNums y141) ++ t144).size + t145.size ≤ 9223372036854775807) = true := decide_eq_true c7
  try have c7b2 : (9223372036854775807 < ((strOfNums y141) ++ t144).size + t145.size) = False := eq_false (Nat.not_lt.2 c7)
  try have c7b8 : (9223372036854775807 < (strOfNums y141).size + t144.size + t145.size) = False := eq_false (by have h_ := c7; simp only [ByteArray.size_append, ByteArray.size_extract, decide_eq_true_eq, decide_eq_false_iff_not] at *; omega)
  try (have c7b9 := c7b2; simp only [ByteArray.size_append] at c7b9)
  replace H := bsi H
  obtain ⟨t146, A8, H⟩ := H
  (try dsimp only at H)
  by_cases c9 : (((strOfNums y141) ++ t144) ++ t145).size + t146.size ≤ 9223372036854775807
  rotate_left
  ·rw [if_neg c9] at H
   exact absurd H (by simp)
  rw [if_pos c9] at H
  have c9b0 := eq_true c9
  have c9b1 : decide ((((strOfNums y141) ++ t144) ++ t145).size + t146.size ≤ 9223372036854775807) = true := decide_eq_true c9
  try have c9b2 : (9223372036854775807 < (((strOfNums y141) ++ t144) ++ t145).size + t146.size) = False := eq_false (Nat.not_lt.2 c9)
  try have c9b8 : (9223372036854775807 < (strOfNums y141).size + t144.size + t145.size + t146.size) = False := eq_false (by have h_ := c9; simp only [ByteArray.size_append, ByteArray.size_extract, decide_eq_true_eq, decide_eq_false_iff_not] at *; omega)
  try (have c9b9 := c9b2; simp only [ByteArray.size_append] at c9b9)
  replace H := bsi H
  obtain ⟨t147, A10, H⟩ := H
  (try dsimp only at H)
  by_cases c11 : ((((strOfNums y141) ++ t144) ++ t145) ++ t146).size + t147.size ≤ 9223372036854775807
  rotate_left
  ·rw [if_neg c11] at H
   exact absurd H (by simp)
  rw [if_pos c11] at H
  have c11b0 := eq_true c11
  have c11b1 : decide (((((strOfNums y141) ++ t144) ++ t145) ++ t146).size + t147.size ≤ 9223372036854775807) = true := decide_eq_true c11
  try have c11b2 : (9223372036854775807 < ((((strOfNums y141) ++ t144) ++ t145) ++ t146).size + t147.size) = False := eq_false (Nat.not_lt.2 c11)
  try have c11b8 : (9223372036854775807 < (strOfNums y141).size + t144.size + t145.size + t146.size + t147.size) = False := eq_false (by have h_ := c11; simp only [ByteArray.size_append, ByteArray.size_extract, decide_eq_true_eq, decide_eq_false_iff_not] at *; omega)
  try (have c11b9 := c11b2; simp only [ByteArray.size_append] at c11b9)
  replace H := bsi H
  obtain ⟨t148, A12, H⟩ := H
  (try dsimp only at H)
  by_cases c13 : (((((strOfNums y141) ++ t144) ++ t145) ++ t146) ++ t147).size + t148.size ≤ 9223372036854775807
  rotate_left
  ·rw [if_neg c13] at H
   exact absurd H (by simp)
  rw [if_pos c13] at H
  have c13b0 := eq_true c13
  have c13b1 : decide ((((((strOfNums y141) ++ t144) ++ t145) ++ t146) ++ t147).size + t148.size ≤ 9223372036854775807) = true := decide_eq_true c13
  try have c13b2 : (9223372036854775807 < (((((strOfNums y141) ++ t144) ++ t145) ++ t146) ++ t147).size + t148.size) = False := eq_false (Nat.not_lt.2 c13)
  try have c13b8 : (9223372036854775807 < (strOfNums y141).size + t144.size + t145.size + t146.size + t147.size + t148.size) = False := eq_false (by have h_ := c13; simp only [ByteArray.size_append, ByteArray.size_extract, decide_eq_true_eq, decide_eq_false_iff_not] at *; omega)
  try (have c13b9 := c13b2; simp only [ByteArray.size_append] at c13b9)
  simp only [Option.some.injEq, Prod.mk.injEq] at H
  obtain ⟨rfl, rfl⟩ := H
  go_enter Try.func79, Try.ntmps79
  try go_wp2_with (first | ((with_reducible refine gate_dst (N := 1) rfl ?_); refine box_event ?hg (N := 1) ?hd (cs := #[.int .i64 a0_0, .int .i64 a0_1, .int .i64 a0_2, .string a0_3, .string a0_4, .int .i64 a0_5]) (t := 59) ?hr ?_; (case hd => rfl); (case hg => rfl); (case hr => exact B4x7_); intro gb139 hg w14 hbox hb; have BK139 := Aside0.mk (hbox); have GW139 := Aside0.mk ((bs hg (below_size HB.out))); have GE139 := Aside0.mk ((bs hg (below_size HB.out))); replace HB := Aside0.mk (below_step B4x8_ hb); clear hb hbox hg; obtain ⟨hcz15_0, hcz15_1, hcz15_2, hcz15_3, hcz15_4, hcz15_5⟩ := cl6 BK139.out; obtain ⟨hfz15_0, hfz15_1, hfz15_2, hfz15_3, hfz15_4, hfz15_5⟩ := fr6 BK139.out) | ((with_reducible refine gate_callee (f := 36) rfl ?_); refine goesL_ (some 5) rfl rfl Try.func36 B4x6_ rfl #[.agg #[.int .i64 a0_0, .int .i64 a0_1, .int .i64 a0_2, .string a0_3, .string a0_4, .int .i64 a0_5]] rfl B4x4_ ?_; (with_reducible refine (spec_CommandOk.calls k a0_0 a0_1 a0_2 a0_3 a0_4 a0_5 true _ A2.out).mono ?_); rintro e w16 ⟨rfl, hb⟩; refine ⟨_, rfl, ?_⟩; replace BK139 := Aside0.mk (bb BK139.out hb); replace HB := Aside0.mk (below_step B4x0_ hb); (try clear hb)))
  replace BK139 := Aside0.mk (blk_drew BK139.out)
  replace HB := Aside0.mk (below_drew1 HB.out)
  refine start_ (n := 27) (S := fun w' => w'.cell? ⟨gb139, 0, none⟩ = some (.int .i64 a0_0) ∧ w'.cell? ⟨gb139, 1, none⟩ = some (.int .i64 a0_1) ∧ w'.cell? ⟨gb139, 2, none⟩ = some (.int .i64 a0_2) ∧ w'.cell? ⟨gb139, 3, none⟩ = some (.string a0_3) ∧ w'.cell? ⟨gb139, 4, none⟩ = some (.string a0_4) ∧ w'.cell? ⟨gb139, 5, none⟩ = some (.int .i64 a0_5)) (ds := []) #[false, false, false, false, false, false, false, false, false, false, false, false, false, false, false, false, false, false, false, false, false, false, false, false, false, false, false] B4x6_ rfl rfl ⟨(blk_cell BK139.out 0).trans rfl, (blk_cell BK139.out 1).trans rfl, (blk_cell BK139.out 2).trans rfl, (blk_cell BK139.out 3).trans rfl, (blk_cell BK139.out 4).trans rfl, (blk_cell BK139.out 5).trans rfl⟩ (fun hHeld => ?_); refine with_tabW spec_CommandText.tab3 spec_CommandText.bits3 (fun HT_ HW_ => ?_)
  generalize w16.drew = w17 at BK139 HB hHeld ⊢
  refine pu_ 0 7 HT_ ?_
  refine pu_ 5 12 HT_ ?_
  refine pu_ 9 16 HT_ ?_
  refine pu_ 13 20 HT_ ?_
  refine pu_ 17 24 HT_ ?_
  refine pu_ 21 28 HT_ ?_
  refine ta_ 1 8 HT_ HW_ hHeld ?_
  refine pu_ 2 9 HT_ ?_
  refine ta_ 6 13 HT_ HW_ hHeld ?_
  refine ta_ 10 17 HT_ HW_ hHeld ?_
  refine ta_ 14 21 HT_ HW_ hHeld ?_
  refine ta_ 18 25 HT_ HW_ hHeld ?_
  refine ta_ 22 29 HT_ HW_ hHeld ?_
  refine join_ (σ := Value) 3 #[true, true, true, true, true, true, true, true, true, true, true, true, true, true, true, true, true, true, true, true, true, true, true, true, false, false, false] (fun s_ => [(10, s_), (11, .string (strOfNums y141)), (14, .string t144), (18, .string t145), (22, .string t146), (26, .string t147), (30, .string t148), (15, .string ((strOfNums y141) ++ t144)), (19, .string (((strOfNums y141) ++ t144) ++ t145)), (23, .string ((((strOfNums y141) ++ t144) ++ t145) ++ t146)), (27, .string (((((strOfNums y141) ++ t144) ++ t145) ++ t146) ++ t147))]) (fun s_ w' => (w'.cell? ⟨gb139, 0, none⟩ = some (.int .i64 a0_0) ∧ w'.cell? ⟨gb139, 1, none⟩ = some (.int .i64 a0_1) ∧ w'.cell? ⟨gb139, 2, none⟩ = some (.int .i64 a0_2) ∧ w'.cell? ⟨gb139, 3, none⟩ = some (.string a0_3) ∧ w'.cell? ⟨gb139, 4, none⟩ = some (.string a0_4) ∧ w'.cell? ⟨gb139, 5, none⟩ = some (.int .i64 a0_5)) ∧ (Kd.R (Kd.int .u8) 5 w' w.heap.size (fun _ => True) s_ y141) ∧ (w'.heap[gb139]? = some (.cells #[.int .i64 a0_0, .int .i64 a0_1, .int .i64 a0_2, .string a0_3, .string a0_4, .int .i64 a0_5] 59 (0, 0))) ∧ (Below w.heap.size w w')) ?_ ?_
  rotate_left
  ·intro hJ3_4_7_11_15_19_23
   refine join_ (σ := Value) 4 #[true, true, true, true, true, true, true, true, true, true, true, true, true, true, true, true, true, true, true, true, true, true, true, false, false, false, false] (fun s_ => [(10, s_), (11, .string (strOfNums y141)), (14, .string t144), (18, .string t145), (22, .string t146), (26, .string t147), (15, .string ((strOfNums y141) ++ t144)), (19, .string (((strOfNums y141) ++ t144) ++ t145)), (23, .string ((((strOfNums y141) ++ t144) ++ t145) ++ t146)), (27, .string (((((strOfNums y141) ++ t144) ++ t145) ++ t146) ++ t147))]) (fun s_ w' => (w'.cell? ⟨gb139, 0, none⟩ = some (.int .i64 a0_0) ∧ w'.cell? ⟨gb139, 1, none⟩ = some (.int .i64 a0_1) ∧ w'.cell? ⟨gb139, 2, none⟩ = some (.int .i64 a0_2) ∧ w'.cell? ⟨gb139, 3, none⟩ = some (.string a0_3) ∧ w'.cell? ⟨gb139, 4, none⟩ = some (.string a0_4) ∧ w'.cell? ⟨gb139, 5, none⟩ = some (.int .i64 a0_5)) ∧ (Kd.R (Kd.int .u8) 5 w' w.heap.size (fun _ => True) s_ y141) ∧ (w'.heap[gb139]? = some (.cells #[.int .i64 a0_0, .int .i64 a0_1, .int .i64 a0_2, .string a0_3, .string a0_4, .int .i64 a0_5] 59 (0, 0))) ∧ (Below w.heap.size w w')) ?_ ?_
   rotate_left
   ·intro hJ3_4_7_11_15_19
    refine join_ (σ := Value) 8 #[true, true, true, true, false, true, true, true, false, true, true, true, false, true, true, true, false, true, true, true, false, true, true, true, false, false, false] (fun s_ => [(10, s_), (14, .string t144), (18, .string t145), (22, .string t146), (26, .string t147), (30, .string t148)]) (fun s_ w' => (w'.cell? ⟨gb139, 0, none⟩ = some (.int .i64 a0_0) ∧ w'.cell? ⟨gb139, 1, none⟩ = some (.int .i64 a0_1) ∧ w'.cell? ⟨gb139, 2, none⟩ = some (.int .i64 a0_2) ∧ w'.cell? ⟨gb139, 3, none⟩ = some (.string a0_3) ∧ w'.cell? ⟨gb139, 4, none⟩ = some (.string a0_4) ∧ w'.cell? ⟨gb139, 5, none⟩ = some (.int .i64 a0_5)) ∧ (Kd.R (Kd.int .u8) 5 w' w.heap.size (fun _ => True) s_ y141) ∧ (w'.heap[gb139]? = some (.cells #[.int .i64 a0_0, .int .i64 a0_1, .int .i64 a0_2, .string a0_3, .string a0_4, .int .i64 a0_5] 59 (0, 0))) ∧ (Below w.heap.size w w')) ?_ ?_
    rotate_left
    ·intro hJ3_7_11_15_19_23
     refine join_ (σ := Value) 6 #[true, true, true, true, true, true, true, true, true, true, true, true, true, true, true, true, true, true, true, false, false, true, true, false, false, false, false] (fun s_ => [(10, s_), (11, .string (strOfNums y141)), (14, .string t144), (18, .string t145), (22, .string t146), (15, .string ((strOfNums y141) ++ t144)), (19, .string (((strOfNums y141) ++ t144) ++ t145)), (23, .string ((((strOfNums y141) ++ t144) ++ t145) ++ t146))]) (fun s_ w' => (w'.cell? ⟨gb139, 0, none⟩ = some (.int .i64 a0_0) ∧ w'.cell? ⟨gb139, 1, none⟩ = some (.int .i64 a0_1) ∧ w'.cell? ⟨gb139, 2, none⟩ = some (.int .i64 a0_2) ∧ w'.cell? ⟨gb139, 3, none⟩ = some (.string a0_3) ∧ w'.cell? ⟨gb139, 4, none⟩ = some (.string a0_4) ∧ w'.cell? ⟨gb139, 5, none⟩ = some (.int .i64 a0_5)) ∧ (Kd.R (Kd.int .u8) 5 w' w.heap.size (fun _ => True) s_ y141) ∧ (w'.heap[gb139]? = some (.cells #[.int .i64 a0_0, .int .i64 a0_1, .int .i64 a0_2, .string a0_3, .string a0_4, .int .i64 a0_5] 59 (0, 0))) ∧ (Below w.heap.size w w')) ?_ ?_
     rotate_left
     ·intro hJ3_4_7_11_15
      refine join_ (σ := Value) 9 #[true, true, true, true, false, true, true, true, false, true, true, true, false, true, true, true, false, true, true, true, false, true, true, false, false, false, false] (fun s_ => [(10, s_), (14, .string t144), (18, .string t145), (22, .string t146), (26, .string t147)]) (fun s_ w' => (w'.cell? ⟨gb139, 0, none⟩ = some (.int .i64 a0_0) ∧ w'.cell? ⟨gb139, 1, none⟩ = some (.int .i64 a0_1) ∧ w'.cell? ⟨gb139, 2, none⟩ = some (.int .i64 a0_2) ∧ w'.cell? ⟨gb139, 3, none⟩ = some (.string a0_3) ∧ w'.cell? ⟨gb139, 4, none⟩ = some (.string a0_4) ∧ w'.cell? ⟨gb139, 5, none⟩ = some (.int .i64 a0_5)) ∧ (Kd.R (Kd.int .u8) 5 w' w.heap.size (fun _ => True) s_ y141) ∧ (w'.heap[gb139]? = some (.cells #[.int .i64 a0_0, .int .i64 a0_1, .int .i64 a0_2, .string a0_3, .string a0_4, .int .i64 a0_5] 59 (0, 0))) ∧ (Below w.heap.size w w')) ?_ ?_
      rotate_left
      ·intro hJ3_7_11_15_19
       refine join_ (σ := Unit) 9 #[true, true, true, false, false, true, true, true, false, true, true, true, false, true, true, true, false, true, true, true, false, true, true, true, false, false, false] (fun s_ => [(14, .string t144), (18, .string t145), (22, .string t146), (26, .string t147), (30, .string t148)]) (fun s_ w' => (w'.cell? ⟨gb139, 0, none⟩ = some (.int .i64 a0_0) ∧ w'.cell? ⟨gb139, 1, none⟩ = some (.int .i64 a0_1) ∧ w'.cell? ⟨gb139, 2, none⟩ = some (.int .i64 a0_2) ∧ w'.cell? ⟨gb139, 3, none⟩ = some (.string a0_3) ∧ w'.cell? ⟨gb139, 4, none⟩ = some (.string a0_4) ∧ w'.cell? ⟨gb139, 5, none⟩ = some (.int .i64 a0_5)) ∧ (w'.heap[gb139]? = some (.cells #[.int .i64 a0_0, .int .i64 a0_1, .int .i64 a0_2, .string a0_3, .string a0_4, .int .i64 a0_5] 59 (0, 0))) ∧ (Below w.heap.size w w')) ?_ ?_
       rotate_left
       ·intro hJ7_11_15_19_23
        refine join_ (σ := Value) 8 #[true, true, true, true, true, true, true, true, true, true, true, true, true, true, true, false, false, true, true, false, false, true, true, false, false, false, false] (fun s_ => [(10, s_), (11, .string (strOfNums y141)), (14, .string t144), (18, .string t145), (15, .string ((strOfNums y141) ++ t144)), (19, .string (((strOfNums y141) ++ t144) ++ t145))]) (fun s_ w' => (w'.cell? ⟨gb139, 0, none⟩ = some (.int .i64 a0_0) ∧ w'.cell? ⟨gb139, 1, none⟩ = some (.int .i64 a0_1) ∧ w'.cell? ⟨gb139, 2, none⟩ = some (.int .i64 a0_2) ∧ w'.cell? ⟨gb139, 3, none⟩ = some (.string a0_3) ∧ w'.cell? ⟨gb139, 4, none⟩ = some (.string a0_4) ∧ w'.cell? ⟨gb139, 5, none⟩ = some (.int .i64 a0_5)) ∧ (Kd.R (Kd.int .u8) 5 w' w.heap.size (fun _ => True) s_ y141) ∧ (w'.heap[gb139]? = some (.cells #[.int .i64 a0_0, .int .i64 a0_1, .int .i64 a0_2, .string a0_3, .string a0_4, .int .i64 a0_5] 59 (0, 0))) ∧ (Below w.heap.size w w')) ?_ ?_
        rotate_left
        ·intro hJ3_4_7_11
         refine join_ (σ := Value) 10 #[true, true, true, true, false, true, true, true, false, true, true, true, false, true, true, true, false, true, true, false, false, true, true, false, false, false, false] (fun s_ => [(10, s_), (14, .string t144), (18, .string t145), (22, .string t146)]) (fun s_ w' => (w'.cell? ⟨gb139, 0, none⟩ = some (.int .i64 a0_0) ∧ w'.cell? ⟨gb139, 1, none⟩ = some (.int .i64 a0_1) ∧ w'.cell? ⟨gb139, 2, none⟩ = some (.int .i64 a0_2) ∧ w'.cell? ⟨gb139, 3, none⟩ = some (.string a0_3) ∧ w'.cell? ⟨gb139, 4, none⟩ = some (.string a0_4) ∧ w'.cell? ⟨gb139, 5, none⟩ = some (.int .i64 a0_5)) ∧ (Kd.R (Kd.int .u8) 5 w' w.heap.size (fun _ => True) s_ y141) ∧ (w'.heap[gb139]? = some (.cells #[.int .i64 a0_0, .int .i64 a0_1, .int .i64 a0_2, .string a0_3, .string a0_4, .int .i64 a0_5] 59 (0, 0))) ∧ (Below w.heap.size w w')) ?_ ?_
         rotate_left
         ·intro hJ3_7_11_15
          refine join_ (σ := Unit) 10 #[true, true, true, false, false, true, true, true, false, true, true, true, false, true, true, true, false, true, true, true, false, true, true, false, false, false, false] (fun s_ => [(14, .string t144), (18, .string t145), (22, .string t146), (26, .string t147)]) (fun s_ w' => (w'.cell? ⟨gb139, 0, none⟩ = some (.int .i64 a0_0) ∧ w'.cell? ⟨gb139, 1, none⟩ = some (.int .i64 a0_1) ∧ w'.cell? ⟨gb139, 2, none⟩ = some (.int .i64 a0_2) ∧ w'.cell? ⟨gb139, 3, none⟩ = some (.string a0_3) ∧ w'.cell? ⟨gb139, 4, none⟩ = some (.string a0_4) ∧ w'.cell? ⟨gb139, 5, none⟩ = some (.int .i64 a0_5)) ∧ (w'.heap[gb139]? = some (.cells #[.int .i64 a0_0, .int .i64 a0_1, .int .i64 a0_2, .string a0_3, .string a0_4, .int .i64 a0_5] 59 (0, 0))) ∧ (Below w.heap.size w w')) ?_ ?_
          rotate_left
          ·intro hJ7_11_15_19
           refine join_ (σ := Value) 10 #[true, true, true, true, true, true, true, true, true, true, true, false, false, true, true, false, false, true, true, false, false, true, true, false, false, false, false] (fun s_ => [(10, s_), (11, .string (strOfNums y141)), (14, .string t144), (15, .string ((strOfNums y141) ++ t144))]) (fun s_ w' => (w'.cell? ⟨gb139, 0, none⟩ = some (.int .i64 a0_0) ∧ w'.cell? ⟨gb139, 1, none⟩ = some (.int .i64 a0_1) ∧ w'.cell? ⟨gb139, 2, none⟩ = some (.int .i64 a0_2) ∧ w'.cell? ⟨gb139, 3, none⟩ = some (.string a0_3) ∧ w'.cell? ⟨gb139, 4, none⟩ = some (.string a0_4) ∧ w'.cell? ⟨gb139, 5, none⟩ = some (.int .i64 a0_5)) ∧ (Kd.R (Kd.int .u8) 5 w' w.heap.size (fun _ => True) s_ y141) ∧ (w'.heap[gb139]? = some (.cells #[.int .i64 a0_0, .int .i64 a0_1, .int .i64 a0_2, .string a0_3, .string a0_4, .int .i64 a0_5] 59 (0, 0))) ∧ (Below w.heap.size w w')) ?_ ?_
           rotate_left
           ·intro hJ3_4_7
            refine join_ (σ := Value) 11 #[true, true, true, true, false, true, true, true, false, true, true, true, false, true, true, false, false, true, true, false, false, true, true, false, false, false, false] (fun s_ => [(10, s_), (14, .string t144), (18, .string t145)]) (fun s_ w' => (w'.cell? ⟨gb139, 0, none⟩ = some (.int .i64 a0_0) ∧ w'.cell? ⟨gb139, 1, none⟩ = some (.int .i64 a0_1) ∧ w'.cell? ⟨gb139, 2, none⟩ = some (.int .i64 a0_2) ∧ w'.cell? ⟨gb139, 3, none⟩ = some (.string a0_3) ∧ w'.cell? ⟨gb139, 4, none⟩ = some (.string a0_4) ∧ w'.cell? ⟨gb139, 5, none⟩ = some (.int .i64 a0_5)) ∧ (Kd.R (Kd.int .u8) 5 w' w.heap.size (fun _ => True) s_ y141) ∧ (w'.heap[gb139]? = some (.cells #[.int .i64 a0_0, .int .i64 a0_1, .int .i64 a0_2, .string a0_3, .string a0_4, .int .i64 a0_5] 59 (0, 0))) ∧ (Below w.heap.size w w')) ?_ ?_
            rotate_left
            ·intro hJ3_7_11
             refine join_ (σ := Unit) 11 #[true, true, true, false, false, true, true, true, false, true, true, true, false, true, true, true, false, true, true, false, false, true, true, false, false, false, false] (fun s_ => [(14, .string t144), (18, .string t145), (22, .string t146)]) (fun s_ w' => (w'.cell? ⟨gb139, 0, none⟩ = some (.int .i64 a0_0) ∧ w'.cell? ⟨gb139, 1, none⟩ = some (.int .i64 a0_1) ∧ w'.cell? ⟨gb139, 2, none⟩ = some (.int .i64 a0_2) ∧ w'.cell? ⟨gb139, 3, none⟩ = some (.string a0_3) ∧ w'.cell? ⟨gb139, 4, none⟩ = some (.string a0_4) ∧ w'.cell? ⟨gb139, 5, none⟩ = some (.int .i64 a0_5)) ∧ (w'.heap[gb139]? = some (.cells #[.int .i64 a0_0, .int .i64 a0_1, .int .i64 a0_2, .string a0_3, .string a0_4, .int .i64 a0_5] 59 (0, 0))) ∧ (Below w.heap.size w w')) ?_ ?_
             rotate_left
             ·intro hJ7_11_15
              refine join_ (σ := Value) 12 #[true, true, true, true, true, true, true, false, false, true, true, false, false, true, true, false, false, true, true, false, false, true, true, false, false, false, false] (fun s_ => [(10, s_), (11, .string (strOfNums y141))]) (fun s_ w' => (w'.cell? ⟨gb139, 0, none⟩ = some (.int .i64 a0_0) ∧ w'.cell? ⟨gb139, 1, none⟩ = some (.int .i64 a0_1) ∧ w'.cell? ⟨gb139, 2, none⟩ = some (.int .i64 a0_2) ∧ w'.cell? ⟨gb139, 3, none⟩ = some (.string a0_3) ∧ w'.cell? ⟨gb139, 4, none⟩ = some (.string a0_4) ∧ w'.cell? ⟨gb139, 5, none⟩ = some (.int .i64 a0_5)) ∧ (Kd.R (Kd.int .u8) 5 w' w.heap.size (fun _ => True) s_ y141) ∧ (w'.heap[gb139]? = some (.cells #[.int .i64 a0_0, .int .i64 a0_1, .int .i64 a0_2, .string a0_3, .string a0_4, .int .i64 a0_5] 59 (0, 0))) ∧ (Below w.heap.size w w')) ?_ ?_
              rotate_left
              ·intro hJ3_4
               refine join_ (σ := Value) 12 #[true, true, true, true, false, true, true, true, false, true, true, false, false, true, true, false, false, true, true, false, false, true, true, false, false, false, false] (fun s_ => [(10, s_), (14, .string t144)]) (fun s_ w' => (w'.cell? ⟨gb139, 0, none⟩ = some (.int .i64 a0_0) ∧ w'.cell? ⟨gb139, 1, none⟩ = some (.int .i64 a0_1) ∧ w'.cell? ⟨gb139, 2, none⟩ = some (.int .i64 a0_2) ∧ w'.cell? ⟨gb139, 3, none⟩ = some (.string a0_3) ∧ w'.cell? ⟨gb139, 4, none⟩ = some (.string a0_4) ∧ w'.cell? ⟨gb139, 5, none⟩ = some (.int .i64 a0_5)) ∧ (Kd.R (Kd.int .u8) 5 w' w.heap.size (fun _ => True) s_ y141) ∧ (w'.heap[gb139]? = some (.cells #[.int .i64 a0_0, .int .i64 a0_1, .int .i64 a0_2, .string a0_3, .string a0_4, .int .i64 a0_5] 59 (0, 0))) ∧ (Below w.heap.size w w')) ?_ ?_
               rotate_left
               ·intro hJ3_7
                refine join_ (σ := Unit) 12 #[true, true, true, false, false, true, true, true, false, true, true, true, false, true, true, false, false, true, true, false, false, true, true, false, false, false, false] (fun s_ => [(14, .string t144), (18, .string t145)]) (fun s_ w' => (w'.cell? ⟨gb139, 0, none⟩ = some (.int .i64 a0_0) ∧ w'.cell? ⟨gb139, 1, none⟩ = some (.int .i64 a0_1) ∧ w'.cell? ⟨gb139, 2, none⟩ = some (.int .i64 a0_2) ∧ w'.cell? ⟨gb139, 3, none⟩ = some (.string a0_3) ∧ w'.cell? ⟨gb139, 4, none⟩ = some (.string a0_4) ∧ w'.cell? ⟨gb139, 5, none⟩ = some (.int .i64 a0_5)) ∧ (w'.heap[gb139]? = some (.cells #[.int .i64 a0_0, .int .i64 a0_1, .int .i64 a0_2, .string a0_3, .string a0_4, .int .i64 a0_5] 59 (0, 0))) ∧ (Below w.heap.size w w')) ?_ ?_
                rotate_left
                ·intro hJ7_11
                 refine join_ (σ := Value) 13 #[true, true, true, true, false, true, true, false, false, true, true, false, false, true, true, false, false, true, true, false, false, true, true, false, false, false, false] (fun s_ => [(10, s_)]) (fun s_ w' => (w'.cell? ⟨gb139, 0, none⟩ = some (.int .i64 a0_0) ∧ w'.cell? ⟨gb139, 1, none⟩ = some (.int .i64 a0_1) ∧ w'.cell? ⟨gb139, 2, none⟩ = some (.int .i64 a0_2) ∧ w'.cell? ⟨gb139, 3, none⟩ = some (.string a0_3) ∧ w'.cell? ⟨gb139, 4, none⟩ = some (.string a0_4) ∧ w'.cell? ⟨gb139, 5, none⟩ = some (.int .i64 a0_5)) ∧ (Kd.R (Kd.int .u8) 5 w' w.heap.size (fun _ => True) s_ y141) ∧ (w'.heap[gb139]? = some (.cells #[.int .i64 a0_0, .int .i64 a0_1, .int .i64 a0_2, .string a0_3, .string a0_4, .int .i64 a0_5] 59 (0, 0))) ∧ (Below w.heap.size w w')) ?_ ?_
                 rotate_left
                 ·intro hJ3
                  refine join_ (σ := Unit) 13 #[true, true, true, false, false, true, true, true, false, true, true, false, false, true, true, false, false, true, true, false, false, true, true, false, false, false, false] (fun s_ => [(14, .string t144)]) (fun s_ w' => (w'.cell? ⟨gb139, 0, none⟩ = some (.int .i64 a0_0) ∧ w'.cell? ⟨gb139, 1, none⟩ = some (.int .i64 a0_1) ∧ w'.cell? ⟨gb139, 2, none⟩ = some (.int .i64 a0_2) ∧ w'.cell? ⟨gb139, 3, none⟩ = some (.string a0_3) ∧ w'.cell? ⟨gb139, 4, none⟩ = some (.string a0_4) ∧ w'.cell? ⟨gb139, 5, none⟩ = some (.int .i64 a0_5)) ∧ (w'.heap[gb139]? = some (.cells #[.int .i64 a0_0, .int .i64 a0_1, .int .i64 a0_2, .string a0_3, .string a0_4, .int .i64 a0_5] 59 (0, 0))) ∧ (Below w.heap.size w w')) ?_ ?_
                  rotate_left
                  ·intro hJ7
                   refine two_ (i := 3) (j := 7) (Ni := some 10) (Nj := some 14) #[true, true, true, true, false, true, true, false, false, true, true, false, false, true, true, false, false, true, true, false, false, true, true, false, false, false, false] #[true, true, true, false, false, true, true, true, false, true, true, false, false, true, true, false, false, true, true, false, false, true, true, false, false, false, false] rfl rfl rfl rfl (two_of HT_.out B4x6_) (by decide) (by decide) (fun K hK => ?_) (fun K hK => ?_)
                   ·skip
                    refine Kd.R_lit_step (Kd.int .u8) _ 5 ?hg (N := 10) ?hd (xs := ([(a0_0) % 256] : List Int)) (inner := [.int .u8 ((a0_0) % 256)]) (ok := fun _ => True) (okp := fun _ => True) ?hr ?hp (fun _ hk => hk) trivial (Below.refl _ _) (Nat.le_refl _) (by simp) ?_; (case hd => rfl); (case hg => rfl); (case hr => exact B4x7_); (case hp => exact B4x5_)
                    intro v142 w18 ho19 hb hg_ hnew_
                    clear hg_ hnew_
                    (first | rw [← Ny141.out] at ho19 | (simp only [Int.reduceToNat] at ho19; rw [← Ny141.out] at ho19))
                    have HO143 := Aside0.mk (Kd.R_lower ho19 (below_size B4x0_))
                    replace BK139 := Aside0.mk (bb BK139.out hb)
                    replace HB := Aside0.mk (below_step B4x0_ hb)
                    clear hb ho19
                    refine hK.out _ _ ⟨(blk_cell BK139.out 0).trans rfl, (blk_cell BK139.out 1).trans rfl, (blk_cell BK139.out 2).trans rfl, (blk_cell BK139.out 3).trans rfl, (blk_cell BK139.out 4).trans rfl, (blk_cell BK139.out 5).trans rfl⟩ (fun hHeld => ?_)
                    clear hK K
                    refine norm_ (a' := ?_) ?_ ?_
                    rotate_left
                    ·show Act.put _ (some 10) _ = _
                     simp only [Act.put, List.setIfInBounds_toArray, List.set_cons_zero, List.set_cons_succ, i64_w, i32_w]
                     rfl
                    exact norm_ B4x1_ (hJ3 (v142) _ ⟨hHeld, B4x2_, B4x3_, B4x0_⟩)
                   ·skip
                    refine goes_ Try.func59 B4x6_ rfl #[.int .i64 a0_1] (by rfl) rfl rfl B4x4_ ?_
                    with_reducible refine (spec_l01Var.calls k a0_1 t144 _ A4.out).mono ?_
                    rintro e w18 ⟨rfl, hb⟩
                    refine ⟨_, rfl, ?_⟩
                    replace BK139 := Aside0.mk (bb BK139.out hb)
                    replace HB := Aside0.mk (below_step B4x0_ hb)
                    (try clear hb)
                    (try clear hb2)
                    (try clear hk)
                    (try clear hi)
                    refine hK.out _ _ ⟨(blk_cell BK139.out 0).trans rfl, (blk_cell BK139.out 1).trans rfl, (blk_cell BK139.out 2).trans rfl, (blk_cell BK139.out 3).trans rfl, (blk_cell BK139.out 4).trans rfl, (blk_cell BK139.out 5).trans rfl⟩ (fun hHeld => ?_)
                    clear hK K
                    refine norm_ (a' := ?_) ?_ ?_
                    rotate_left
                    ·show Act.put _ (some 14) _ = _
                     simp only [Act.put, List.setIfInBounds_toArray, List.set_cons_zero, List.set_cons_succ, i64_w, i32_w]
                     rfl
                    exact norm_ B4x1_ (hJ7 () _ ⟨hHeld, B4x3_, B4x0_⟩)
                  ·skip
                   rintro _ w19 ⟨hS_, h0_, h1_⟩
                   have n0_ : Aside0 (w19.heap[gb139]? = some (.cells #[.int .i64 a0_0, .int .i64 a0_1, .int .i64 a0_2, .string a0_3, .string a0_4, .int .i64 a0_5] 59 (0, 0))) := ⟨h0_⟩
                   have n1_ : Aside0 (Below w.heap.size w w19) := ⟨h1_⟩
                   clear BK139
                   clear HB
                   clear h0_ h1_
                   have BK139 := n0_
                   have HB := n1_
                   clear n0_ n1_
                   have hHeld : w19.cell? ⟨gb139, 0, none⟩ = some (.int .i64 a0_0) ∧ w19.cell? ⟨gb139, 1, none⟩ = some (.int .i64 a0_1) ∧ w19.cell? ⟨gb139, 2, none⟩ = some (.int .i64 a0_2) ∧ w19.cell? ⟨gb139, 3, none⟩ = some (.string a0_3) ∧ w19.cell? ⟨gb139, 4, none⟩ = some (.string a0_4) ∧ w19.cell? ⟨gb139, 5, none⟩ = some (.int .i64 a0_5) := hS_
                   refine norm_ (a' := ?_) ?_ ?_
                   rotate_left
                   ·simp only [putAll, Act.put, List.setIfInBounds_toArray, List.set_cons_zero, List.set_cons_succ]
                    rfl
                   refine two_ (i := 3) (j := 11) (Ni := some 10) (Nj := some 18) #[true, true, true, true, false, true, true, true, false, true, true, false, false, true, true, false, false, true, true, false, false, true, true, false, false, false, false] #[true, true, true, false, false, true, true, true, false, true, true, true, false, true, true, false, false, true, true, false, false, true, true, false, false, false, false] rfl rfl rfl rfl (two_of HT_.out B4x6_) (by decide) (by decide) (fun K hK => ?_) (fun K hK => ?_)
                   ·skip
                    refine Kd.R_lit_step (Kd.int .u8) _ 5 ?hg (N := 10) ?hd (xs := ([(a0_0) % 256] : List Int)) (inner := [.int .u8 ((a0_0) % 256)]) (ok := fun _ => True) (okp := fun _ => True) ?hr ?hp (fun _ hk => hk) trivial (Below.refl _ _) (Nat.le_refl _) (by simp) ?_; (case hd => rfl); (case hg => rfl); (case hr => exact B4x7_); (case hp => exact B4x5_)
                    intro v142 w20 ho21 hb hg_ hnew_
                    clear hg_ hnew_
                    (first | rw [← Ny141.out] at ho21 | (simp only [Int.reduceToNat] at ho21; rw [← Ny141.out] at ho21))
                    have HO143 := Aside0.mk (Kd.R_lower ho21 (below_size B4x0_))
                    replace BK139 := Aside0.mk (bb BK139.out hb)
                    replace HB := Aside0.mk (below_step B4x0_ hb)
                    clear hb ho21
                    refine hK.out _ _ ⟨(blk_cell BK139.out 0).trans rfl, (blk_cell BK139.out 1).trans rfl, (blk_cell BK139.out 2).trans rfl, (blk_cell BK139.out 3).trans rfl, (blk_cell BK139.out 4).trans rfl, (blk_cell BK139.out 5).trans rfl⟩ (fun hHeld => ?_)
                    clear hK K
                    refine norm_ (a' := ?_) ?_ ?_
                    rotate_left
                    ·show Act.put _ (some 10) _ = _
                     simp only [Act.put, List.setIfInBounds_toArray, List.set_cons_zero, List.set_cons_succ, i64_w, i32_w]
                     rfl
                    exact norm_ B4x1_ (hJ3_7 (v142) _ ⟨hHeld, B4x2_, B4x3_, B4x0_⟩)
                   ·skip
                    refine goes_ Try.func59 B4x6_ rfl #[.int .i64 a0_2] (by rfl) rfl rfl B4x4_ ?_
                    with_reducible refine (spec_l01Var.calls k a0_2 t145 _ A6.out).mono ?_
                    rintro e w20 ⟨rfl, hb⟩
                    refine ⟨_, rfl, ?_⟩
                    replace BK139 := Aside0.mk (bb BK139.out hb)
                    replace HB := Aside0.mk (below_step B4x0_ hb)
                    (try clear hb)
                    (try clear hb2)
                    (try clear hk)
                    (try clear hi)
                    refine hK.out _ _ ⟨(blk_cell BK139.out 0).trans rfl, (blk_cell BK139.out 1).trans rfl, (blk_cell BK139.out 2).trans rfl, (blk_cell BK139.out 3).trans rfl, (blk_cell BK139.out 4).trans rfl, (blk_cell BK139.out 5).trans rfl⟩ (fun hHeld => ?_)
                    clear hK K
                    refine norm_ (a' := ?_) ?_ ?_
                    rotate_left
                    ·show Act.put _ (some 18) _ = _
                     simp only [Act.put, List.setIfInBounds_toArray, List.set_cons_zero, List.set_cons_succ, i64_w, i32_w]
                     rfl
                    exact norm_ B4x1_ (hJ7_11 () _ ⟨hHeld, B4x3_, B4x0_⟩)
                 ·skip
                  rintro v142 w20 ⟨hS_, h0_, h1_, h2_⟩
                  have n0_ : Aside0 (Kd.R (Kd.int .u8) 5 w20 w.heap.size (fun _ => True) v142 y141) := ⟨h0_⟩
                  have n1_ : Aside0 (w20.heap[gb139]? = some (.cells #[.int .i64 a0_0, .int .i64 a0_1, .int .i64 a0_2, .string a0_3, .string a0_4, .int .i64 a0_5] 59 (0, 0))) := ⟨h1_⟩
                  have n2_ : Aside0 (Below w.heap.size w w20) := ⟨h2_⟩
                  clear BK139
                  clear HB
                  clear h0_ h1_ h2_
                  have HO143 := n0_
                  have BK139 := n1_
                  have HB := n2_
                  clear n0_ n1_ n2_
                  have hHeld : w20.cell? ⟨gb139, 0, none⟩ = some (.int .i64 a0_0) ∧ w20.cell? ⟨gb139, 1, none⟩ = some (.int .i64 a0_1) ∧ w20.cell? ⟨gb139, 2, none⟩ = some (.int .i64 a0_2) ∧ w20.cell? ⟨gb139, 3, none⟩ = some (.string a0_3) ∧ w20.cell? ⟨gb139, 4, none⟩ = some (.string a0_4) ∧ w20.cell? ⟨gb139, 5, none⟩ = some (.int .i64 a0_5) := hS_
                  refine norm_ (a' := ?_) ?_ ?_
                  rotate_left
                  ·simp only [putAll, Act.put, List.setIfInBounds_toArray, List.set_cons_zero, List.set_cons_succ]
                   rfl
                  refine two_ (i := 4) (j := 7) (Ni := some 11) (Nj := some 14) #[true, true, true, true, true, true, true, false, false, true, true, false, false, true, true, false, false, true, true, false, false, true, true, false, false, false, false] #[true, true, true, true, false, true, true, true, false, true, true, false, false, true, true, false, false, true, true, false, false, true, true, false, false, false, false] rfl rfl rfl rfl (two_of HT_.out B4x6_) (by decide) (by decide) (fun K hK => ?_) (fun K hK => ?_)
                  ·skip
                   have hcv21 := own_string (P := Try.prog) Try.underlying22 Try.underlying5 Try.underlying9 (Kd.own_of_R HO143.out)
                   refine value_ (w1 := ?_) (v := ?_) (by rfl) rfl ?_ ?_
                   rotate_left 2
                   ·go_simp
                    constructor
                    ·rfl
                    ·rfl
                   clear hcv21
                   refine hK.out _ _ ⟨(blk_cell BK139.out 0).trans rfl, (blk_cell BK139.out 1).trans rfl, (blk_cell BK139.out 2).trans rfl, (blk_cell BK139.out 3).trans rfl, (blk_cell BK139.out 4).trans rfl, (blk_cell BK139.out 5).trans rfl⟩ (fun hHeld => ?_)
                   clear hK K
                   refine norm_ (a' := ?_) ?_ ?_
                   rotate_left
                   ·show Act.put _ (some 11) _ = _
                    simp only [Act.put, List.setIfInBounds_toArray, List.set_cons_zero, List.set_cons_succ, i64_w, i32_w]
                    rfl
                   exact norm_ B4x1_ (hJ3_4 (v142) _ ⟨hHeld, B4x2_, B4x3_, B4x0_⟩)
                  ·skip
                   refine goes_ Try.func59 B4x6_ rfl #[.int .i64 a0_1] (by rfl) rfl rfl B4x4_ ?_
                   with_reducible refine (spec_l01Var.calls k a0_1 t144 _ A4.out).mono ?_
                   rintro e w21 ⟨rfl, hb⟩
                   refine ⟨_, rfl, ?_⟩
                   replace HO143 := Aside0.mk (Kd.R_below B4x2_ hb)
                   replace BK139 := Aside0.mk (bb BK139.out hb)
                   replace HB := Aside0.mk (below_step B4x0_ hb)
                   (try clear hb)
                   (try clear hb2)
                   (try clear hk)
                   (try clear hi)
                   refine hK.out _ _ ⟨(blk_cell BK139.out 0).trans rfl, (blk_cell BK139.out 1).trans rfl, (blk_cell BK139.out 2).trans rfl, (blk_cell BK139.out 3).trans rfl, (blk_cell BK139.out 4).trans rfl, (blk_cell BK139.out 5).trans rfl⟩ (fun hHeld => ?_)
                   clear hK K
                   refine norm_ (a' := ?_) ?_ ?_
                   rotate_left
                   ·show Act.put _ (some 14) _ = _
                    simp only [Act.put, List.setIfInBounds_toArray, List.set_cons_zero, List.set_cons_succ, i64_w, i32_w]
                    rfl
                   exact norm_ B4x1_ (hJ3_7 (v142) _ ⟨hHeld, B4x2_, B4x3_, B4x0_⟩)
                ·skip
                 rintro _ w20 ⟨hS_, h0_, h1_⟩
                 have n0_ : Aside0 (w20.heap[gb139]? = some (.cells #[.int .i64 a0_0, .int .i64 a0_1, .int .i64 a0_2, .string a0_3, .string a0_4, .int .i64 a0_5] 59 (0, 0))) := ⟨h0_⟩
                 have n1_ : Aside0 (Below w.heap.size w w20) := ⟨h1_⟩
                 clear BK139
                 clear HB
                 clear h0_ h1_
                 have BK139 := n0_
                 have HB := n1_
                 clear n0_ n1_
                 have hHeld : w20.cell? ⟨gb139, 0, none⟩ = some (.int .i64 a0_0) ∧ w20.cell? ⟨gb139, 1, none⟩ = some (.int .i64 a0_1) ∧ w20.cell? ⟨gb139, 2, none⟩ = some (.int .i64 a0_2) ∧ w20.cell? ⟨gb139, 3, none⟩ = some (.string a0_3) ∧ w20.cell? ⟨gb139, 4, none⟩ = some (.string a0_4) ∧ w20.cell? ⟨gb139, 5, none⟩ = some (.int .i64 a0_5) := hS_
                 refine norm_ (a' := ?_) ?_ ?_
                 rotate_left
                 ·simp only [putAll, Act.put, List.setIfInBounds_toArray, List.set_cons_zero, List.set_cons_succ]
                  rfl
                 refine two_ (i := 3) (j := 15) (Ni := some 10) (Nj := some 22) #[true, true, true, true, false, true, true, true, false, true, true, true, false, true, true, false, false, true, true, false, false, true, true, false, false, false, false] #[true, true, true, false, false, true, true, true, false, true, true, true, false, true, true, true, false, true, true, false, false, true, true, false, false, false, false] rfl rfl rfl rfl (two_of HT_.out B4x6_) (by decide) (by decide) (fun K hK => ?_) (fun K hK => ?_)
                 ·skip
                  refine Kd.R_lit_step (Kd.int .u8) _ 5 ?hg (N := 10) ?hd (xs := ([(a0_0) % 256] : List Int)) (inner := [.int .u8 ((a0_0) % 256)]) (ok := fun _ => True) (okp := fun _ => True) ?hr ?hp (fun _ hk => hk) trivial (Below.refl _ _) (Nat.le_refl _) (by simp) ?_; (case hd => rfl); (case hg => rfl); (case hr => exact B4x7_); (case hp => exact B4x5_)
                  intro v142 w21 ho22 hb hg_ hnew_
                  clear hg_ hnew_
                  (first | rw [← Ny141.out] at ho22 | (simp only [Int.reduceToNat] at ho22; rw [← Ny141.out] at ho22))
                  have HO143 := Aside0.mk (Kd.R_lower ho22 (below_size B4x0_))
                  replace BK139 := Aside0.mk (bb BK139.out hb)
                  replace HB := Aside0.mk (below_step B4x0_ hb)
                  clear hb ho22
                  refine hK.out _ _ ⟨(blk_cell BK139.out 0).trans rfl, (blk_cell BK139.out 1).trans rfl, (blk_cell BK139.out 2).trans rfl, (blk_cell BK139.out 3).trans rfl, (blk_cell BK139.out 4).trans rfl, (blk_cell BK139.out 5).trans rfl⟩ (fun hHeld => ?_)
                  clear hK K
                  refine norm_ (a' := ?_) ?_ ?_
                  rotate_left
                  ·show Act.put _ (some 10) _ = _
                   simp only [Act.put, List.setIfInBounds_toArray, List.set_cons_zero, List.set_cons_succ, i64_w, i32_w]
                   rfl
                  exact norm_ B4x1_ (hJ3_7_11 (v142) _ ⟨hHeld, B4x2_, B4x3_, B4x0_⟩)
                 ·skip
                  refine goes_ Try.func60 B4x6_ rfl #[.string a0_3] (by rfl) rfl rfl B4x4_ ?_
                  with_reducible refine (spec_l16Short.calls k a0_3 t146 _ A8.out).mono ?_
                  rintro e w21 ⟨rfl, hb⟩
                  refine ⟨_, rfl, ?_⟩
                  replace BK139 := Aside0.mk (bb BK139.out hb)
                  replace HB := Aside0.mk (below_step B4x0_ hb)
                  (try clear hb)
                  (try clear hb2)
                  (try clear hk)
                  (try clear hi)
                  refine hK.out _ _ ⟨(blk_cell BK139.out 0).trans rfl, (blk_cell BK139.out 1).trans rfl, (blk_cell BK139.out 2).trans rfl, (blk_cell BK139.out 3).trans rfl, (blk_cell BK139.out 4).trans rfl, (blk_cell BK139.out 5).trans rfl⟩ (fun hHeld => ?_)
                  clear hK K
                  refine norm_ (a' := ?_) ?_ ?_
                  rotate_left
                  ·show Act.put _ (some 22) _ = _
                   simp only [Act.put, List.setIfInBounds_toArray, List.set_cons_zero, List.set_cons_succ, i64_w, i32_w]
                   rfl
                  exact norm_ B4x1_ (hJ7_11_15 () _ ⟨hHeld, B4x3_, B4x0_⟩)
               ·skip
                rintro v142 w21 ⟨hS_, h0_, h1_, h2_⟩
                have n0_ : Aside0 (Kd.R (Kd.int .u8) 5 w21 w.heap.size (fun _ => True) v142 y141) := ⟨h0_⟩
                have n1_ : Aside0 (w21.heap[gb139]? = some (.cells #[.int .i64 a0_0, .int .i64 a0_1, .int .i64 a0_2, .string a0_3, .string a0_4, .int .i64 a0_5] 59 (0, 0))) := ⟨h1_⟩
                have n2_ : Aside0 (Below w.heap.size w w21) := ⟨h2_⟩
                clear BK139
                clear HB
                clear h0_ h1_ h2_
                have HO143 := n0_
                have BK139 := n1_
                have HB := n2_
                clear n0_ n1_ n2_
                have hHeld : w21.cell? ⟨gb139, 0, none⟩ = some (.int .i64 a0_0) ∧ w21.cell? ⟨gb139, 1, none⟩ = some (.int .i64 a0_1) ∧ w21.cell? ⟨gb139, 2, none⟩ = some (.int .i64 a0_2) ∧ w21.cell? ⟨gb139, 3, none⟩ = some (.string a0_3) ∧ w21.cell? ⟨gb139, 4, none⟩ = some (.string a0_4) ∧ w21.cell? ⟨gb139, 5, none⟩ = some (.int .i64 a0_5) := hS_
                refine norm_ (a' := ?_) ?_ ?_
                rotate_left
                ·simp only [putAll, Act.put, List.setIfInBounds_toArray, List.set_cons_zero, List.set_cons_succ]
                 rfl
                refine two_ (i := 4) (j := 11) (Ni := some 11) (Nj := some 18) #[true, true, true, true, true, true, true, true, false, true, true, false, false, true, true, false, false, true, true, false, false, true, true, false, false, false, false] #[true, true, true, true, false, true, true, true, false, true, true, true, false, true, true, false, false, true, true, false, false, true, true, false, false, false, false] rfl rfl rfl rfl (two_of HT_.out B4x6_) (by decide) (by decide) (fun K hK => ?_) (fun K hK => ?_)
                ·skip
                 have hcv22 := own_string (P := Try.prog) Try.underlying22 Try.underlying5 Try.underlying9 (Kd.own_of_R HO143.out)
                 refine value_ (w1 := ?_) (v := ?_) (by rfl) rfl ?_ ?_
                 rotate_left 2
                 ·go_simp
                  constructor
                  ·rfl
                  ·rfl
                 clear hcv22
                 refine hK.out _ _ ⟨(blk_cell BK139.out 0).trans rfl, (blk_cell BK139.out 1).trans rfl, (blk_cell BK139.out 2).trans rfl, (blk_cell BK139.out 3).trans rfl, (blk_cell BK139.out 4).trans rfl, (blk_cell BK139.out 5).trans rfl⟩ (fun hHeld => ?_)
                 clear hK K
                 refine norm_ (a' := ?_) ?_ ?_
                 rotate_left
                 ·show Act.put _ (some 11) _ = _
                  simp only [Act.put, List.setIfInBounds_toArray, List.set_cons_zero, List.set_cons_succ, i64_w, i32_w]
                  rfl
                 refine pu_ 8 15 HT_ ?_
                 exact norm_ B4x1_ (hJ3_4_7 (v142) _ ⟨hHeld, B4x2_, B4x3_, B4x0_⟩)
                ·skip
                 refine goes_ Try.func59 B4x6_ rfl #[.int .i64 a0_2] (by rfl) rfl rfl B4x4_ ?_
                 with_reducible refine (spec_l01Var.calls k a0_2 t145 _ A6.out).mono ?_
                 rintro e w22 ⟨rfl, hb⟩
                 refine ⟨_, rfl, ?_⟩
                 replace HO143 := Aside0.mk (Kd.R_below B4x2_ hb)
                 replace BK139 := Aside0.mk (bb BK139.out hb)
                 replace HB := Aside0.mk (below_step B4x0_ hb)
                 (try clear hb)
                 (try clear hb2)
                 (try clear hk)
                 (try clear hi)
                 refine hK.out _ _ ⟨(blk_cell BK139.out 0).trans rfl, (blk_cell BK139.out 1).trans rfl, (blk_cell BK139.out 2).trans rfl, (blk_cell BK139.out 3).trans rfl, (blk_cell BK139.out 4).trans rfl, (blk_cell BK139.out 5).trans rfl⟩ (fun hHeld => ?_)
                 clear hK K
                 refine norm_ (a' := ?_) ?_ ?_
                 rotate_left
                 ·show Act.put _ (some 18) _ = _
                  simp only [Act.put, List.setIfInBounds_toArray, List.set_cons_zero, List.set_cons_succ, i64_w, i32_w]
                  rfl
                 exact norm_ B4x1_ (hJ3_7_11 (v142) _ ⟨hHeld, B4x2_, B4x3_, B4x0_⟩)
              ·skip
               rintro v142 w21 ⟨hS_, h0_, h1_, h2_⟩
               have n0_ : Aside0 (Kd.R (Kd.int .u8) 5 w21 w.heap.size (fun _ => True) v142 y141) := ⟨h0_⟩
               have n1_ : Aside0 (w21.heap[gb139]? = some (.cells #[.int .i64 a0_0, .int .i64 a0_1, .int .i64 a0_2, .string a0_3, .string a0_4, .int .i64 a0_5] 59 (0, 0))) := ⟨h1_⟩
               have n2_ : Aside0 (Below w.heap.size w w21) := ⟨h2_⟩
               clear BK139
               clear HB
               clear h0_ h1_ h2_
               have HO143 := n0_
               have BK139 := n1_
               have HB := n2_
               clear n0_ n1_ n2_
               have hHeld : w21.cell? ⟨gb139, 0, none⟩ = some (.int .i64 a0_0) ∧ w21.cell? ⟨gb139, 1, none⟩ = some (.int .i64 a0_1) ∧ w21.cell? ⟨gb139, 2, none⟩ = some (.int .i64 a0_2) ∧ w21.cell? ⟨gb139, 3, none⟩ = some (.string a0_3) ∧ w21.cell? ⟨gb139, 4, none⟩ = some (.string a0_4) ∧ w21.cell? ⟨gb139, 5, none⟩ = some (.int .i64 a0_5) := hS_
               refine norm_ (a' := ?_) ?_ ?_
               rotate_left
               ·simp only [putAll, Act.put, List.setIfInBounds_toArray, List.set_cons_zero, List.set_cons_succ]
                rfl
               refine one_ (i := 7) (N := some 14) #[true, true, true, true, true, true, true, true, false, true, true, false, false, true, true, false, false, true, true, false, false, true, true, false, false, false, false] rfl rfl (one_of HT_.out B4x6_) (by decide) (fun K hK => ?_)
               refine goes_ Try.func59 B4x6_ rfl #[.int .i64 a0_1] (by rfl) rfl rfl B4x4_ ?_
               with_reducible refine (spec_l01Var.calls k a0_1 t144 _ A4.out).mono ?_
               rintro e w22 ⟨rfl, hb⟩
               refine ⟨_, rfl, ?_⟩
               replace HO143 := Aside0.mk (Kd.R_below B4x2_ hb)
               replace BK139 := Aside0.mk (bb BK139.out hb)
               replace HB := Aside0.mk (below_step B4x0_ hb)
               (try clear hb)
               (try clear hb2)
               (try clear hk)
               (try clear hi)
               refine hK.out _ _ ⟨(blk_cell BK139.out 0).trans rfl, (blk_cell BK139.out 1).trans rfl, (blk_cell BK139.out 2).trans rfl, (blk_cell BK139.out 3).trans rfl, (blk_cell BK139.out 4).trans rfl, (blk_cell BK139.out 5).trans rfl⟩ (fun hHeld => ?_)
               clear hK K
               refine norm_ (a' := ?_) ?_ ?_
               rotate_left
               ·show Act.put _ (some 14) _ = _
                simp only [Act.put, List.setIfInBounds_toArray, List.set_cons_zero, List.set_cons_succ, i64_w, i32_w]
                rfl
               refine pu_ 8 15 HT_ ?_
               exact norm_ B4x1_ (hJ3_4_7 (v142) _ ⟨hHeld, B4x2_, B4x3_, B4x0_⟩)
             ·skip
              rintro _ w21 ⟨hS_, h0_, h1_⟩
              have n0_ : Aside0 (w21.heap[gb139]? = some (.cells #[.int .i64 a0_0, .int .i64 a0_1, .int .i64 a0_2, .string a0_3, .string a0_4, .int .i64 a0_5] 59 (0, 0))) := ⟨h0_⟩
              have n1_ : Aside0 (Below w.heap.size w w21) := ⟨h1_⟩
              clear BK139
              clear HB
              clear h0_ h1_
              have BK139 := n0_
              have HB := n1_
              clear n0_ n1_
              have hHeld : w21.cell? ⟨gb139, 0, none⟩ = some (.int .i64 a0_0) ∧ w21.cell? ⟨gb139, 1, none⟩ = some (.int .i64 a0_1) ∧ w21.cell? ⟨gb139, 2, none⟩ = some (.int .i64 a0_2) ∧ w21.cell? ⟨gb139, 3, none⟩ = some (.string a0_3) ∧ w21.cell? ⟨gb139, 4, none⟩ = some (.string a0_4) ∧ w21.cell? ⟨gb139, 5, none⟩ = some (.int .i64 a0_5) := hS_
              refine norm_ (a' := ?_) ?_ ?_
              rotate_left
              ·simp only [putAll, Act.put, List.setIfInBounds_toArray, List.set_cons_zero, List.set_cons_succ]
               rfl
              refine two_ (i := 3) (j := 19) (Ni := some 10) (Nj := some 26) #[true, true, true, true, false, true, true, true, false, true, true, true, false, true, true, true, false, true, true, false, false, true, true, false, false, false, false] #[true, true, true, false, false, true, true, true, false, true, true, true, false, true, true, true, false, true, true, true, false, true, true, false, false, false, false] rfl rfl rfl rfl (two_of HT_.out B4x6_) (by decide) (by decide) (fun K hK => ?_) (fun K hK => ?_)
              ·skip
               refine Kd.R_lit_step (Kd.int .u8) _ 5 ?hg (N := 10) ?hd (xs := ([(a0_0) % 256] : List Int)) (inner := [.int .u8 ((a0_0) % 256)]) (ok := fun _ => True) (okp := fun _ => True) ?hr ?hp (fun _ hk => hk) trivial (Below.refl _ _) (Nat.le_refl _) (by simp) ?_; (case hd => rfl); (case hg => rfl); (case hr => exact B4x7_); (case hp => exact B4x5_)
               intro v142 w22 ho23 hb hg_ hnew_
               clear hg_ hnew_
               (first | rw [← Ny141.out] at ho23 | (simp only [Int.reduceToNat] at ho23; rw [← Ny141.out] at ho23))
               have HO143 := Aside0.mk (Kd.R_lower ho23 (below_size B4x0_))
               replace BK139 := Aside0.mk (bb BK139.out hb)
               replace HB := Aside0.mk (below_step B4x0_ hb)
               clear hb ho23
               refine hK.out _ _ ⟨(blk_cell BK139.out 0).trans rfl, (blk_cell BK139.out 1).trans rfl, (blk_cell BK139.out 2).trans rfl, (blk_cell BK139.out 3).trans rfl, (blk_cell BK139.out 4).trans rfl, (blk_cell BK139.out 5).trans rfl⟩ (fun hHeld => ?_)
               clear hK K
               refine norm_ (a' := ?_) ?_ ?_
               rotate_left
               ·show Act.put _ (some 10) _ = _
                simp only [Act.put, List.setIfInBounds_toArray, List.set_cons_zero, List.set_cons_succ, i64_w, i32_w]
                rfl
               exact norm_ B4x1_ (hJ3_7_11_15 (v142) _ ⟨hHeld, B4x2_, B4x3_, B4x0_⟩)
              ·skip
               refine goes_ Try.func60 B4x6_ rfl #[.string a0_4] (by rfl) rfl rfl B4x4_ ?_
               with_reducible refine (spec_l16Short.calls k a0_4 t147 _ A10.out).mono ?_
               rintro e w22 ⟨rfl, hb⟩
               refine ⟨_, rfl, ?_⟩
               replace BK139 := Aside0.mk (bb BK139.out hb)
               replace HB := Aside0.mk (below_step B4x0_ hb)
               (try clear hb)
               (try clear hb2)
               (try clear hk)
               (try clear hi)
               refine hK.out _ _ ⟨(blk_cell BK139.out 0).trans rfl, (blk_cell BK139.out 1).trans rfl, (blk_cell BK139.out 2).trans rfl, (blk_cell BK139.out 3).trans rfl, (blk_cell BK139.out 4).trans rfl, (blk_cell BK139.out 5).trans rfl⟩ (fun hHeld => ?_)
               clear hK K
               refine norm_ (a' := ?_) ?_ ?_
               rotate_left
               ·show Act.put _ (some 26) _ = _
                simp only [Act.put, List.setIfInBounds_toArray, List.set_cons_zero, List.set_cons_succ, i64_w, i32_w]
                rfl
               exact norm_ B4x1_ (hJ7_11_15_19 () _ ⟨hHeld, B4x3_, B4x0_⟩)
            ·skip
             rintro v142 w22 ⟨hS_, h0_, h1_, h2_⟩
             have n0_ : Aside0 (Kd.R (Kd.int .u8) 5 w22 w.heap.size (fun _ => True) v142 y141) := ⟨h0_⟩
             have n1_ : Aside0 (w22.heap[gb139]? = some (.cells #[.int .i64 a0_0, .int .i64 a0_1, .int .i64 a0_2, .string a0_3, .string a0_4, .int .i64 a0_5] 59 (0, 0))) := ⟨h1_⟩
             have n2_ : Aside0 (Below w.heap.size w w22) := ⟨h2_⟩
             clear BK139
             clear HB
             clear h0_ h1_ h2_
             have HO143 := n0_
             have BK139 := n1_
             have HB := n2_
             clear n0_ n1_ n2_
             have hHeld : w22.cell? ⟨gb139, 0, none⟩ = some (.int .i64 a0_0) ∧ w22.cell? ⟨gb139, 1, none⟩ = some (.int .i64 a0_1) ∧ w22.cell? ⟨gb139, 2, none⟩ = some (.int .i64 a0_2) ∧ w22.cell? ⟨gb139, 3, none⟩ = some (.string a0_3) ∧ w22.cell? ⟨gb139, 4, none⟩ = some (.string a0_4) ∧ w22.cell? ⟨gb139, 5, none⟩ = some (.int .i64 a0_5) := hS_
             refine norm_ (a' := ?_) ?_ ?_
             rotate_left
             ·simp only [putAll, Act.put, List.setIfInBounds_toArray, List.set_cons_zero, List.set_cons_succ]
              rfl
             refine two_ (i := 4) (j := 15) (Ni := some 11) (Nj := some 22) #[true, true, true, true, true, true, true, true, false, true, true, true, false, true, true, false, false, true, true, false, false, true, true, false, false, false, false] #[true, true, true, true, false, true, true, true, false, true, true, true, false, true, true, true, false, true, true, false, false, true, true, false, false, false, false] rfl rfl rfl rfl (two_of HT_.out B4x6_) (by decide) (by decide) (fun K hK => ?_) (fun K hK => ?_)
             ·skip
              have hcv23 := own_string (P := Try.prog) Try.underlying22 Try.underlying5 Try.underlying9 (Kd.own_of_R HO143.out)
              refine value_ (w1 := ?_) (v := ?_) (by rfl) rfl ?_ ?_
              rotate_left 2
              ·go_simp
               constructor
               ·rfl
               ·rfl
              clear hcv23
              refine hK.out _ _ ⟨(blk_cell BK139.out 0).trans rfl, (blk_cell BK139.out 1).trans rfl, (blk_cell BK139.out 2).trans rfl, (blk_cell BK139.out 3).trans rfl, (blk_cell BK139.out 4).trans rfl, (blk_cell BK139.out 5).trans rfl⟩ (fun hHeld => ?_)
              clear hK K
              refine norm_ (a' := ?_) ?_ ?_
              rotate_left
              ·show Act.put _ (some 11) _ = _
               simp only [Act.put, List.setIfInBounds_toArray, List.set_cons_zero, List.set_cons_succ, i64_w, i32_w]
               rfl
              refine pu_ 8 15 HT_ ?_
              refine pu_ 12 19 HT_ ?_
              exact norm_ B4x1_ (hJ3_4_7_11 (v142) _ ⟨hHeld, B4x2_, B4x3_, B4x0_⟩)
             ·skip
              refine goes_ Try.func60 B4x6_ rfl #[.string a0_3] (by rfl) rfl rfl B4x4_ ?_
              with_reducible refine (spec_l16Short.calls k a0_3 t146 _ A8.out).mono ?_
              rintro e w23 ⟨rfl, hb⟩
              refine ⟨_, rfl, ?_⟩
              replace HO143 := Aside0.mk (Kd.R_below B4x2_ hb)
              replace BK139 := Aside0.mk (bb BK139.out hb)
              replace HB := Aside0.mk (below_step B4x0_ hb)
              (try clear hb)
              (try clear hb2)
              (try clear hk)
              (try clear hi)
              refine hK.out _ _ ⟨(blk_cell BK139.out 0).trans rfl, (blk_cell BK139.out 1).trans rfl, (blk_cell BK139.out 2).trans rfl, (blk_cell BK139.out 3).trans rfl, (blk_cell BK139.out 4).trans rfl, (blk_cell BK139.out 5).trans rfl⟩ (fun hHeld => ?_)
              clear hK K
              refine norm_ (a' := ?_) ?_ ?_
              rotate_left
              ·show Act.put _ (some 22) _ = _
               simp only [Act.put, List.setIfInBounds_toArray, List.set_cons_zero, List.set_cons_succ, i64_w, i32_w]
               rfl
              exact norm_ B4x1_ (hJ3_7_11_15 (v142) _ ⟨hHeld, B4x2_, B4x3_, B4x0_⟩)
           ·skip
            rintro v142 w22 ⟨hS_, h0_, h1_, h2_⟩
            have n0_ : Aside0 (Kd.R (Kd.int .u8) 5 w22 w.heap.size (fun _ => True) v142 y141) := ⟨h0_⟩
            have n1_ : Aside0 (w22.heap[gb139]? = some (.cells #[.int .i64 a0_0, .int .i64 a0_1, .int .i64 a0_2, .string a0_3, .string a0_4, .int .i64 a0_5] 59 (0, 0))) := ⟨h1_⟩
            have n2_ : Aside0 (Below w.heap.size w w22) := ⟨h2_⟩
            clear BK139
            clear HB
            clear h0_ h1_ h2_
            have HO143 := n0_
            have BK139 := n1_
            have HB := n2_
            clear n0_ n1_ n2_
            have hHeld : w22.cell? ⟨gb139, 0, none⟩ = some (.int .i64 a0_0) ∧ w22.cell? ⟨gb139, 1, none⟩ = some (.int .i64 a0_1) ∧ w22.cell? ⟨gb139, 2, none⟩ = some (.int .i64 a0_2) ∧ w22.cell? ⟨gb139, 3, none⟩ = some (.string a0_3) ∧ w22.cell? ⟨gb139, 4, none⟩ = some (.string a0_4) ∧ w22.cell? ⟨gb139, 5, none⟩ = some (.int .i64 a0_5) := hS_
            refine norm_ (a' := ?_) ?_ ?_
            rotate_left
            ·simp only [putAll, Act.put, List.setIfInBounds_toArray, List.set_cons_zero, List.set_cons_succ]
             rfl
            refine one_ (i := 11) (N := some 18) #[true, true, true, true, true, true, true, true, true, true, true, true, false, true, true, false, false, true, true, false, false, true, true, false, false, false, false] rfl rfl (one_of HT_.out B4x6_) (by decide) (fun K hK => ?_)
            refine goes_ Try.func59 B4x6_ rfl #[.int .i64 a0_2] (by rfl) rfl rfl B4x4_ ?_
            with_reducible refine (spec_l01Var.calls k a0_2 t145 _ A6.out).mono ?_
            rintro e w23 ⟨rfl, hb⟩
            refine ⟨_, rfl, ?_⟩
            replace HO143 := Aside0.mk (Kd.R_below B4x2_ hb)
            replace BK139 := Aside0.mk (bb BK139.out hb)
            replace HB := Aside0.mk (below_step B4x0_ hb)
            (try clear hb)
            (try clear hb2)
            (try clear hk)
            (try clear hi)
            refine hK.out _ _ ⟨(blk_cell BK139.out 0).trans rfl, (blk_cell BK139.out 1).trans rfl, (blk_cell BK139.out 2).trans rfl, (blk_cell BK139.out 3).trans rfl, (blk_cell BK139.out 4).trans rfl, (blk_cell BK139.out 5).trans rfl⟩ (fun hHeld => ?_)
            clear hK K
            refine norm_ (a' := ?_) ?_ ?_
            rotate_left
            ·show Act.put _ (some 18) _ = _
             simp only [Act.put, List.setIfInBounds_toArray, List.set_cons_zero, List.set_cons_succ, i64_w, i32_w]
             rfl
            refine pu_ 12 19 HT_ ?_
            exact norm_ B4x1_ (hJ3_4_7_11 (v142) _ ⟨hHeld, B4x2_, B4x3_, B4x0_⟩)
          ·skip
           rintro _ w22 ⟨hS_, h0_, h1_⟩
           have n0_ : Aside0 (w22.heap[gb139]? = some (.cells #[.int .i64 a0_0, .int .i64 a0_1, .int .i64 a0_2, .string a0_3, .string a0_4, .int .i64 a0_5] 59 (0, 0))) := ⟨h0_⟩
           have n1_ : Aside0 (Below w.heap.size w w22) := ⟨h1_⟩
           clear BK139
           clear HB
           clear h0_ h1_
           have BK139 := n0_
           have HB := n1_
           clear n0_ n1_
           have hHeld : w22.cell? ⟨gb139, 0, none⟩ = some (.int .i64 a0_0) ∧ w22.cell? ⟨gb139, 1, none⟩ = some (.int .i64 a0_1) ∧ w22.cell? ⟨gb139, 2, none⟩ = some (.int .i64 a0_2) ∧ w22.cell? ⟨gb139, 3, none⟩ = some (.string a0_3) ∧ w22.cell? ⟨gb139, 4, none⟩ = some (.string a0_4) ∧ w22.cell? ⟨gb139, 5, none⟩ = some (.int .i64 a0_5) := hS_
           refine norm_ (a' := ?_) ?_ ?_
           rotate_left
           ·simp only [putAll, Act.put, List.setIfInBounds_toArray, List.set_cons_zero, List.set_cons_succ]
            rfl
           refine two_ (i := 3) (j := 23) (Ni := some 10) (Nj := some 30) #[true, true, true, true, false, true, true, true, false, true, true, true, false, true, true, true, false, true, true, true, false, true, true, false, false, false, false] #[true, true, true, false, false, true, true, true, false, true, true, true, false, true, true, true, false, true, true, true, false, true, true, true, false, false, false] rfl rfl rfl rfl (two_of HT_.out B4x6_) (by decide) (by decide) (fun K hK => ?_) (fun K hK => ?_)
           ·skip
            refine Kd.R_lit_step (Kd.int .u8) _ 5 ?hg (N := 10) ?hd (xs := ([(a0_0) % 256] : List Int)) (inner := [.int .u8 ((a0_0) % 256)]) (ok := fun _ => True) (okp := fun _ => True) ?hr ?hp (fun _ hk => hk) trivial (Below.refl _ _) (Nat.le_refl _) (by simp) ?_; (case hd => rfl); (case hg => rfl); (case hr => exact B4x7_); (case hp => exact B4x5_)
            intro v142 w23 ho24 hb hg_ hnew_
            clear hg_ hnew_
            (first | rw [← Ny141.out] at ho24 | (simp only [Int.reduceToNat] at ho24; rw [← Ny141.out] at ho24))
            have HO143 := Aside0.mk (Kd.R_lower ho24 (below_size B4x0_))
            replace BK139 := Aside0.mk (bb BK139.out hb)
            replace HB := Aside0.mk (below_step B4x0_ hb)
            clear hb ho24
            refine hK.out _ _ ⟨(blk_cell BK139.out 0).trans rfl, (blk_cell BK139.out 1).trans rfl, (blk_cell BK139.out 2).trans rfl, (blk_cell BK139.out 3).trans rfl, (blk_cell BK139.out 4).trans rfl, (blk_cell BK139.out 5).trans rfl⟩ (fun hHeld => ?_)
            clear hK K
            refine norm_ (a' := ?_) ?_ ?_
            rotate_left
            ·show Act.put _ (some 10) _ = _
             simp only [Act.put, List.setIfInBounds_toArray, List.set_cons_zero, List.set_cons_succ, i64_w, i32_w]
             rfl
            exact norm_ B4x1_ (hJ3_7_11_15_19 (v142) _ ⟨hHeld, B4x2_, B4x3_, B4x0_⟩)
           ·skip
            refine goes_ Try.func59 B4x6_ rfl #[.int .i64 a0_5] (by rfl) rfl rfl B4x4_ ?_
            with_reducible refine (spec_l01Var.calls k a0_5 t148 _ A12.out).mono ?_
            rintro e w23 ⟨rfl, hb⟩
            refine ⟨_, rfl, ?_⟩
            replace BK139 := Aside0.mk (bb BK139.out hb)
            replace HB := Aside0.mk (below_step B4x0_ hb)
            (try clear hb)
            (try clear hb2)
            (try clear hk)
            (try clear hi)
            refine hK.out _ _ ⟨(blk_cell BK139.out 0).trans rfl, (blk_cell BK139.out 1).trans rfl, (blk_cell BK139.out 2).trans rfl, (blk_cell BK139.out 3).trans rfl, (blk_cell BK139.out 4).trans rfl, (blk_cell BK139.out 5).trans rfl⟩ (fun hHeld => ?_)
            clear hK K
            refine norm_ (a' := ?_) ?_ ?_
            rotate_left
            ·show Act.put _ (some 30) _ = _
             simp only [Act.put, List.setIfInBounds_toArray, List.set_cons_zero, List.set_cons_succ, i64_w, i32_w]
             rfl
            exact norm_ B4x1_ (hJ7_11_15_19_23 () _ ⟨hHeld, B4x3_, B4x0_⟩)
         ·skip
          rintro v142 w23 ⟨hS_, h0_, h1_, h2_⟩
          have n0_ : Aside0 (Kd.R (Kd.int .u8) 5 w23 w.heap.size (fun _ => True) v142 y141) := ⟨h0_⟩
          have n1_ : Aside0 (w23.heap[gb139]? = some (.cells #[.int .i64 a0_0, .int .i64 a0_1, .int .i64 a0_2, .string a0_3, .string a0_4, .int .i64 a0_5] 59 (0, 0))) := ⟨h1_⟩
          have n2_ : Aside0 (Below w.heap.size w w23) := ⟨h2_⟩
          clear BK139
          clear HB
          clear h0_ h1_ h2_
          have HO143 := n0_
          have BK139 := n1_
          have HB := n2_
          clear n0_ n1_ n2_
          have hHeld : w23.cell? ⟨gb139, 0, none⟩ = some (.int .i64 a0_0) ∧ w23.cell? ⟨gb139, 1, none⟩ = some (.int .i64 a0_1) ∧ w23.cell? ⟨gb139, 2, none⟩ = some (.int .i64 a0_2) ∧ w23.cell? ⟨gb139, 3, none⟩ = some (.string a0_3) ∧ w23.cell? ⟨gb139, 4, none⟩ = some (.string a0_4) ∧ w23.cell? ⟨gb139, 5, none⟩ = some (.int .i64 a0_5) := hS_
          refine norm_ (a' := ?_) ?_ ?_
          rotate_left
          ·simp only [putAll, Act.put, List.setIfInBounds_toArray, List.set_cons_zero, List.set_cons_succ]
           rfl
          refine two_ (i := 4) (j := 19) (Ni := some 11) (Nj := some 26) #[true, true, true, true, true, true, true, true, false, true, true, true, false, true, true, true, false, true, true, false, false, true, true, false, false, false, false] #[true, true, true, true, false, true, true, true, false, true, true, true, false, true, true, true, false, true, true, true, false, true, true, false, false, false, false] rfl rfl rfl rfl (two_of HT_.out B4x6_) (by decide) (by decide) (fun K hK => ?_) (fun K hK => ?_)
          ·skip
           have hcv24 := own_string (P := Try.prog) Try.underlying22 Try.underlying5 Try.underlying9 (Kd.own_of_R HO143.out)
           refine value_ (w1 := ?_) (v := ?_) (by rfl) rfl ?_ ?_
           rotate_left 2
           ·go_simp
            constructor
            ·rfl
            ·rfl
           clear hcv24
           refine hK.out _ _ ⟨(blk_cell BK139.out 0).trans rfl, (blk_cell BK139.out 1).trans rfl, (blk_cell BK139.out 2).trans rfl, (blk_cell BK139.out 3).trans rfl, (blk_cell BK139.out 4).trans rfl, (blk_cell BK139.out 5).trans rfl⟩ (fun hHeld => ?_)
           clear hK K
           refine norm_ (a' := ?_) ?_ ?_
           rotate_left
           ·show Act.put _ (some 11) _ = _
            simp only [Act.put, List.setIfInBounds_toArray, List.set_cons_zero, List.set_cons_succ, i64_w, i32_w]
            rfl
           refine pu_ 8 15 HT_ ?_
           refine pu_ 12 19 HT_ ?_
           refine pu_ 16 23 HT_ ?_
           exact norm_ B4x1_ (hJ3_4_7_11_15 (v142) _ ⟨hHeld, B4x2_, B4x3_, B4x0_⟩)
          ·skip
           refine goes_ Try.func60 B4x6_ rfl #[.string a0_4] (by rfl) rfl rfl B4x4_ ?_
           with_reducible refine (spec_l16Short.calls k a0_4 t147 _ A10.out).mono ?_
           rintro e w24 ⟨rfl, hb⟩
           refine ⟨_, rfl, ?_⟩
           replace HO143 := Aside0.mk (Kd.R_below B4x2_ hb)
           replace BK139 := Aside0.mk (bb BK139.out hb)
           replace HB := Aside0.mk (below_step B4x0_ hb)
           (try clear hb)
           (try clear hb2)
           (try clear hk)
           (try clear hi)
           refine hK.out _ _ ⟨(blk_cell BK139.out 0).trans rfl, (blk_cell BK139.out 1).trans rfl, (blk_cell BK139.out 2).trans rfl, (blk_cell BK139.out 3).trans rfl, (blk_cell BK139.out 4).trans rfl, (blk_cell BK139.out 5).trans rfl⟩ (fun hHeld => ?_)
           clear hK K
           refine norm_ (a' := ?_) ?_ ?_
           rotate_left
           ·show Act.put _ (some 26) _ = _
            simp only [Act.put, List.setIfInBounds_toArray, List.set_cons_zero, List.set_cons_succ, i64_w, i32_w]
            rfl
           exact norm_ B4x1_ (hJ3_7_11_15_19 (v142) _ ⟨hHeld, B4x2_, B4x3_, B4x0_⟩)
        ·skip
         rintro v142 w23 ⟨hS_, h0_, h1_, h2_⟩
         have n0_ : Aside0 (Kd.R (Kd.int .u8) 5 w23 w.heap.size (fun _ => True) v142 y141) := ⟨h0_⟩
         have n1_ : Aside0 (w23.heap[gb139]? = some (.cells #[.int .i64 a0_0, .int .i64 a0_1, .int .i64 a0_2, .string a0_3, .string a0_4, .int .i64 a0_5] 59 (0, 0))) := ⟨h1_⟩
         have n2_ : Aside0 (Below w.heap.size w w23) := ⟨h2_⟩
         clear BK139
         clear HB
         clear h0_ h1_ h2_
         have HO143 := n0_
         have BK139 := n1_
         have HB := n2_
         clear n0_ n1_ n2_
         have hHeld : w23.cell? ⟨gb139, 0, none⟩ = some (.int .i64 a0_0) ∧ w23.cell? ⟨gb139, 1, none⟩ = some (.int .i64 a0_1) ∧ w23.cell? ⟨gb139, 2, none⟩ = some (.int .i64 a0_2) ∧ w23.cell? ⟨gb139, 3, none⟩ = some (.string a0_3) ∧ w23.cell? ⟨gb139, 4, none⟩ = some (.string a0_4) ∧ w23.cell? ⟨gb139, 5, none⟩ = some (.int .i64 a0_5) := hS_
         refine norm_ (a' := ?_) ?_ ?_
         rotate_left
         ·simp only [putAll, Act.put, List.setIfInBounds_toArray, List.set_cons_zero, List.set_cons_succ]
          rfl
         refine one_ (i := 15) (N := some 22) #[true, true, true, true, true, true, true, true, true, true, true, true, true, true, true, true, false, true, true, false, false, true, true, false, false, false, false] rfl rfl (one_of HT_.out B4x6_) (by decide) (fun K hK => ?_)
         refine goes_ Try.func60 B4x6_ rfl #[.string a0_3] (by rfl) rfl rfl B4x4_ ?_
         with_reducible refine (spec_l16Short.calls k a0_3 t146 _ A8.out).mono ?_
         rintro e w24 ⟨rfl, hb⟩
         refine ⟨_, rfl, ?_⟩
         replace HO143 := Aside0.mk (Kd.R_below B4x2_ hb)
         replace BK139 := Aside0.mk (bb BK139.out hb)
         replace HB := Aside0.mk (below_step B4x0_ hb)
         (try clear hb)
         (try clear hb2)
         (try clear hk)
         (try clear hi)
         refine hK.out _ _ ⟨(blk_cell BK139.out 0).trans rfl, (blk_cell BK139.out 1).trans rfl, (blk_cell BK139.out 2).trans rfl, (blk_cell BK139.out 3).trans rfl, (blk_cell BK139.out 4).trans rfl, (blk_cell BK139.out 5).trans rfl⟩ (fun hHeld => ?_)
         clear hK K
         refine norm_ (a' := ?_) ?_ ?_
         rotate_left
         ·show Act.put _ (some 22) _ = _
          simp only [Act.put, List.setIfInBounds_toArray, List.set_cons_zero, List.set_cons_succ, i64_w, i32_w]
          rfl
         refine pu_ 16 23 HT_ ?_
         exact norm_ B4x1_ (hJ3_4_7_11_15 (v142) _ ⟨hHeld, B4x2_, B4x3_, B4x0_⟩)
       ·skip
        rintro _ w23 ⟨hS_, h0_, h1_⟩
        have n0_ : Aside0 (w23.heap[gb139]? = some (.cells #[.int .i64 a0_0, .int .i64 a0_1, .int .i64 a0_2, .string a0_3, .string a0_4, .int .i64 a0_5] 59 (0, 0))) := ⟨h0_⟩
        have n1_ : Aside0 (Below w.heap.size w w23) := ⟨h1_⟩
        clear BK139
        clear HB
        clear h0_ h1_
        have BK139 := n0_
        have HB := n1_
        clear n0_ n1_
        have hHeld : w23.cell? ⟨gb139, 0, none⟩ = some (.int .i64 a0_0) ∧ w23.cell? ⟨gb139, 1, none⟩ = some (.int .i64 a0_1) ∧ w23.cell? ⟨gb139, 2, none⟩ = some (.int .i64 a0_2) ∧ w23.cell? ⟨gb139, 3, none⟩ = some (.string a0_3) ∧ w23.cell? ⟨gb139, 4, none⟩ = some (.string a0_4) ∧ w23.cell? ⟨gb139, 5, none⟩ = some (.int .i64 a0_5) := hS_
        refine norm_ (a' := ?_) ?_ ?_
        rotate_left
        ·simp only [putAll, Act.put, List.setIfInBounds_toArray, List.set_cons_zero, List.set_cons_succ]
         rfl
        refine one_ (i := 3) (N := some 10) #[true, true, true, true, false, true, true, true, false, true, true, true, false, true, true, true, false, true, true, true, false, true, true, true, false, false, false] rfl rfl (one_of HT_.out B4x6_) (by decide) (fun K hK => ?_)
        refine Kd.R_lit_step (Kd.int .u8) _ 5 ?hg (N := 10) ?hd (xs := ([(a0_0) % 256] : List Int)) (inner := [.int .u8 ((a0_0) % 256)]) (ok := fun _ => True) (okp := fun _ => True) ?hr ?hp (fun _ hk => hk) trivial (Below.refl _ _) (Nat.le_refl _) (by simp) ?_; (case hd => rfl); (case hg => rfl); (case hr => exact B4x7_); (case hp => exact B4x5_)
        intro v142 w24 ho25 hb hg_ hnew_
        clear hg_ hnew_
        (first | rw [← Ny141.out] at ho25 | (simp only [Int.reduceToNat] at ho25; rw [← Ny141.out] at ho25))
        have HO143 := Aside0.mk (Kd.R_lower ho25 (below_size B4x0_))
        replace BK139 := Aside0.mk (bb BK139.out hb)
        replace HB := Aside0.mk (below_step B4x0_ hb)
        clear hb ho25
        refine hK.out _ _ ⟨(blk_cell BK139.out 0).trans rfl, (blk_cell BK139.out 1).trans rfl, (blk_cell BK139.out 2).trans rfl, (blk_cell BK139.out 3).trans rfl, (blk_cell BK139.out 4).trans rfl, (blk_cell BK139.out 5).trans rfl⟩ (fun hHeld => ?_)
        clear hK K
        refine norm_ (a' := ?_) ?_ ?_
        rotate_left
        ·show Act.put _ (some 10) _ = _
         simp only [Act.put, List.setIfInBounds_toArray, List.set_cons_zero, List.set_cons_succ, i64_w, i32_w]
         rfl
        exact norm_ B4x1_ (hJ3_7_11_15_19_23 (v142) _ ⟨hHeld, B4x2_, B4x3_, B4x0_⟩)
      ·skip
       rintro v142 w24 ⟨hS_, h0_, h1_, h2_⟩
       have n0_ : Aside0 (Kd.R (Kd.int .u8) 5 w24 w.heap.size (fun _ => True) v142 y141) := ⟨h0_⟩
       have n1_ : Aside0 (w24.heap[gb139]? = some (.cells #[.int .i64 a0_0, .int .i64 a0_1, .int .i64 a0_2, .string a0_3, .string a0_4, .int .i64 a0_5] 59 (0, 0))) := ⟨h1_⟩
       have n2_ : Aside0 (Below w.heap.size w w24) := ⟨h2_⟩
       clear BK139
       clear HB
       clear h0_ h1_ h2_
       have HO143 := n0_
       have BK139 := n1_
       have HB := n2_
       clear n0_ n1_ n2_
       have hHeld : w24.cell? ⟨gb139, 0, none⟩ = some (.int .i64 a0_0) ∧ w24.cell? ⟨gb139, 1, none⟩ = some (.int .i64 a0_1) ∧ w24.cell? ⟨gb139, 2, none⟩ = some (.int .i64 a0_2) ∧ w24.cell? ⟨gb139, 3, none⟩ = some (.string a0_3) ∧ w24.cell? ⟨gb139, 4, none⟩ = some (.string a0_4) ∧ w24.cell? ⟨gb139, 5, none⟩ = some (.int .i64 a0_5) := hS_
       refine norm_ (a' := ?_) ?_ ?_
       rotate_left
       ·simp only [putAll, Act.put, List.setIfInBounds_toArray, List.set_cons_zero, List.set_cons_succ]
        rfl
       refine two_ (i := 4) (j := 23) (Ni := some 11) (Nj := some 30) #[true, true, true, true, true, true, true, true, false, true, true, true, false, true, true, true, false, true, true, true, false, true, true, false, false, false, false] #[true, true, true, true, false, true, true, true, false, true, true, true, false, true, true, true, false, true, true, true, false, true, true, true, false, false, false] rfl rfl rfl rfl (two_of HT_.out B4x6_) (by decide) (by decide) (fun K hK => ?_) (fun K hK => ?_)
       ·skip
        have hcv25 := own_string (P := Try.prog) Try.underlying22 Try.underlying5 Try.underlying9 (Kd.own_of_R HO143.out)
        refine value_ (w1 := ?_) (v := ?_) (by rfl) rfl ?_ ?_
        rotate_left 2
        ·go_simp
         constructor
         ·rfl
         ·rfl
        clear hcv25
        refine hK.out _ _ ⟨(blk_cell BK139.out 0).trans rfl, (blk_cell BK139.out 1).trans rfl, (blk_cell BK139.out 2).trans rfl, (blk_cell BK139.out 3).trans rfl, (blk_cell BK139.out 4).trans rfl, (blk_cell BK139.out 5).trans rfl⟩ (fun hHeld => ?_)
        clear hK K
        refine norm_ (a' := ?_) ?_ ?_
        rotate_left
        ·show Act.put _ (some 11) _ = _
         simp only [Act.put, List.setIfInBounds_toArray, List.set_cons_zero, List.set_cons_succ, i64_w, i32_w]
         rfl
        refine pu_ 8 15 HT_ ?_
        refine pu_ 12 19 HT_ ?_
        refine pu_ 16 23 HT_ ?_
        refine pu_ 20 27 HT_ ?_
        exact norm_ B4x1_ (hJ3_4_7_11_15_19 (v142) _ ⟨hHeld, B4x2_, B4x3_, B4x0_⟩)
       ·skip
        refine goes_ Try.func59 B4x6_ rfl #[.int .i64 a0_5] (by rfl) rfl rfl B4x4_ ?_
        with_reducible refine (spec_l01Var.calls k a0_5 t148 _ A12.out).mono ?_
        rintro e w25 ⟨rfl, hb⟩
        refine ⟨_, rfl, ?_⟩
        replace HO143 := Aside0.mk (Kd.R_below B4x2_ hb)
        replace BK139 := Aside0.mk (bb BK139.out hb)
        replace HB := Aside0.mk (below_step B4x0_ hb)
        (try clear hb)
        (try clear hb2)
        (try clear hk)
        (try clear hi)
        refine hK.out _ _ ⟨(blk_cell BK139.out 0).trans rfl, (blk_cell BK139.out 1).trans rfl, (blk_cell BK139.out 2).trans rfl, (blk_cell BK139.out 3).trans rfl, (blk_cell BK139.out 4).trans rfl, (blk_cell BK139.out 5).trans rfl⟩ (fun hHeld => ?_)
        clear hK K
        refine norm_ (a' := ?_) ?_ ?_
        rotate_left
        ·show Act.put _ (some 30) _ = _
         simp only [Act.put, List.setIfInBounds_toArray, List.set_cons_zero, List.set_cons_succ, i64_w, i32_w]
         rfl
        exact norm_ B4x1_ (hJ3_7_11_15_19_23 (v142) _ ⟨hHeld, B4x2_, B4x3_, B4x0_⟩)
     ·skip
      rintro v142 w24 ⟨hS_, h0_, h1_, h2_⟩
      have n0_ : Aside0 (Kd.R (Kd.int .u8) 5 w24 w.heap.size (fun _ => True) v142 y141) := ⟨h0_⟩
      have n1_ : Aside0 (w24.heap[gb139]? = some (.cells #[.int .i64 a0_0, .int .i64 a0_1, .int .i64 a0_2, .string a0_3, .string a0_4, .int .i64 a0_5] 59 (0, 0))) := ⟨h1_⟩
      have n2_ : Aside0 (Below w.heap.size w w24) := ⟨h2_⟩
      clear BK139
      clear HB
      clear h0_ h1_ h2_
      have HO143 := n0_
      have BK139 := n1_
      have HB := n2_
      clear n0_ n1_ n2_
      have hHeld : w24.cell? ⟨gb139, 0, none⟩ = some (.int .i64 a0_0) ∧ w24.cell? ⟨gb139, 1, none⟩ = some (.int .i64 a0_1) ∧ w24.cell? ⟨gb139, 2, none⟩ = some (.int .i64 a0_2) ∧ w24.cell? ⟨gb139, 3, none⟩ = some (.string a0_3) ∧ w24.cell? ⟨gb139, 4, none⟩ = some (.string a0_4) ∧ w24.cell? ⟨gb139, 5, none⟩ = some (.int .i64 a0_5) := hS_
      refine norm_ (a' := ?_) ?_ ?_
      rotate_left
      ·simp only [putAll, Act.put, List.setIfInBounds_toArray, List.set_cons_zero, List.set_cons_succ]
       rfl
      refine one_ (i := 19) (N := some 26) #[true, true, true, true, true, true, true, true, true, true, true, true, true, true, true, true, true, true, true, true, false, true, true, false, false, false, false] rfl rfl (one_of HT_.out B4x6_) (by decide) (fun K hK => ?_)
      refine goes_ Try.func60 B4x6_ rfl #[.string a0_4] (by rfl) rfl rfl B4x4_ ?_
      with_reducible refine (spec_l16Short.calls k a0_4 t147 _ A10.out).mono ?_
      rintro e w25 ⟨rfl, hb⟩
      refine ⟨_, rfl, ?_⟩
      replace HO143 := Aside0.mk (Kd.R_below B4x2_ hb)
      replace BK139 := Aside0.mk (bb BK139.out hb)
      replace HB := Aside0.mk (below_step B4x0_ hb)
      (try clear hb)
      (try clear hb2)
      (try clear hk)
      (try clear hi)
      refine hK.out _ _ ⟨(blk_cell BK139.out 0).trans rfl, (blk_cell BK139.out 1).trans rfl, (blk_cell BK139.out 2).trans rfl, (blk_cell BK139.out 3).trans rfl, (blk_cell BK139.out 4).trans rfl, (blk_cell BK139.out 5).trans rfl⟩ (fun hHeld => ?_)
      clear hK K
      refine norm_ (a' := ?_) ?_ ?_
      rotate_left
      ·show Act.put _ (some 26) _ = _
       simp only [Act.put, List.setIfInBounds_toArray, List.set_cons_zero, List.set_cons_succ, i64_w, i32_w]
       rfl
      refine pu_ 20 27 HT_ ?_
      exact norm_ B4x1_ (hJ3_4_7_11_15_19 (v142) _ ⟨hHeld, B4x2_, B4x3_, B4x0_⟩)
    ·skip
     rintro v142 w25 ⟨hS_, h0_, h1_, h2_⟩
     have n0_ : Aside0 (Kd.R (Kd.int .u8) 5 w25 w.heap.size (fun _ => True) v142 y141) := ⟨h0_⟩
     have n1_ : Aside0 (w25.heap[gb139]? = some (.cells #[.int .i64 a0_0, .int .i64 a0_1, .int .i64 a0_2, .string a0_3, .string a0_4, .int .i64 a0_5] 59 (0, 0))) := ⟨h1_⟩
     have n2_ : Aside0 (Below w.heap.size w w25) := ⟨h2_⟩
     clear BK139
     clear HB
     clear h0_ h1_ h2_
     have HO143 := n0_
     have BK139 := n1_
     have HB := n2_
     clear n0_ n1_ n2_
     have hHeld : w25.cell? ⟨gb139, 0, none⟩ = some (.int .i64 a0_0) ∧ w25.cell? ⟨gb139, 1, none⟩ = some (.int .i64 a0_1) ∧ w25.cell? ⟨gb139, 2, none⟩ = some (.int .i64 a0_2) ∧ w25.cell? ⟨gb139, 3, none⟩ = some (.string a0_3) ∧ w25.cell? ⟨gb139, 4, none⟩ = some (.string a0_4) ∧ w25.cell? ⟨gb139, 5, none⟩ = some (.int .i64 a0_5) := hS_
     refine norm_ (a' := ?_) ?_ ?_
     rotate_left
     ·simp only [putAll, Act.put, List.setIfInBounds_toArray, List.set_cons_zero, List.set_cons_succ]
      rfl
     refine one_ (i := 4) (N := some 11) #[true, true, true, true, true, true, true, true, false, true, true, true, false, true, true, true, false, true, true, true, false, true, true, true, false, false, false] rfl rfl (one_of HT_.out B4x6_) (by decide) (fun K hK => ?_)
     have hcv26 := own_string (P := Try.prog) Try.underlying22 Try.underlying5 Try.underlying9 (Kd.own_of_R HO143.out)
     refine value_ (w1 := ?_) (v := ?_) (by rfl) rfl ?_ ?_
     rotate_left 2
     ·go_simp
      constructor
      ·rfl
      ·rfl
     clear hcv26
     refine hK.out _ _ ⟨(blk_cell BK139.out 0).trans rfl, (blk_cell BK139.out 1).trans rfl, (blk_cell BK139.out 2).trans rfl, (blk_cell BK139.out 3).trans rfl, (blk_cell BK139.out 4).trans rfl, (blk_cell BK139.out 5).trans rfl⟩ (fun hHeld => ?_)
     clear hK K
     refine norm_ (a' := ?_) ?_ ?_
     rotate_left
     ·show Act.put _ (some 11) _ = _
      simp only [Act.put, List.setIfInBounds_toArray, List.set_cons_zero, List.set_cons_succ, i64_w, i32_w]
      rfl
     refine pu_ 8 15 HT_ ?_
     refine pu_ 12 19 HT_ ?_
     refine pu_ 16 23 HT_ ?_
     refine pu_ 20 27 HT_ ?_
     exact norm_ B4x1_ (hJ3_4_7_11_15_19_23 (v142) _ ⟨hHeld, B4x2_, B4x3_, B4x0_⟩)
   ·skip
    rintro v142 w25 ⟨hS_, h0_, h1_, h2_⟩
    have n0_ : Aside0 (Kd.R (Kd.int .u8) 5 w25 w.heap.size (fun _ => True) v142 y141) := ⟨h0_⟩
    have n1_ : Aside0 (w25.heap[gb139]? = some (.cells #[.int .i64 a0_0, .int .i64 a0_1, .int .i64 a0_2, .string a0_3, .string a0_4, .int .i64 a0_5] 59 (0, 0))) := ⟨h1_⟩
    have n2_ : Aside0 (Below w.heap.size w w25) := ⟨h2_⟩
    clear BK139
    clear HB
    clear h0_ h1_ h2_
    have HO143 := n0_
    have BK139 := n1_
    have HB := n2_
    clear n0_ n1_ n2_
    have hHeld : w25.cell? ⟨gb139, 0, none⟩ = some (.int .i64 a0_0) ∧ w25.cell? ⟨gb139, 1, none⟩ = some (.int .i64 a0_1) ∧ w25.cell? ⟨gb139, 2, none⟩ = some (.int .i64 a0_2) ∧ w25.cell? ⟨gb139, 3, none⟩ = some (.string a0_3) ∧ w25.cell? ⟨gb139, 4, none⟩ = some (.string a0_4) ∧ w25.cell? ⟨gb139, 5, none⟩ = some (.int .i64 a0_5) := hS_
    refine norm_ (a' := ?_) ?_ ?_
    rotate_left
    ·simp only [putAll, Act.put, List.setIfInBounds_toArray, List.set_cons_zero, List.set_cons_succ]
     rfl
    refine one_ (i := 23) (N := some 30) #[true, true, true, true, true, true, true, true, true, true, true, true, true, true, true, true, true, true, true, true, true, true, true, true, false, false, false] rfl rfl (one_of HT_.out B4x6_) (by decide) (fun K hK => ?_)
    refine goes_ Try.func59 B4x6_ rfl #[.int .i64 a0_5] (by rfl) rfl rfl B4x4_ ?_
    with_reducible refine (spec_l01Var.calls k a0_5 t148 _ A12.out).mono ?_
    rintro e w26 ⟨rfl, hb⟩
    refine ⟨_, rfl, ?_⟩
    replace HO143 := Aside0.mk (Kd.R_below B4x2_ hb)
    replace BK139 := Aside0.mk (bb BK139.out hb)
    replace HB := Aside0.mk (below_step B4x0_ hb)
    (try clear hb)
    (try clear hb2)
    (try clear hk)
    (try clear hi)
    refine hK.out _ _ ⟨(blk_cell BK139.out 0).trans rfl, (blk_cell BK139.out 1).trans rfl, (blk_cell BK139.out 2).trans rfl, (blk_cell BK139.out 3).trans rfl, (blk_cell BK139.out 4).trans rfl, (blk_cell BK139.out 5).trans rfl⟩ (fun hHeld => ?_)
    clear hK K
    refine norm_ (a' := ?_) ?_ ?_
    rotate_left
    ·show Act.put _ (some 30) _ = _
     simp only [Act.put, List.setIfInBounds_toArray, List.set_cons_zero, List.set_cons_succ, i64_w, i32_w]
     rfl
    exact norm_ B4x1_ (hJ3_4_7_11_15_19_23 (v142) _ ⟨hHeld, B4x2_, B4x3_, B4x0_⟩)
  rintro v142 w26 ⟨hS_, h0_, h1_, h2_⟩
  have n0_ : Aside0 (Kd.R (Kd.int .u8) 5 w26 w.heap.size (fun _ => True) v142 y141) := ⟨h0_⟩
  have n1_ : Aside0 (w26.heap[gb139]? = some (.cells #[.int .i64 a0_0, .int .i64 a0_1, .int .i64 a0_2, .string a0_3, .string a0_4, .int .i64 a0_5] 59 (0, 0))) := ⟨h1_⟩
  have n2_ : Aside0 (Below w.heap.size w w26) := ⟨h2_⟩
  clear BK139
  clear HB
  clear h0_ h1_ h2_
  have HO143 := n0_
  have BK139 := n1_
  have HB := n2_
  clear n0_ n1_ n2_
  have hHeld : w26.cell? ⟨gb139, 0, none⟩ = some (.int .i64 a0_0) ∧ w26.cell? ⟨gb139, 1, none⟩ = some (.int .i64 a0_1) ∧ w26.cell? ⟨gb139, 2, none⟩ = some (.int .i64 a0_2) ∧ w26.cell? ⟨gb139, 3, none⟩ = some (.string a0_3) ∧ w26.cell? ⟨gb139, 4, none⟩ = some (.string a0_4) ∧ w26.cell? ⟨gb139, 5, none⟩ = some (.int .i64 a0_5) := hS_
  refine norm_ (a' := ?_) ?_ ?_
  rotate_left
  ·simp only [putAll, Act.put, List.setIfInBounds_toArray, List.set_cons_zero, List.set_cons_succ]
   rfl
  refine pu_ 24 31 HT_ ?_
  refine pu_ 25 2 HT_ ?_
  refine pu_ 26 3 HT_ ?_
  refine done_ (done_of HT_.out B4x6_) ?_
  try go_wp2
  go_ret2
  exact ⟨B4x9_, B4x0_⟩
 ·replace c3 := Bool.eq_false_iff.mpr c3
  subst c3
  rw [if_neg (show ¬ (false = true) by decide)] at H
  simp only [Option.some.injEq, Prod.mk.injEq] at H
  obtain ⟨rfl, rfl⟩ := H
  go_enter Try.func79, Try.ntmps79
  go_wp2_with (first | ((with_reducible refine gate_dst (N := 1) rfl ?_); refine box_event ?hg (N := 1) ?hd (cs := #[.int .i64 a0_0, .int .i64 a0_1, .int .i64 a0_2, .string a0_3, .string a0_4, .int .i64 a0_5]) (t := 59) ?hr ?_; (case hd => rfl); (case hg => rfl); (case hr => exact B4x7_); intro gb139 hg w27 hbox hb; have BK139 := Aside0.mk (hbox); have GW139 := Aside0.mk ((bs hg (below_size HB.out))); have GE139 := Aside0.mk ((bs hg (below_size HB.out))); replace HB := Aside0.mk (below_step B4x8_ hb); clear hb hbox hg; obtain ⟨hcz28_0, hcz28_1, hcz28_2, hcz28_3, hcz28_4, hcz28_5⟩ := cl6 BK139.out; obtain ⟨hfz28_0, hfz28_1, hfz28_2, hfz28_3, hfz28_4, hfz28_5⟩ := fr6 BK139.out) | ((with_reducible refine gate_callee (f := 36) rfl ?_); refine goesL_ (some 5) rfl rfl Try.func36 B4x6_ rfl #[.agg #[.int .i64 a0_0, .int .i64 a0_1, .int .i64 a0_2, .string a0_3, .string a0_4, .int .i64 a0_5]] rfl B4x4_ ?_; (with_reducible refine (spec_CommandOk.calls k a0_0 a0_1 a0_2 a0_3 a0_4 a0_5 false _ A2.out).mono ?_); rintro e w29 ⟨rfl, hb⟩; refine ⟨_, rfl, ?_⟩; replace BK139 := Aside0.mk (bb BK139.out hb); replace HB := Aside0.mk (below_step B4x0_ hb); (try clear hb)))
  go_ret2
  exact ⟨B4x9_, B4x0_⟩

end Go.Proofs.Ytgffdijodnpolaa.QFnPuts
