/- Functions that a law reaches, as functions of Lean, and the walks that show that the calls come to their answers: written by a program of this project out of the translation. No condition. -/
import Derived.Test.YtmknnoeggkgkgaaQFnExactWrapx0
import Derived.Test.YtmknnoeggkgkgaaQFnExactWrapx2
import Derived.Test.YtmknnoeggkgkgaaVFnExactWraphort3
import Derived.Test.YtmknnoeggkgkgaaVFnExactWrapShort
namespace Go.Proofs.Ytmknnoeggkgkgaa.QFnExactWrap
open Go.RowKit Go.Proofs.YtmknnoeggkgkgaaW.PrintWords Go.Proofs.YtmknnoeggkgkgaaW.PrintLast Go.Proofs.YtmknnoeggkgkgaaW.PrintMore Go.Proofs.Ytmknnoeggkgkgaa.Short
attribute [local go_sem] max2_int min2_int max_two min_two max_three min_three max_four min_four   -- for this text's walks alone
set_option linter.unusedVariables false
set_option linter.unusedSimpArgs false

theorem B3x0_ {p : Prop} (h : p := by repeat (first | (with_reducible first | exact HB.out | apply below_alloc | apply pw_below_drewN | apply below_drew1 | refine below_set ?_ GE135.out) | exact HB.out)) : p := h
theorem B3x1_ {p : Prop} (h : p := by (with_reducible repeat (first | refine blk_drewN ?_ _ | refine blk_drew ?_ | refine blk_alloc ?_ _)); exact BK135.out) : p := h
theorem B3x2_ {p : Prop} (h : p := by first | (simp only [putAll, Act.put, List.setIfInBounds_toArray, List.set_cons_zero, List.set_cons_succ]; done) | (simp only [putAll, Act.put, List.setIfInBounds_toArray, List.set_cons_zero, List.set_cons_succ]; rfl)) : p := h
theorem B3x3_ {p : Prop} (h : p := by (with_reducible repeat (first | apply Kd.R_alloc | apply Kd.R_drewN | apply Kd.R_drew)); exact HO141.out) : p := h
theorem B3x4_ {p : Prop} (h : p := by (try simp only [List.map_toArray, List.map_cons, List.map_nil]); first | done | rfl | (simp only [List.length_drop, List.length_take]; rfl)) : p := h
theorem B3x5_ {p : Prop} (h : p := by repeat (first | (with_reducible first | exact HB.out | apply below_alloc | apply pw_below_drewN | apply below_drew1) | exact HB.out)) : p := h
theorem B3x6_ {p : Prop} (h : p := by exact (Reps.one (show Kd.M (Kd.int .u8) _ _ _ ((a0_2) % 256) [.int .u8 ((a0_2) % 256)] from rfl) (Reps.none _ _))) : p := h
theorem B3x7_ {p : Prop} (h : p := by kernel_rfl) : p := h
theorem B3x8_ {p : Prop} (h : p := by first | (go_simp; done) | (go_simp; rfl)) : p := h
theorem B3x9_ {p : Prop} (h : p := by first | rfl | (simp [errW_none, errW_some] <;> rfl) | (simp [*, errW_none, errW_some] <;> rfl)) : p := h
/-! ### spec_SegText: function 59 -/
def spec_SegText.f (k : Nat) (a0_0 : Int) (a0_1 : Int) (a0_2 : Int) (a0_3 : ByteArray) : Option (ByteArray × Bool) := (spec_SegOk.f k a0_0 a0_1 a0_2 a0_3).bind fun t136 => (if t136 = true then ((spec_l11Two.f a0_0).bind fun t137 => ((spec_l11Two.f a0_1).bind fun t138 => (if t137.size + t138.size ≤ 9223372036854775807 then ((some (([(a0_2) % 256] : List Int) : List Int)).bind fun y139 => (if (t137 ++ t138).size + (strOfNums y139).size ≤ 9223372036854775807 then (if ((t137 ++ t138) ++ (strOfNums y139)).size + a0_3.size ≤ 9223372036854775807 then (some (((t137 ++ t138) ++ (strOfNums y139)) ++ a0_3, true)) else (none)) else (none))) else (none)))) else (some ((⟨#[]⟩ : ByteArray), false)))
theorem spec_SegText.mono : ∀ a0 a1 a2 a3 k, LeO (spec_SegText.f k a0 a1 a2 a3) (spec_SegText.f (k + 1) a0 a1 a2 a3) := by
 intro a0 a1 a2 a3 k
 unfold spec_SegText.f
 repeat' first
   | (with_reducible exact spec_SegOk.mono _ _ _ _ _)
   | (with_reducible exact LeO.refl _)
   | (with_reducible exact LeO.none _)
   | (with_reducible refine LeO.ite ?_ ?_)
   | (with_reducible refine LeO.bind ?_ (fun _ => ?_))
   | exact spec_SegOk.mono _ _ _ _ _
   | exact LeO.none _
   | refine LeO.ite ?_ ?_
   | refine LeO.bind ?_ (fun _ => ?_)
def spec_SegText.T3 : Bool × List (List Nat × List Nat) := (true, [([], []), ([0], [0]), ([1], [1]), ([], []), ([3], [3]), ([4, 2], [4]), ([2, 5], [2, 5]), ([], []), ([7], [7]), ([8], [8]), ([9], [9]), ([10], [10]), ([6, 11], [6, 11]), ([], []), ([13], [13]), ([12, 14], [12, 14]), ([15, 5, 0, 1, 2, 3, 4, 5, 6, 7, 8, 9, 10, 11, 12, 13, 14, 15], [15]), ([16, 0, 1, 2, 3, 4, 5, 6, 7, 8, 9, 10, 11, 12, 13, 14, 15, 16], [])])
def spec_SegText.B3 : List Nat := [0, 1, 3, 0, 8, 31, 63, 0, 128, 384, 896, 1920, 4095, 0, 8192, 32767, 65535, 131071]
theorem spec_SegText.tab3 : rtab .any (opsOf Try.f59 3) = spec_SegText.T3 := by kernel_rfl
theorem spec_SegText.bits3 : waitsOk spec_SegText.T3.2 spec_SegText.B3 = true := by kernel_rfl
set_option maxHeartbeats 8000000 in
set_option maxRecDepth 100000 in
theorem spec_SegText.calls (k : Nat) (a0_0 : Int) (a0_1 : Int) (a0_2 : Int) (a0_3 : ByteArray) (r1 : ByteArray) (r2 : Bool) (w : World) (h : spec_SegText.f k a0_0 a0_1 a0_2 a0_3 = some (r1, r2)) :
  Calls Try.prog 59 #[.agg #[.int .i64 a0_0, .int .i64 a0_1, .int .i64 a0_2, .string a0_3]] w fun e w' => e = .returned (.tuple #[.string r1, .bool r2]) ∧ Below w.heap.size w w' := by
 have hu28 := Try.underlying28
 have HB := Aside0.mk (Below.refl w.heap.size w)
 have H : ((spec_SegOk.f k a0_0 a0_1 a0_2 a0_3).bind fun t136 => (if t136 = true then ((spec_l11Two.f a0_0).bind fun t137 => ((spec_l11Two.f a0_1).bind fun t138 => (if t137.size + t138.size ≤ 9223372036854775807 then ((some (([(a0_2) % 256] : List Int) : List Int)).bind fun y139 => (if (t137 ++ t138).size + (strOfNums y139).size ≤ 9223372036854775807 then (if ((t137 ++ t138) ++ (strOfNums y139)).size + a0_3.size ≤ 9223372036854775807 then (some (((t137 ++ t138) ++ (strOfNums y139)) ++ a0_3, true)) else (none)) else (none))) else (none)))) else (some ((⟨#[]⟩ : ByteArray), false)))) = some (r1, r2) := h
 clear h
 replace H := Option.bind_eq_some_iff.mp H
 obtain ⟨t136, A20, H⟩ := H
 (try dsimp only at H)
 have A2 := Aside0.mk A20
 clear A20
 by_cases c3 : t136 = true
 ·subst c3
  rw [if_pos rfl] at H
  replace H := Option.bind_eq_some_iff.mp H
  obtain ⟨t137, A40, H⟩ := H
  (try dsimp only at H)
  have A4 := Aside0.mk A40
  clear A40
  replace H := Option.bind_eq_some_iff.mp H
  obtain ⟨t138, A50, H⟩ := H
  (try dsimp only at H)
  have A5 := Aside0.mk A50
  clear A50
  by_cases c6 : t137.size + t138.size ≤ 9223372036854775807
  rotate_left
  ·rw [if_neg c6] at H
   exact absurd H (by simp)
  rw [if_pos c6] at H
  have c6b0 := eq_true c6
  have c6b1 : decide (t137.size + t138.size ≤ 9223372036854775807) = true := decide_eq_true c6
  try have c6b2 : (9223372036854775807 < t137.size + t138.size) = False := eq_false (Nat.not_lt.2 c6)
  try (have c6b9 := c6b2; simp only [ByteArray.size_append] at c6b9)
  obtain ⟨y139, hy139⟩ : ∃ y_ : List Int, y_ = (([(a0_2) % 256] : List Int)) := ⟨_, rfl⟩
  replace H : (if (t137 ++ t138).size + (strOfNums y139).size ≤ 9223372036854775807 then (if ((t137 ++ t138) ++ (strOfNums y139)).size + a0_3.size ≤ 9223372036854775807 then (some (((t137 ++ t138) ++ (strOfNums y139)) ++ a0_3, true)) else (none)) else (none)) = some (r1, r2) := by first | (rw [hy139]; with_reducible exact H) | (have H2_ := (Option.bind_some _ _).symm.trans H; rw [hy139]; with_reducible exact H2_) | (have H2_ := (Option.bind_some _ _).symm.trans H; with_reducible exact H2_) | with_reducible exact H | (rw [hy139]; exact H) | exact H
  have Ny139 := Aside0.mk hy139
  clear hy139
  by_cases c7 : (t137 ++ t138).size + (strOfNums y139).size ≤ 9223372036854775807
  rotate_left
  ·rw [if_neg c7] at H
   exact absurd H (by simp)
  rw [if_pos c7] at H
  have c7b0 := eq_true c7
  have c7b1 : decide ((t137 ++ t138).size + (strOfNums y139).size ≤ 9223372036854775807) = true := decide_eq_true c7
  try have c7b2 : (9223372036854775807 < (t137 ++ t138).size + (strOfNums y139).size) = False := eq_false (Nat.not_lt.2 c7)
  try have c7b8 : (9223372036854775807 < t137.size + t138.size + (strOfNums y139).size) = False := eq_false (by have h_ := c7; simp only [ByteArray.size_append, ByteArray.size_extract, decide_eq_true_eq, decide_eq_false_iff_not] at *; omega)
  try (have c7b9 := c7b2; simp only [ByteArray.size_append] at c7b9)
  by_cases c8 : ((t137 ++ t138) ++ (strOfNums y139)).size + a0_3.size ≤ 9223372036854775807
  rotate_left
  ·rw [if_neg c8] at H
   exact absurd H (by simp)
  rw [if_pos c8] at H
  have c8b0 := eq_true c8
  have c8b1 : decide (((t137 ++ t138) ++ (strOfNums y139)).size + a0_3.size ≤ 9223372036854775807) = true := decide_eq_true c8
  try have c8b2 : (9223372036854775807 < ((t137 ++ t138) ++ (strOfNums y139)).size + a0_3.size) = False := eq_false (Nat.not_lt.2 c8)
  try have c8b8 : (9223372036854775807 < t137.size + t138.size + (strOfNums y139).size + a0_3.size) = False := eq_false (by have h_ := c8; simp only [ByteArray.size_append, ByteArray.size_extract, decide_eq_true_eq, decide_eq_false_iff_not] at *; omega)
  try (have c8b9 := c8b2; simp only [ByteArray.size_append] at c8b9)
  simp only [Option.some.injEq, Prod.mk.injEq] at H
  obtain ⟨rfl, rfl⟩ := H
  go_enter Try.func59, Try.ntmps59
  try go_wp2_with (first | ((with_reducible refine gate_dst (N := 1) rfl ?_); refine box_event ?hg (N := 1) ?hd (cs := #[.int .i64 a0_0, .int .i64 a0_1, .int .i64 a0_2, .string a0_3]) (t := 28) ?hr ?_; (case hd => rfl); (case hg => rfl); (case hr => exact B3x8_); intro gb135 hg w9 hbox hb; have BK135 := Aside0.mk (hbox); have GW135 := Aside0.mk ((by rw [hg]; exact (below_size B3x5_) : w.heap.size ≤ gb135)); have GE135 := Aside0.mk ((by rw [hg]; exact (below_size B3x5_) : w.heap.size ≤ gb135)); replace HB := Aside0.mk (below_step B3x5_ hb); clear hb hbox hg; obtain ⟨hcz10_0, hcz10_1, hcz10_2, hcz10_3⟩ := cl4 BK135.out; obtain ⟨hfz10_0, hfz10_1, hfz10_2, hfz10_3⟩ := fr4 BK135.out) | ((with_reducible refine gate_callee (f := 117) rfl ?_); refine goesL_ (some 5) rfl rfl Try.func117 B3x7_ rfl #[.agg #[.int .i64 a0_0, .int .i64 a0_1, .int .i64 a0_2, .string a0_3]] rfl B3x4_ ?_; (with_reducible refine (spec_SegOk.calls k a0_0 a0_1 a0_2 a0_3 true _ A2.out).mono ?_); rintro e w11 ⟨rfl, hb⟩; refine ⟨_, rfl, ?_⟩; replace BK135 := Aside0.mk (blk_below (g := gb135) (o := .cells #[.int .i64 a0_0, .int .i64 a0_1, .int .i64 a0_2, .string a0_3] 28 (0, 0)) B3x1_ hb); replace HB := Aside0.mk (below_step B3x0_ hb); (try clear hb); (try clear hb2); (try clear hk); (try clear hi)))
  replace BK135 := Aside0.mk (blk_drew BK135.out)
  replace HB := Aside0.mk (below_drew1 HB.out)
  refine start_ (n := 18) (S := fun w' => w'.cell? ⟨gb135, 0, none⟩ = some (.int .i64 a0_0) ∧ w'.cell? ⟨gb135, 1, none⟩ = some (.int .i64 a0_1) ∧ w'.cell? ⟨gb135, 2, none⟩ = some (.int .i64 a0_2) ∧ w'.cell? ⟨gb135, 3, none⟩ = some (.string a0_3)) (ds := []) #[false, false, false, false, false, false, false, false, false, false, false, false, false, false, false, false, false, false] B3x7_ rfl rfl ⟨(blk_cell BK135.out 0).trans rfl, (blk_cell BK135.out 1).trans rfl, (blk_cell BK135.out 2).trans rfl, (blk_cell BK135.out 3).trans rfl⟩ (fun hHeld => ?_); refine with_tabW spec_SegText.tab3 spec_SegText.bits3 (fun HT_ HW_ => ?_)
  generalize w11.drew = w12 at BK135 HB hHeld ⊢
  refine pu_ 0 7 HT_ ?_
  refine pu_ 3 10 HT_ ?_
  refine pu_ 7 14 HT_ ?_
  refine pu_ 13 20 HT_ ?_
  refine ta_ 1 8 HT_ HW_ hHeld ?_
  refine ta_ 4 11 HT_ HW_ hHeld ?_
  refine ta_ 8 15 HT_ HW_ hHeld ?_
  refine pu_ 9 16 HT_ ?_
  refine ta_ 14 21 HT_ HW_ hHeld ?_
  refine join_ (σ := Value) 4 #[true, true, true, true, true, true, true, true, true, true, true, true, false, true, true, false, false, false] (fun s_ => [(9, .string t137), (12, .string t138), (17, s_), (18, .string (strOfNums y139)), (13, .string (t137 ++ t138))]) (fun s_ w' => (w'.cell? ⟨gb135, 0, none⟩ = some (.int .i64 a0_0) ∧ w'.cell? ⟨gb135, 1, none⟩ = some (.int .i64 a0_1) ∧ w'.cell? ⟨gb135, 2, none⟩ = some (.int .i64 a0_2) ∧ w'.cell? ⟨gb135, 3, none⟩ = some (.string a0_3)) ∧ (Kd.R (Kd.int .u8) 5 w' w.heap.size (fun _ => True) s_ y139) ∧ (w'.heap[gb135]? = some (.cells #[.int .i64 a0_0, .int .i64 a0_1, .int .i64 a0_2, .string a0_3] 28 (0, 0))) ∧ (Below w.heap.size w w')) ?_ ?_
  rotate_left
  ·intro hJ2_5_10_11
   refine join_ (σ := Value) 5 #[true, true, true, true, true, true, true, true, true, true, true, false, false, true, true, false, false, false] (fun s_ => [(9, .string t137), (12, .string t138), (17, s_), (13, .string (t137 ++ t138))]) (fun s_ w' => (w'.cell? ⟨gb135, 0, none⟩ = some (.int .i64 a0_0) ∧ w'.cell? ⟨gb135, 1, none⟩ = some (.int .i64 a0_1) ∧ w'.cell? ⟨gb135, 2, none⟩ = some (.int .i64 a0_2) ∧ w'.cell? ⟨gb135, 3, none⟩ = some (.string a0_3)) ∧ (Kd.R (Kd.int .u8) 5 w' w.heap.size (fun _ => True) s_ y139) ∧ (w'.heap[gb135]? = some (.cells #[.int .i64 a0_0, .int .i64 a0_1, .int .i64 a0_2, .string a0_3] 28 (0, 0))) ∧ (Below w.heap.size w w')) ?_ ?_
   rotate_left
   ·intro hJ2_5_10
    refine join_ (σ := Value) 6 #[true, true, true, true, true, false, false, true, true, true, true, true, false, true, true, false, false, false] (fun s_ => [(9, .string t137), (17, s_), (18, .string (strOfNums y139))]) (fun s_ w' => (w'.cell? ⟨gb135, 0, none⟩ = some (.int .i64 a0_0) ∧ w'.cell? ⟨gb135, 1, none⟩ = some (.int .i64 a0_1) ∧ w'.cell? ⟨gb135, 2, none⟩ = some (.int .i64 a0_2) ∧ w'.cell? ⟨gb135, 3, none⟩ = some (.string a0_3)) ∧ (Kd.R (Kd.int .u8) 5 w' w.heap.size (fun _ => True) s_ y139) ∧ (w'.heap[gb135]? = some (.cells #[.int .i64 a0_0, .int .i64 a0_1, .int .i64 a0_2, .string a0_3] 28 (0, 0))) ∧ (Below w.heap.size w w')) ?_ ?_
    rotate_left
    ·intro hJ2_10_11
     refine join_ (σ := Unit) 6 #[true, true, true, true, true, true, true, true, true, true, false, false, false, true, true, false, false, false] (fun s_ => [(9, .string t137), (12, .string t138), (13, .string (t137 ++ t138))]) (fun s_ w' => (w'.cell? ⟨gb135, 0, none⟩ = some (.int .i64 a0_0) ∧ w'.cell? ⟨gb135, 1, none⟩ = some (.int .i64 a0_1) ∧ w'.cell? ⟨gb135, 2, none⟩ = some (.int .i64 a0_2) ∧ w'.cell? ⟨gb135, 3, none⟩ = some (.string a0_3)) ∧ (w'.heap[gb135]? = some (.cells #[.int .i64 a0_0, .int .i64 a0_1, .int .i64 a0_2, .string a0_3] 28 (0, 0))) ∧ (Below w.heap.size w w')) ?_ ?_
     rotate_left
     ·intro hJ2_5
      refine join_ (σ := Value) 7 #[true, true, true, true, true, false, false, true, true, true, true, false, false, true, true, false, false, false] (fun s_ => [(9, .string t137), (17, s_)]) (fun s_ w' => (w'.cell? ⟨gb135, 0, none⟩ = some (.int .i64 a0_0) ∧ w'.cell? ⟨gb135, 1, none⟩ = some (.int .i64 a0_1) ∧ w'.cell? ⟨gb135, 2, none⟩ = some (.int .i64 a0_2) ∧ w'.cell? ⟨gb135, 3, none⟩ = some (.string a0_3)) ∧ (Kd.R (Kd.int .u8) 5 w' w.heap.size (fun _ => True) s_ y139) ∧ (w'.heap[gb135]? = some (.cells #[.int .i64 a0_0, .int .i64 a0_1, .int .i64 a0_2, .string a0_3] 28 (0, 0))) ∧ (Below w.heap.size w w')) ?_ ?_
      rotate_left
      ·intro hJ2_10
       refine join_ (σ := Value) 7 #[true, true, false, true, true, false, false, true, true, true, true, true, false, true, true, false, false, false] (fun s_ => [(17, s_), (18, .string (strOfNums y139))]) (fun s_ w' => (w'.cell? ⟨gb135, 0, none⟩ = some (.int .i64 a0_0) ∧ w'.cell? ⟨gb135, 1, none⟩ = some (.int .i64 a0_1) ∧ w'.cell? ⟨gb135, 2, none⟩ = some (.int .i64 a0_2) ∧ w'.cell? ⟨gb135, 3, none⟩ = some (.string a0_3)) ∧ (Kd.R (Kd.int .u8) 5 w' w.heap.size (fun _ => True) s_ y139) ∧ (w'.heap[gb135]? = some (.cells #[.int .i64 a0_0, .int .i64 a0_1, .int .i64 a0_2, .string a0_3] 28 (0, 0))) ∧ (Below w.heap.size w w')) ?_ ?_
       rotate_left
       ·intro hJ10_11
        refine join_ (σ := Unit) 8 #[true, true, true, true, true, false, false, true, true, true, false, false, false, true, true, false, false, false] (fun s_ => [(9, .string t137)]) (fun s_ w' => (w'.cell? ⟨gb135, 0, none⟩ = some (.int .i64 a0_0) ∧ w'.cell? ⟨gb135, 1, none⟩ = some (.int .i64 a0_1) ∧ w'.cell? ⟨gb135, 2, none⟩ = some (.int .i64 a0_2) ∧ w'.cell? ⟨gb135, 3, none⟩ = some (.string a0_3)) ∧ (w'.heap[gb135]? = some (.cells #[.int .i64 a0_0, .int .i64 a0_1, .int .i64 a0_2, .string a0_3] 28 (0, 0))) ∧ (Below w.heap.size w w')) ?_ ?_
        rotate_left
        ·intro hJ2
         refine join_ (σ := Value) 8 #[true, true, false, true, true, false, false, true, true, true, true, false, false, true, true, false, false, false] (fun s_ => [(17, s_)]) (fun s_ w' => (w'.cell? ⟨gb135, 0, none⟩ = some (.int .i64 a0_0) ∧ w'.cell? ⟨gb135, 1, none⟩ = some (.int .i64 a0_1) ∧ w'.cell? ⟨gb135, 2, none⟩ = some (.int .i64 a0_2) ∧ w'.cell? ⟨gb135, 3, none⟩ = some (.string a0_3)) ∧ (Kd.R (Kd.int .u8) 5 w' w.heap.size (fun _ => True) s_ y139) ∧ (w'.heap[gb135]? = some (.cells #[.int .i64 a0_0, .int .i64 a0_1, .int .i64 a0_2, .string a0_3] 28 (0, 0))) ∧ (Below w.heap.size w w')) ?_ ?_
         rotate_left
         ·intro hJ10
          refine two_ (i := 2) (j := 10) (Ni := some 9) (Nj := some 17) #[true, true, true, true, true, false, false, true, true, true, false, false, false, true, true, false, false, false] #[true, true, false, true, true, false, false, true, true, true, true, false, false, true, true, false, false, false] rfl rfl rfl rfl (two_of HT_.out B3x7_) (by decide) (by decide) (fun K hK => ?_) (fun K hK => ?_)
          ·skip
           refine goes_ Try.func118 B3x7_ rfl #[.int .i64 a0_0] (by rfl) rfl rfl B3x4_ ?_
           with_reducible refine (spec_l11Two.calls a0_0 t137 _ A4.out).mono ?_
           rintro e w13 ⟨rfl, hb⟩
           refine ⟨_, rfl, ?_⟩
           replace BK135 := Aside0.mk (blk_below (g := gb135) (o := .cells #[.int .i64 a0_0, .int .i64 a0_1, .int .i64 a0_2, .string a0_3] 28 (0, 0)) B3x1_ hb)
           replace HB := Aside0.mk (below_step B3x0_ hb)
           (try clear hb)
           (try clear hb2)
           (try clear hk)
           (try clear hi)
           refine hK.out _ _ ⟨(blk_cell BK135.out 0).trans rfl, (blk_cell BK135.out 1).trans rfl, (blk_cell BK135.out 2).trans rfl, (blk_cell BK135.out 3).trans rfl⟩ (fun hHeld => ?_)
           clear hK K
           refine norm_ (a' := ?_) ?_ ?_
           rotate_left
           ·show Act.put _ (some 9) _ = _
            simp only [Act.put, List.setIfInBounds_toArray, List.set_cons_zero, List.set_cons_succ, i64_w, i32_w]
            rfl
           exact norm_ B3x2_ (hJ2 () _ ⟨hHeld, B3x1_, B3x0_⟩)
          ·skip
           refine Kd.R_lit_step (Kd.int .u8) _ 5 ?hg (N := 17) ?hd (xs := ([(a0_2) % 256] : List Int)) (inner := [.int .u8 ((a0_2) % 256)]) (ok := fun _ => True) (okp := fun _ => True) ?hr ?hp (fun _ hk => hk) trivial (Below.refl _ _) (Nat.le_refl _) (by simp) ?_; (case hd => rfl); (case hg => rfl); (case hr => exact B3x8_); (case hp => exact B3x6_)
           intro v140 w13 ho14 hb hg_ hnew_
           clear hg_ hnew_
           (first | rw [← Ny139.out] at ho14 | (simp only [Int.reduceToNat] at ho14; rw [← Ny139.out] at ho14))
           have HO141 := Aside0.mk (Kd.R_lower ho14 (below_size B3x0_))
           replace BK135 := Aside0.mk (blk_below (g := gb135) (o := .cells #[.int .i64 a0_0, .int .i64 a0_1, .int .i64 a0_2, .string a0_3] 28 (0, 0)) B3x1_ hb)
           replace HB := Aside0.mk (below_step B3x0_ hb)
           clear hb ho14
           refine hK.out _ _ ⟨(blk_cell BK135.out 0).trans rfl, (blk_cell BK135.out 1).trans rfl, (blk_cell BK135.out 2).trans rfl, (blk_cell BK135.out 3).trans rfl⟩ (fun hHeld => ?_)
           clear hK K
           refine norm_ (a' := ?_) ?_ ?_
           rotate_left
           ·show Act.put _ (some 17) _ = _
            simp only [Act.put, List.setIfInBounds_toArray, List.set_cons_zero, List.set_cons_succ, i64_w, i32_w]
            rfl
           exact norm_ B3x2_ (hJ10 (v140) _ ⟨hHeld, B3x3_, B3x1_, B3x0_⟩)
         ·skip
          rintro v140 w15 ⟨hS_, h0_, h1_, h2_⟩
          have n0_ : Aside0 (Kd.R (Kd.int .u8) 5 w15 w.heap.size (fun _ => True) v140 y139) := ⟨h0_⟩
          have n1_ : Aside0 (w15.heap[gb135]? = some (.cells #[.int .i64 a0_0, .int .i64 a0_1, .int .i64 a0_2, .string a0_3] 28 (0, 0))) := ⟨h1_⟩
          have n2_ : Aside0 (Below w.heap.size w w15) := ⟨h2_⟩
          clear BK135
          clear HB
          clear h0_ h1_ h2_
          have HO141 := n0_
          have BK135 := n1_
          have HB := n2_
          clear n0_ n1_ n2_
          have hHeld : w15.cell? ⟨gb135, 0, none⟩ = some (.int .i64 a0_0) ∧ w15.cell? ⟨gb135, 1, none⟩ = some (.int .i64 a0_1) ∧ w15.cell? ⟨gb135, 2, none⟩ = some (.int .i64 a0_2) ∧ w15.cell? ⟨gb135, 3, none⟩ = some (.string a0_3) := hS_
          refine norm_ (a' := ?_) ?_ ?_
          rotate_left
          ·simp only [putAll, Act.put, List.setIfInBounds_toArray, List.set_cons_zero, List.set_cons_succ]
           rfl
          refine two_ (i := 2) (j := 11) (Ni := some 9) (Nj := some 18) #[true, true, true, true, true, false, false, true, true, true, true, false, false, true, true, false, false, false] #[true, true, false, true, true, false, false, true, true, true, true, true, false, true, true, false, false, false] rfl rfl rfl rfl (two_of HT_.out B3x7_) (by decide) (by decide) (fun K hK => ?_) (fun K hK => ?_)
          ·skip
           refine goes_ Try.func118 B3x7_ rfl #[.int .i64 a0_0] (by rfl) rfl rfl B3x4_ ?_
           with_reducible refine (spec_l11Two.calls a0_0 t137 _ A4.out).mono ?_
           rintro e w16 ⟨rfl, hb⟩
           refine ⟨_, rfl, ?_⟩
           replace HO141 := Aside0.mk (Kd.R_below B3x3_ hb)
           replace BK135 := Aside0.mk (blk_below (g := gb135) (o := .cells #[.int .i64 a0_0, .int .i64 a0_1, .int .i64 a0_2, .string a0_3] 28 (0, 0)) B3x1_ hb)
           replace HB := Aside0.mk (below_step B3x0_ hb)
           (try clear hb)
           (try clear hb2)
           (try clear hk)
           (try clear hi)
           refine hK.out _ _ ⟨(blk_cell BK135.out 0).trans rfl, (blk_cell BK135.out 1).trans rfl, (blk_cell BK135.out 2).trans rfl, (blk_cell BK135.out 3).trans rfl⟩ (fun hHeld => ?_)
           clear hK K
           refine norm_ (a' := ?_) ?_ ?_
           rotate_left
           ·show Act.put _ (some 9) _ = _
            simp only [Act.put, List.setIfInBounds_toArray, List.set_cons_zero, List.set_cons_succ, i64_w, i32_w]
            rfl
           exact norm_ B3x2_ (hJ2_10 (v140) _ ⟨hHeld, B3x3_, B3x1_, B3x0_⟩)
          ·skip
           have hcv16 := own_string (P := Try.prog) Try.underlying59 Try.underlying5 Try.underlying9 (Kd.own_of_R HO141.out)
           refine value_ (w1 := ?_) (v := ?_) (by rfl) rfl ?_ ?_
           rotate_left 2
           ·go_simp
            constructor
            ·rfl
            ·rfl
           clear hcv16
           refine hK.out _ _ ⟨(blk_cell BK135.out 0).trans rfl, (blk_cell BK135.out 1).trans rfl, (blk_cell BK135.out 2).trans rfl, (blk_cell BK135.out 3).trans rfl⟩ (fun hHeld => ?_)
           clear hK K
           refine norm_ (a' := ?_) ?_ ?_
           rotate_left
           ·show Act.put _ (some 18) _ = _
            simp only [Act.put, List.setIfInBounds_toArray, List.set_cons_zero, List.set_cons_succ, i64_w, i32_w]
            rfl
           exact norm_ B3x2_ (hJ10_11 (v140) _ ⟨hHeld, B3x3_, B3x1_, B3x0_⟩)
        ·skip
         rintro _ w14 ⟨hS_, h0_, h1_⟩
         have n0_ : Aside0 (w14.heap[gb135]? = some (.cells #[.int .i64 a0_0, .int .i64 a0_1, .int .i64 a0_2, .string a0_3] 28 (0, 0))) := ⟨h0_⟩
         have n1_ : Aside0 (Below w.heap.size w w14) := ⟨h1_⟩
         clear BK135
         clear HB
         clear h0_ h1_
         have BK135 := n0_
         have HB := n1_
         clear n0_ n1_
         have hHeld : w14.cell? ⟨gb135, 0, none⟩ = some (.int .i64 a0_0) ∧ w14.cell? ⟨gb135, 1, none⟩ = some (.int .i64 a0_1) ∧ w14.cell? ⟨gb135, 2, none⟩ = some (.int .i64 a0_2) ∧ w14.cell? ⟨gb135, 3, none⟩ = some (.string a0_3) := hS_
         refine norm_ (a' := ?_) ?_ ?_
         rotate_left
         ·simp only [putAll, Act.put, List.setIfInBounds_toArray, List.set_cons_zero, List.set_cons_succ]
          rfl
         refine two_ (i := 5) (j := 10) (Ni := some 12) (Nj := some 17) #[true, true, true, true, true, true, false, true, true, true, false, false, false, true, true, false, false, false] #[true, true, true, true, true, false, false, true, true, true, true, false, false, true, true, false, false, false] rfl rfl rfl rfl (two_of HT_.out B3x7_) (by decide) (by decide) (fun K hK => ?_) (fun K hK => ?_)
         ·skip
          refine goes_ Try.func118 B3x7_ rfl #[.int .i64 a0_1] (by rfl) rfl rfl B3x4_ ?_
          with_reducible refine (spec_l11Two.calls a0_1 t138 _ A5.out).mono ?_
          rintro e w15 ⟨rfl, hb⟩
          refine ⟨_, rfl, ?_⟩
          replace BK135 := Aside0.mk (blk_below (g := gb135) (o := .cells #[.int .i64 a0_0, .int .i64 a0_1, .int .i64 a0_2, .string a0_3] 28 (0, 0)) B3x1_ hb)
          replace HB := Aside0.mk (below_step B3x0_ hb)
          (try clear hb)
          (try clear hb2)
          (try clear hk)
          (try clear hi)
          refine hK.out _ _ ⟨(blk_cell BK135.out 0).trans rfl, (blk_cell BK135.out 1).trans rfl, (blk_cell BK135.out 2).trans rfl, (blk_cell BK135.out 3).trans rfl⟩ (fun hHeld => ?_)
          clear hK K
          refine norm_ (a' := ?_) ?_ ?_
          rotate_left
          ·show Act.put _ (some 12) _ = _
           simp only [Act.put, List.setIfInBounds_toArray, List.set_cons_zero, List.set_cons_succ, i64_w, i32_w]
           rfl
          refine pu_ 6 13 HT_ ?_
          exact norm_ B3x2_ (hJ2_5 () _ ⟨hHeld, B3x1_, B3x0_⟩)
         ·skip
          refine Kd.R_lit_step (Kd.int .u8) _ 5 ?hg (N := 17) ?hd (xs := ([(a0_2) % 256] : List Int)) (inner := [.int .u8 ((a0_2) % 256)]) (ok := fun _ => True) (okp := fun _ => True) ?hr ?hp (fun _ hk => hk) trivial (Below.refl _ _) (Nat.le_refl _) (by simp) ?_; (case hd => rfl); (case hg => rfl); (case hr => exact B3x8_); (case hp => exact B3x6_)
          intro v140 w15 ho16 hb hg_ hnew_
          clear hg_ hnew_
          (first | rw [← Ny139.out] at ho16 | (simp only [Int.reduceToNat] at ho16; rw [← Ny139.out] at ho16))
          have HO141 := Aside0.mk (Kd.R_lower ho16 (below_size B3x0_))
          replace BK135 := Aside0.mk (blk_below (g := gb135) (o := .cells #[.int .i64 a0_0, .int .i64 a0_1, .int .i64 a0_2, .string a0_3] 28 (0, 0)) B3x1_ hb)
          replace HB := Aside0.mk (below_step B3x0_ hb)
          clear hb ho16
          refine hK.out _ _ ⟨(blk_cell BK135.out 0).trans rfl, (blk_cell BK135.out 1).trans rfl, (blk_cell BK135.out 2).trans rfl, (blk_cell BK135.out 3).trans rfl⟩ (fun hHeld => ?_)
          clear hK K
          refine norm_ (a' := ?_) ?_ ?_
          rotate_left
          ·show Act.put _ (some 17) _ = _
           simp only [Act.put, List.setIfInBounds_toArray, List.set_cons_zero, List.set_cons_succ, i64_w, i32_w]
           rfl
          exact norm_ B3x2_ (hJ2_10 (v140) _ ⟨hHeld, B3x3_, B3x1_, B3x0_⟩)
       ·skip
        rintro v140 w16 ⟨hS_, h0_, h1_, h2_⟩
        have n0_ : Aside0 (Kd.R (Kd.int .u8) 5 w16 w.heap.size (fun _ => True) v140 y139) := ⟨h0_⟩
        have n1_ : Aside0 (w16.heap[gb135]? = some (.cells #[.int .i64 a0_0, .int .i64 a0_1, .int .i64 a0_2, .string a0_3] 28 (0, 0))) := ⟨h1_⟩
        have n2_ : Aside0 (Below w.heap.size w w16) := ⟨h2_⟩
        clear BK135
        clear HB
        clear h0_ h1_ h2_
        have HO141 := n0_
        have BK135 := n1_
        have HB := n2_
        clear n0_ n1_ n2_
        have hHeld : w16.cell? ⟨gb135, 0, none⟩ = some (.int .i64 a0_0) ∧ w16.cell? ⟨gb135, 1, none⟩ = some (.int .i64 a0_1) ∧ w16.cell? ⟨gb135, 2, none⟩ = some (.int .i64 a0_2) ∧ w16.cell? ⟨gb135, 3, none⟩ = some (.string a0_3) := hS_
        refine norm_ (a' := ?_) ?_ ?_
        rotate_left
        ·simp only [putAll, Act.put, List.setIfInBounds_toArray, List.set_cons_zero, List.set_cons_succ]
         rfl
        refine one_ (i := 2) (N := some 9) #[true, true, true, true, true, false, false, true, true, true, true, true, false, true, true, false, false, false] rfl rfl (one_of HT_.out B3x7_) (by decide) (fun K hK => ?_)
        refine goes_ Try.func118 B3x7_ rfl #[.int .i64 a0_0] (by rfl) rfl rfl B3x4_ ?_
        with_reducible refine (spec_l11Two.calls a0_0 t137 _ A4.out).mono ?_
        rintro e w17 ⟨rfl, hb⟩
        refine ⟨_, rfl, ?_⟩
        replace HO141 := Aside0.mk (Kd.R_below B3x3_ hb)
        replace BK135 := Aside0.mk (blk_below (g := gb135) (o := .cells #[.int .i64 a0_0, .int .i64 a0_1, .int .i64 a0_2, .string a0_3] 28 (0, 0)) B3x1_ hb)
        replace HB := Aside0.mk (below_step B3x0_ hb)
        (try clear hb)
        (try clear hb2)
        (try clear hk)
        (try clear hi)
        refine hK.out _ _ ⟨(blk_cell BK135.out 0).trans rfl, (blk_cell BK135.out 1).trans rfl, (blk_cell BK135.out 2).trans rfl, (blk_cell BK135.out 3).trans rfl⟩ (fun hHeld => ?_)
        clear hK K
        refine norm_ (a' := ?_) ?_ ?_
        rotate_left
        ·show Act.put _ (some 9) _ = _
         simp only [Act.put, List.setIfInBounds_toArray, List.set_cons_zero, List.set_cons_succ, i64_w, i32_w]
         rfl
        exact norm_ B3x2_ (hJ2_10_11 (v140) _ ⟨hHeld, B3x3_, B3x1_, B3x0_⟩)
      ·skip
       rintro v140 w16 ⟨hS_, h0_, h1_, h2_⟩
       have n0_ : Aside0 (Kd.R (Kd.int .u8) 5 w16 w.heap.size (fun _ => True) v140 y139) := ⟨h0_⟩
       have n1_ : Aside0 (w16.heap[gb135]? = some (.cells #[.int .i64 a0_0, .int .i64 a0_1, .int .i64 a0_2, .string a0_3] 28 (0, 0))) := ⟨h1_⟩
       have n2_ : Aside0 (Below w.heap.size w w16) := ⟨h2_⟩
       clear BK135
       clear HB
       clear h0_ h1_ h2_
       have HO141 := n0_
       have BK135 := n1_
       have HB := n2_
       clear n0_ n1_ n2_
       have hHeld : w16.cell? ⟨gb135, 0, none⟩ = some (.int .i64 a0_0) ∧ w16.cell? ⟨gb135, 1, none⟩ = some (.int .i64 a0_1) ∧ w16.cell? ⟨gb135, 2, none⟩ = some (.int .i64 a0_2) ∧ w16.cell? ⟨gb135, 3, none⟩ = some (.string a0_3) := hS_
       refine norm_ (a' := ?_) ?_ ?_
       rotate_left
       ·simp only [putAll, Act.put, List.setIfInBounds_toArray, List.set_cons_zero, List.set_cons_succ]
        rfl
       refine two_ (i := 5) (j := 11) (Ni := some 12) (Nj := some 18) #[true, true, true, true, true, true, false, true, true, true, true, false, false, true, true, false, false, false] #[true, true, true, true, true, false, false, true, true, true, true, true, false, true, true, false, false, false] rfl rfl rfl rfl (two_of HT_.out B3x7_) (by decide) (by decide) (fun K hK => ?_) (fun K hK => ?_)
       ·skip
        refine goes_ Try.func118 B3x7_ rfl #[.int .i64 a0_1] (by rfl) rfl rfl B3x4_ ?_
        with_reducible refine (spec_l11Two.calls a0_1 t138 _ A5.out).mono ?_
        rintro e w17 ⟨rfl, hb⟩
        refine ⟨_, rfl, ?_⟩
        replace HO141 := Aside0.mk (Kd.R_below B3x3_ hb)
        replace BK135 := Aside0.mk (blk_below (g := gb135) (o := .cells #[.int .i64 a0_0, .int .i64 a0_1, .int .i64 a0_2, .string a0_3] 28 (0, 0)) B3x1_ hb)
        replace HB := Aside0.mk (below_step B3x0_ hb)
        (try clear hb)
        (try clear hb2)
        (try clear hk)
        (try clear hi)
        refine hK.out _ _ ⟨(blk_cell BK135.out 0).trans rfl, (blk_cell BK135.out 1).trans rfl, (blk_cell BK135.out 2).trans rfl, (blk_cell BK135.out 3).trans rfl⟩ (fun hHeld => ?_)
        clear hK K
        refine norm_ (a' := ?_) ?_ ?_
        rotate_left
        ·show Act.put _ (some 12) _ = _
         simp only [Act.put, List.setIfInBounds_toArray, List.set_cons_zero, List.set_cons_succ, i64_w, i32_w]
         rfl
        refine pu_ 6 13 HT_ ?_
        exact norm_ B3x2_ (hJ2_5_10 (v140) _ ⟨hHeld, B3x3_, B3x1_, B3x0_⟩)
       ·skip
        have hcv17 := own_string (P := Try.prog) Try.underlying59 Try.underlying5 Try.underlying9 (Kd.own_of_R HO141.out)
        refine value_ (w1 := ?_) (v := ?_) (by rfl) rfl ?_ ?_
        rotate_left 2
        ·go_simp
         constructor
         ·rfl
         ·rfl
        clear hcv17
        refine hK.out _ _ ⟨(blk_cell BK135.out 0).trans rfl, (blk_cell BK135.out 1).trans rfl, (blk_cell BK135.out 2).trans rfl, (blk_cell BK135.out 3).trans rfl⟩ (fun hHeld => ?_)
        clear hK K
        refine norm_ (a' := ?_) ?_ ?_
        rotate_left
        ·show Act.put _ (some 18) _ = _
         simp only [Act.put, List.setIfInBounds_toArray, List.set_cons_zero, List.set_cons_succ, i64_w, i32_w]
         rfl
        exact norm_ B3x2_ (hJ2_10_11 (v140) _ ⟨hHeld, B3x3_, B3x1_, B3x0_⟩)
     ·skip
      rintro _ w15 ⟨hS_, h0_, h1_⟩
      have n0_ : Aside0 (w15.heap[gb135]? = some (.cells #[.int .i64 a0_0, .int .i64 a0_1, .int .i64 a0_2, .string a0_3] 28 (0, 0))) := ⟨h0_⟩
      have n1_ : Aside0 (Below w.heap.size w w15) := ⟨h1_⟩
      clear BK135
      clear HB
      clear h0_ h1_
      have BK135 := n0_
      have HB := n1_
      clear n0_ n1_
      have hHeld : w15.cell? ⟨gb135, 0, none⟩ = some (.int .i64 a0_0) ∧ w15.cell? ⟨gb135, 1, none⟩ = some (.int .i64 a0_1) ∧ w15.cell? ⟨gb135, 2, none⟩ = some (.int .i64 a0_2) ∧ w15.cell? ⟨gb135, 3, none⟩ = some (.string a0_3) := hS_
      refine norm_ (a' := ?_) ?_ ?_
      rotate_left
      ·simp only [putAll, Act.put, List.setIfInBounds_toArray, List.set_cons_zero, List.set_cons_succ]
       rfl
      refine one_ (i := 10) (N := some 17) #[true, true, true, true, true, true, true, true, true, true, true, false, false, true, true, false, false, false] rfl rfl (one_of HT_.out B3x7_) (by decide) (fun K hK => ?_)
      refine Kd.R_lit_step (Kd.int .u8) _ 5 ?hg (N := 17) ?hd (xs := ([(a0_2) % 256] : List Int)) (inner := [.int .u8 ((a0_2) % 256)]) (ok := fun _ => True) (okp := fun _ => True) ?hr ?hp (fun _ hk => hk) trivial (Below.refl _ _) (Nat.le_refl _) (by simp) ?_; (case hd => rfl); (case hg => rfl); (case hr => exact B3x8_); (case hp => exact B3x6_)
      intro v140 w16 ho17 hb hg_ hnew_
      clear hg_ hnew_
      (first | rw [← Ny139.out] at ho17 | (simp only [Int.reduceToNat] at ho17; rw [← Ny139.out] at ho17))
      have HO141 := Aside0.mk (Kd.R_lower ho17 (below_size B3x0_))
      replace BK135 := Aside0.mk (blk_below (g := gb135) (o := .cells #[.int .i64 a0_0, .int .i64 a0_1, .int .i64 a0_2, .string a0_3] 28 (0, 0)) B3x1_ hb)
      replace HB := Aside0.mk (below_step B3x0_ hb)
      clear hb ho17
      refine hK.out _ _ ⟨(blk_cell BK135.out 0).trans rfl, (blk_cell BK135.out 1).trans rfl, (blk_cell BK135.out 2).trans rfl, (blk_cell BK135.out 3).trans rfl⟩ (fun hHeld => ?_)
      clear hK K
      refine norm_ (a' := ?_) ?_ ?_
      rotate_left
      ·show Act.put _ (some 17) _ = _
       simp only [Act.put, List.setIfInBounds_toArray, List.set_cons_zero, List.set_cons_succ, i64_w, i32_w]
       rfl
      exact norm_ B3x2_ (hJ2_5_10 (v140) _ ⟨hHeld, B3x3_, B3x1_, B3x0_⟩)
    ·skip
     rintro v140 w17 ⟨hS_, h0_, h1_, h2_⟩
     have n0_ : Aside0 (Kd.R (Kd.int .u8) 5 w17 w.heap.size (fun _ => True) v140 y139) := ⟨h0_⟩
     have n1_ : Aside0 (w17.heap[gb135]? = some (.cells #[.int .i64 a0_0, .int .i64 a0_1, .int .i64 a0_2, .string a0_3] 28 (0, 0))) := ⟨h1_⟩
     have n2_ : Aside0 (Below w.heap.size w w17) := ⟨h2_⟩
     clear BK135
     clear HB
     clear h0_ h1_ h2_
     have HO141 := n0_
     have BK135 := n1_
     have HB := n2_
     clear n0_ n1_ n2_
     have hHeld : w17.cell? ⟨gb135, 0, none⟩ = some (.int .i64 a0_0) ∧ w17.cell? ⟨gb135, 1, none⟩ = some (.int .i64 a0_1) ∧ w17.cell? ⟨gb135, 2, none⟩ = some (.int .i64 a0_2) ∧ w17.cell? ⟨gb135, 3, none⟩ = some (.string a0_3) := hS_
     refine norm_ (a' := ?_) ?_ ?_
     rotate_left
     ·simp only [putAll, Act.put, List.setIfInBounds_toArray, List.set_cons_zero, List.set_cons_succ]
      rfl
     refine one_ (i := 5) (N := some 12) #[true, true, true, true, true, true, false, true, true, true, true, true, false, true, true, false, false, false] rfl rfl (one_of HT_.out B3x7_) (by decide) (fun K hK => ?_)
     refine goes_ Try.func118 B3x7_ rfl #[.int .i64 a0_1] (by rfl) rfl rfl B3x4_ ?_
     with_reducible refine (spec_l11Two.calls a0_1 t138 _ A5.out).mono ?_
     rintro e w18 ⟨rfl, hb⟩
     refine ⟨_, rfl, ?_⟩
     replace HO141 := Aside0.mk (Kd.R_below B3x3_ hb)
     replace BK135 := Aside0.mk (blk_below (g := gb135) (o := .cells #[.int .i64 a0_0, .int .i64 a0_1, .int .i64 a0_2, .string a0_3] 28 (0, 0)) B3x1_ hb)
     replace HB := Aside0.mk (below_step B3x0_ hb)
     (try clear hb)
     (try clear hb2)
     (try clear hk)
     (try clear hi)
     refine hK.out _ _ ⟨(blk_cell BK135.out 0).trans rfl, (blk_cell BK135.out 1).trans rfl, (blk_cell BK135.out 2).trans rfl, (blk_cell BK135.out 3).trans rfl⟩ (fun hHeld => ?_)
     clear hK K
     refine norm_ (a' := ?_) ?_ ?_
     rotate_left
     ·show Act.put _ (some 12) _ = _
      simp only [Act.put, List.setIfInBounds_toArray, List.set_cons_zero, List.set_cons_succ, i64_w, i32_w]
      rfl
     refine pu_ 6 13 HT_ ?_
     exact norm_ B3x2_ (hJ2_5_10_11 (v140) _ ⟨hHeld, B3x3_, B3x1_, B3x0_⟩)
   ·skip
    rintro v140 w17 ⟨hS_, h0_, h1_, h2_⟩
    have n0_ : Aside0 (Kd.R (Kd.int .u8) 5 w17 w.heap.size (fun _ => True) v140 y139) := ⟨h0_⟩
    have n1_ : Aside0 (w17.heap[gb135]? = some (.cells #[.int .i64 a0_0, .int .i64 a0_1, .int .i64 a0_2, .string a0_3] 28 (0, 0))) := ⟨h1_⟩
    have n2_ : Aside0 (Below w.heap.size w w17) := ⟨h2_⟩
    clear BK135
    clear HB
    clear h0_ h1_ h2_
    have HO141 := n0_
    have BK135 := n1_
    have HB := n2_
    clear n0_ n1_ n2_
    have hHeld : w17.cell? ⟨gb135, 0, none⟩ = some (.int .i64 a0_0) ∧ w17.cell? ⟨gb135, 1, none⟩ = some (.int .i64 a0_1) ∧ w17.cell? ⟨gb135, 2, none⟩ = some (.int .i64 a0_2) ∧ w17.cell? ⟨gb135, 3, none⟩ = some (.string a0_3) := hS_
    refine norm_ (a' := ?_) ?_ ?_
    rotate_left
    ·simp only [putAll, Act.put, List.setIfInBounds_toArray, List.set_cons_zero, List.set_cons_succ]
     rfl
    refine one_ (i := 11) (N := some 18) #[true, true, true, true, true, true, true, true, true, true, true, true, false, true, true, false, false, false] rfl rfl (one_of HT_.out B3x7_) (by decide) (fun K hK => ?_)
    have hcv18 := own_string (P := Try.prog) Try.underlying59 Try.underlying5 Try.underlying9 (Kd.own_of_R HO141.out)
    refine value_ (w1 := ?_) (v := ?_) (by rfl) rfl ?_ ?_
    rotate_left 2
    ·go_simp
     constructor
     ·rfl
     ·rfl
    clear hcv18
    refine hK.out _ _ ⟨(blk_cell BK135.out 0).trans rfl, (blk_cell BK135.out 1).trans rfl, (blk_cell BK135.out 2).trans rfl, (blk_cell BK135.out 3).trans rfl⟩ (fun hHeld => ?_)
    clear hK K
    refine norm_ (a' := ?_) ?_ ?_
    rotate_left
    ·show Act.put _ (some 18) _ = _
     simp only [Act.put, List.setIfInBounds_toArray, List.set_cons_zero, List.set_cons_succ, i64_w, i32_w]
     rfl
    exact norm_ B3x2_ (hJ2_5_10_11 (v140) _ ⟨hHeld, B3x3_, B3x1_, B3x0_⟩)
  rintro v140 w18 ⟨hS_, h0_, h1_, h2_⟩
  have n0_ : Aside0 (Kd.R (Kd.int .u8) 5 w18 w.heap.size (fun _ => True) v140 y139) := ⟨h0_⟩
  have n1_ : Aside0 (w18.heap[gb135]? = some (.cells #[.int .i64 a0_0, .int .i64 a0_1, .int .i64 a0_2, .string a0_3] 28 (0, 0))) := ⟨h1_⟩
  have n2_ : Aside0 (Below w.heap.size w w18) := ⟨h2_⟩
  clear BK135
  clear HB
  clear h0_ h1_ h2_
  have HO141 := n0_
  have BK135 := n1_
  have HB := n2_
  clear n0_ n1_ n2_
  have hHeld : w18.cell? ⟨gb135, 0, none⟩ = some (.int .i64 a0_0) ∧ w18.cell? ⟨gb135, 1, none⟩ = some (.int .i64 a0_1) ∧ w18.cell? ⟨gb135, 2, none⟩ = some (.int .i64 a0_2) ∧ w18.cell? ⟨gb135, 3, none⟩ = some (.string a0_3) := hS_
  refine norm_ (a' := ?_) ?_ ?_
  rotate_left
  ·simp only [putAll, Act.put, List.setIfInBounds_toArray, List.set_cons_zero, List.set_cons_succ]
   rfl
  refine pu_ 12 19 HT_ ?_
  refine pu_ 15 22 HT_ ?_
  refine pu_ 16 2 HT_ ?_
  refine pu_ 17 3 HT_ ?_
  refine done_ (done_of HT_.out B3x7_) ?_
  try go_wp2
  go_ret2
  exact ⟨B3x9_, B3x0_⟩
 ·replace c3 := Bool.eq_false_iff.mpr c3
  subst c3
  rw [if_neg (show ¬ (false = true) by decide)] at H
  simp only [Option.some.injEq, Prod.mk.injEq] at H
  obtain ⟨rfl, rfl⟩ := H
  go_enter Try.func59, Try.ntmps59
  go_wp2_with (first | ((with_reducible refine gate_dst (N := 1) rfl ?_); refine box_event ?hg (N := 1) ?hd (cs := #[.int .i64 a0_0, .int .i64 a0_1, .int .i64 a0_2, .string a0_3]) (t := 28) ?hr ?_; (case hd => rfl); (case hg => rfl); (case hr => exact B3x8_); intro gb135 hg w19 hbox hb; have BK135 := Aside0.mk (hbox); have GW135 := Aside0.mk ((by rw [hg]; exact (below_size B3x5_) : w.heap.size ≤ gb135)); have GE135 := Aside0.mk ((by rw [hg]; exact (below_size B3x5_) : w.heap.size ≤ gb135)); replace HB := Aside0.mk (below_step B3x5_ hb); clear hb hbox hg; obtain ⟨hcz20_0, hcz20_1, hcz20_2, hcz20_3⟩ := cl4 BK135.out; obtain ⟨hfz20_0, hfz20_1, hfz20_2, hfz20_3⟩ := fr4 BK135.out) | ((with_reducible refine gate_callee (f := 117) rfl ?_); refine goesL_ (some 5) rfl rfl Try.func117 B3x7_ rfl #[.agg #[.int .i64 a0_0, .int .i64 a0_1, .int .i64 a0_2, .string a0_3]] rfl B3x4_ ?_; (with_reducible refine (spec_SegOk.calls k a0_0 a0_1 a0_2 a0_3 false _ A2.out).mono ?_); rintro e w21 ⟨rfl, hb⟩; refine ⟨_, rfl, ?_⟩; replace BK135 := Aside0.mk (blk_below (g := gb135) (o := .cells #[.int .i64 a0_0, .int .i64 a0_1, .int .i64 a0_2, .string a0_3] 28 (0, 0)) B3x1_ hb); replace HB := Aside0.mk (below_step B3x0_ hb); (try clear hb); (try clear hb2); (try clear hk); (try clear hi)))
  go_ret2
  exact ⟨B3x9_, B3x0_⟩

end Go.Proofs.Ytmknnoeggkgkgaa.QFnExactWrap
