/- Functions that a law reaches, as functions of Lean, and the walks that show that the calls come to their answers: written by a program of this project out of the translation. No condition. -/
import Derived.Test.YtmknnoeggkgkgaaQFnExactWrapx0
import Derived.Test.YtmknnoeggkgkgaaQFnExactWrapx2
import Derived.Test.YtmknnoeggkgkgaaVFnExactWraphort3
import Derived.Test.YtmknnoeggkgkgaaVFnExactWrapShort
namespace Go.Proofs.Ytmknnoeggkgkgaa.QFnExactWrap
open Go.RowKit Go.Proofs.YtmknnoeggkgkgaaW.PrintWords Go.Proofs.YtmknnoeggkgkgaaW.PrintLast Go.Proofs.YtmknnoeggkgkgaaW.PrintMore Go.Proofs.Ytmknnoeggkgkgaa.Short
attribute [local go_sem] max2_int min2_int max_two min_two max_three min_three max_four min_four   -- for this text's walks alone
set_option linter.unusedVariables false
set_option linter.unusedSimpArgs false

theorem B4x0_ {p : Prop} (h : p := by repeat (first | (with_reducible first | exact HB.out | apply below_alloc | apply pw_below_drewN | apply below_drew1 | refine below_set ?_ GE142.out) | exact HB.out)) : p := h
theorem B4x1_ {p : Prop} (h : p := by first | (simp only [putAll, Act.put, List.setIfInBounds_toArray, List.set_cons_zero, List.set_cons_succ]; done) | (simp only [putAll, Act.put, List.setIfInBounds_toArray, List.set_cons_zero, List.set_cons_succ]; rfl)) : p := h
theorem B4x2_ {p : Prop} (h : p := by (with_reducible repeat (first | refine blk_drewN ?_ _ | refine blk_drew ?_ | refine blk_alloc ?_ _)); exact BK142.out) : p := h
theorem B4x3_ {p : Prop} (h : p := by (with_reducible repeat (first | apply Kd.R_alloc | apply Kd.R_drewN | apply Kd.R_drew)); exact HO145.out) : p := h
theorem B4x4_ {p : Prop} (h : p := by (with_reducible repeat (first | apply Kd.R_alloc | apply Kd.R_drewN | apply Kd.R_drew)); exact HO149.out) : p := h
theorem B4x5_ {p : Prop} (h : p := by (with_reducible repeat (first | apply Kd.R_alloc | apply Kd.R_drewN | apply Kd.R_drew)); exact HO152.out) : p := h
theorem B4x6_ {p : Prop} (h : p := by (with_reducible repeat (first | apply Kd.R_alloc | apply Kd.R_drewN | apply Kd.R_drew)); exact HO156.out) : p := h
theorem B4x7_ {p : Prop} (h : p := by (try simp only [List.map_toArray, List.map_cons, List.map_nil]); first | done | rfl | (simp only [List.length_drop, List.length_take]; rfl)) : p := h
theorem B4x8_ {p : Prop} (h : p := by exact (Reps.one (show Kd.M (Kd.int .u8) _ _ _ ((a0_0) % 256) [.int .u8 ((a0_0) % 256)] from rfl) (Reps.one (show Kd.M (Kd.int .u8) _ _ _ ((a0_1) % 256) [.int .u8 ((a0_1) % 256)] from rfl) (Reps.none _ _)))) : p := h
theorem B4x9_ {p : Prop} (h : p := by exact (Reps.one (show Kd.M (Kd.int .u8) _ _ _ ((wrap64 (Int.tdiv a0_3 8)) % 256) [.int .u8 ((wrap64 (Int.tdiv a0_3 8)) % 256)] from rfl) (Reps.one (show Kd.M (Kd.int .u8) _ _ _ 0 [.int .u8 0] from rfl) (Reps.none _ _)))) : p := h
theorem B4x10_ {p : Prop} (h : p := by exact (Reps.one (show Kd.M (Kd.int .u8) _ _ _ ((wrap64 (Int.tdiv a0_3 8)) % 256) [.int .u8 ((wrap64 (Int.tdiv a0_3 8)) % 256)] from rfl) (Reps.one (show Kd.M (Kd.int .u8) _ _ _ 1 [.int .u8 1] from rfl) (Reps.none _ _)))) : p := h
theorem B4x11_ {p : Prop} (h : p := by first | (go_simp; done) | (go_simp; rfl)) : p := h
theorem B4x12_ {p : Prop} (h : p := by (with_reducible repeat (first | apply Kd.R_alloc | apply Kd.R_drewN | apply Kd.R_drew)); exact Kd.R_mono HO145.out (fun _ hk => hk.2)) : p := h
theorem B4x13_ {p : Prop} (h : p := by (with_reducible repeat (first | apply Kd.R_alloc | apply Kd.R_drewN | apply Kd.R_drew)); exact Kd.R_mono HO149.out (fun _ hk => hk.2)) : p := h
theorem B4x14_ {p : Prop} (h : p := by (with_reducible repeat (first | apply Kd.R_alloc | apply Kd.R_drewN | apply Kd.R_drew)); exact Kd.R_mono HO152.out (fun _ hk => hk.2)) : p := h
theorem B4x15_ {p : Prop} (h : p := by (with_reducible repeat (first | apply Kd.R_alloc | apply Kd.R_drewN | apply Kd.R_drew)); exact Kd.R_mono HO156.out (fun _ hk => hk.2)) : p := h
theorem B4x16_ {p : Prop} (h : p := by repeat (first | (with_reducible first | exact HB.out | apply below_alloc | apply pw_below_drewN | apply below_drew1) | exact HB.out)) : p := h
theorem B4x17_ {p : Prop} (h : p := by kernel_rfl) : p := h
theorem B4x18_ {p : Prop} (h : p := by first | rfl | (simp [errW_none, errW_some] <;> rfl) | (simp [*, errW_none, errW_some] <;> rfl)) : p := h
/-! ### spec_l11Head: function 119 -/
def spec_l11Head.f (a0_0 : Int) (a0_1 : Int) (a0_2 : Int) (a0_3 : Int) (a0_4 : Bool) (a0_5 : ByteArray) : Option (ByteArray) := if a0_4 = true then ((some (([(a0_0) % 256, (a0_1) % 256] : List Int) : List Int)).bind fun y143 => ((spec_l11Two.f a0_2).bind fun t146 => (if (strOfNums y143).size + t146.size ≤ 9223372036854775807 then ((some (([(wrap64 (Int.tdiv a0_3 8)) % 256, 1] : List Int) : List Int)).bind fun y147 => (if ((strOfNums y143) ++ t146).size + (strOfNums y147).size ≤ 9223372036854775807 then (some (((strOfNums y143) ++ t146) ++ (strOfNums y147))) else (none))) else (none)))) else ((some (([(a0_0) % 256, (a0_1) % 256] : List Int) : List Int)).bind fun y150 => ((spec_l11Two.f a0_2).bind fun t153 => (if (strOfNums y150).size + t153.size ≤ 9223372036854775807 then ((some (([(wrap64 (Int.tdiv a0_3 8)) % 256, 0] : List Int) : List Int)).bind fun y154 => (if ((strOfNums y150) ++ t153).size + (strOfNums y154).size ≤ 9223372036854775807 then (some (((strOfNums y150) ++ t153) ++ (strOfNums y154))) else (none))) else (none))))
def spec_l11Head.T4 : Bool × List (List Nat × List Nat) := (true, [([], []), ([0], [0]), ([1], [1]), ([], []), ([3], [3]), ([4], [4]), ([2, 5], [2, 5]), ([6], [6]), ([], []), ([8], [8]), ([9], [9]), ([7, 10], [7, 10]), ([], []), ([12], [12]), ([13], [13]), ([14], [14]), ([], []), ([15, 16], [15, 16]), ([17], [17]), ([11, 18], [11, 18]), ([19, 10, 0, 1, 2, 3, 4, 5, 6, 7, 8, 9, 10, 11, 12, 13, 14, 15, 16, 17, 18, 19], [19])])
def spec_l11Head.B4 : List Nat := [0, 1, 3, 0, 8, 24, 63, 127, 0, 256, 768, 2047, 0, 4096, 12288, 28672, 0, 126976, 258048, 524287, 1048575]
theorem spec_l11Head.tab4 : rtab .any (opsOf Try.f119 4) = spec_l11Head.T4 := by kernel_rfl
theorem spec_l11Head.bits4 : waitsOk spec_l11Head.T4.2 spec_l11Head.B4 = true := by kernel_rfl
set_option maxHeartbeats 8000000 in
set_option maxRecDepth 100000 in
theorem spec_l11Head.calls (a0_0 : Int) (a0_1 : Int) (a0_2 : Int) (a0_3 : Int) (a0_4 : Bool) (a0_5 : ByteArray) (r : ByteArray) (w : World) (h : spec_l11Head.f a0_0 a0_1 a0_2 a0_3 a0_4 a0_5 = some r) :
  Calls Try.prog 119 #[.agg #[.int .i64 a0_0, .int .i64 a0_1, .int .i64 a0_2, .int .i64 a0_3, .bool a0_4, .string a0_5]] w fun e w' => e = .returned (.string r) ∧ Below w.heap.size w w' := by
 have hu62 := Try.underlying62
 have HB := Aside0.mk (Below.refl w.heap.size w)
 have H : (if a0_4 = true then ((some (([(a0_0) % 256, (a0_1) % 256] : List Int) : List Int)).bind fun y143 => ((spec_l11Two.f a0_2).bind fun t146 => (if (strOfNums y143).size + t146.size ≤ 9223372036854775807 then ((some (([(wrap64 (Int.tdiv a0_3 8)) % 256, 1] : List Int) : List Int)).bind fun y147 => (if ((strOfNums y143) ++ t146).size + (strOfNums y147).size ≤ 9223372036854775807 then (some (((strOfNums y143) ++ t146) ++ (strOfNums y147))) else (none))) else (none)))) else ((some (([(a0_0) % 256, (a0_1) % 256] : List Int) : List Int)).bind fun y150 => ((spec_l11Two.f a0_2).bind fun t153 => (if (strOfNums y150).size + t153.size ≤ 9223372036854775807 then ((some (([(wrap64 (Int.tdiv a0_3 8)) % 256, 0] : List Int) : List Int)).bind fun y154 => (if ((strOfNums y150) ++ t153).size + (strOfNums y154).size ≤ 9223372036854775807 then (some (((strOfNums y150) ++ t153) ++ (strOfNums y154))) else (none))) else (none))))) = some r := h
 clear h
 by_cases c2 : a0_4 = true
 ·subst c2
  rw [if_pos rfl] at H
  obtain ⟨y143, hy143⟩ : ∃ y_ : List Int, y_ = (([(a0_0) % 256, (a0_1) % 256] : List Int)) := ⟨_, rfl⟩
  replace H : ((spec_l11Two.f a0_2).bind fun t146 => (if (strOfNums y143).size + t146.size ≤ 9223372036854775807 then ((some (([(wrap64 (Int.tdiv a0_3 8)) % 256, 1] : List Int) : List Int)).bind fun y147 => (if ((strOfNums y143) ++ t146).size + (strOfNums y147).size ≤ 9223372036854775807 then (some (((strOfNums y143) ++ t146) ++ (strOfNums y147))) else (none))) else (none))) = some r := by first | (rw [hy143]; with_reducible exact H) | (have H2_ := (Option.bind_some _ _).symm.trans H; rw [hy143]; with_reducible exact H2_) | (have H2_ := (Option.bind_some _ _).symm.trans H; with_reducible exact H2_) | with_reducible exact H | (rw [hy143]; exact H) | exact H
  have Ny143 := Aside0.mk hy143
  clear hy143
  replace H := Option.bind_eq_some_iff.mp H
  obtain ⟨t146, A30, H⟩ := H
  (try dsimp only at H)
  have A3 := Aside0.mk A30
  clear A30
  by_cases c4 : (strOfNums y143).size + t146.size ≤ 9223372036854775807
  rotate_left
  ·rw [if_neg c4] at H
   exact absurd H (by simp)
  rw [if_pos c4] at H
  have c4b0 := eq_true c4
  have c4b1 : decide ((strOfNums y143).size + t146.size ≤ 9223372036854775807) = true := decide_eq_true c4
  try have c4b2 : (9223372036854775807 < (strOfNums y143).size + t146.size) = False := eq_false (Nat.not_lt.2 c4)
  try (have c4b9 := c4b2; simp only [ByteArray.size_append] at c4b9)
  obtain ⟨y147, hy147⟩ : ∃ y_ : List Int, y_ = (([(wrap64 (Int.tdiv a0_3 8)) % 256, 1] : List Int)) := ⟨_, rfl⟩
  replace H : (if ((strOfNums y143) ++ t146).size + (strOfNums y147).size ≤ 9223372036854775807 then (some (((strOfNums y143) ++ t146) ++ (strOfNums y147))) else (none)) = some r := by first | (rw [hy147]; with_reducible exact H) | (have H2_ := (Option.bind_some _ _).symm.trans H; rw [hy147]; with_reducible exact H2_) | (have H2_ := (Option.bind_some _ _).symm.trans H; with_reducible exact H2_) | with_reducible exact H | (rw [hy147]; exact H) | exact H
  have Ny147 := Aside0.mk hy147
  clear hy147
  by_cases c5 : ((strOfNums y143) ++ t146).size + (strOfNums y147).size ≤ 9223372036854775807
  rotate_left
  ·rw [if_neg c5] at H
   exact absurd H (by simp)
  rw [if_pos c5] at H
  have c5b0 := eq_true c5
  have c5b1 : decide (((strOfNums y143) ++ t146).size + (strOfNums y147).size ≤ 9223372036854775807) = true := decide_eq_true c5
  try have c5b2 : (9223372036854775807 < ((strOfNums y143) ++ t146).size + (strOfNums y147).size) = False := eq_false (Nat.not_lt.2 c5)
  try have c5b8 : (9223372036854775807 < (strOfNums y143).size + t146.size + (strOfNums y147).size) = False := eq_false (by have h_ := c5; simp only [ByteArray.size_append, ByteArray.size_extract, decide_eq_true_eq, decide_eq_false_iff_not] at *; omega)
  try (have c5b9 := c5b2; simp only [ByteArray.size_append] at c5b9)
  obtain rfl := Option.some.inj H
  go_enter Try.func119, Try.ntmps119
  try go_wp2_with (first | ((with_reducible refine gate_dst (N := 1) rfl ?_); refine box_event ?hg (N := 1) ?hd (cs := #[.int .i64 a0_0, .int .i64 a0_1, .int .i64 a0_2, .int .i64 a0_3, .bool true, .string a0_5]) (t := 62) ?hr ?_; (case hd => rfl); (case hg => rfl); (case hr => exact B4x11_); intro gb142 hg w6 hbox hb; have BK142 := Aside0.mk (hbox); have GW142 := Aside0.mk ((by rw [hg]; exact (below_size B4x16_) : w.heap.size ≤ gb142)); have GE142 := Aside0.mk ((by rw [hg]; exact (below_size B4x16_) : w.heap.size ≤ gb142)); replace HB := Aside0.mk (below_step B4x16_ hb); clear hb hbox hg; obtain ⟨hcz7_0, hcz7_1, hcz7_2, hcz7_3, hcz7_4, hcz7_5⟩ := cl6 BK142.out; obtain ⟨hfz7_0, hfz7_1, hfz7_2, hfz7_3, hfz7_4, hfz7_5⟩ := fr6 BK142.out))
  replace BK142 := Aside0.mk (blk_drew BK142.out)
  replace HB := Aside0.mk (below_drew1 HB.out)
  refine start_ (n := 21) (S := fun w' => w'.cell? ⟨gb142, 0, none⟩ = some (.int .i64 a0_0) ∧ w'.cell? ⟨gb142, 1, none⟩ = some (.int .i64 a0_1) ∧ w'.cell? ⟨gb142, 2, none⟩ = some (.int .i64 a0_2) ∧ w'.cell? ⟨gb142, 3, none⟩ = some (.int .i64 a0_3) ∧ w'.cell? ⟨gb142, 4, none⟩ = some (.bool true) ∧ w'.cell? ⟨gb142, 5, none⟩ = some (.string a0_5)) (ds := []) #[false, false, false, false, false, false, false, false, false, false, false, false, false, false, false, false, false, false, false, false, false] B4x17_ rfl rfl ⟨(blk_cell BK142.out 0).trans rfl, (blk_cell BK142.out 1).trans rfl, (blk_cell BK142.out 2).trans rfl, (blk_cell BK142.out 3).trans rfl, (blk_cell BK142.out 4).trans rfl, (blk_cell BK142.out 5).trans rfl⟩ (fun hHeld => ?_); refine with_tabW spec_l11Head.tab4 spec_l11Head.bits4 (fun HT_ HW_ => ?_)
  generalize w6.drew = w8 at BK142 HB hHeld ⊢
  refine pu_ 0 6 HT_ ?_
  refine pu_ 3 9 HT_ ?_
  refine pu_ 8 14 HT_ ?_
  refine pu_ 12 18 HT_ ?_
  refine pu_ 16 22 HT_ ?_
  refine ta_ 1 7 HT_ HW_ hHeld ?_
  refine pu_ 2 8 HT_ ?_
  refine ta_ 4 10 HT_ HW_ hHeld ?_
  refine pu_ 5 11 HT_ ?_
  refine ta_ 9 15 HT_ HW_ hHeld ?_
  refine ta_ 13 19 HT_ HW_ hHeld ?_
  refine pu_ 14 20 HT_ ?_
  refine pu_ 15 21 HT_ ?_
  refine join_ (σ := Value × Value) 2 #[true, true, true, true, true, true, true, true, true, true, true, true, true, true, true, true, true, true, true, false, false] (fun s_ => [(12, s_.1), (13, .string (strOfNums y143)), (16, .string t146), (23, s_.2), (24, .string (strOfNums y147)), (17, .string ((strOfNums y143) ++ t146))]) (fun s_ w' => (w'.cell? ⟨gb142, 0, none⟩ = some (.int .i64 a0_0) ∧ w'.cell? ⟨gb142, 1, none⟩ = some (.int .i64 a0_1) ∧ w'.cell? ⟨gb142, 2, none⟩ = some (.int .i64 a0_2) ∧ w'.cell? ⟨gb142, 3, none⟩ = some (.int .i64 a0_3) ∧ w'.cell? ⟨gb142, 4, none⟩ = some (.bool true) ∧ w'.cell? ⟨gb142, 5, none⟩ = some (.string a0_5)) ∧ (Kd.R (Kd.int .u8) 5 w' w.heap.size (fun k_ => some k_ ≠ (s_.2 : Value).ownBlock) s_.1 y143) ∧ (Kd.R (Kd.int .u8) 5 w' w.heap.size (fun k_ => some k_ ≠ (s_.1 : Value).ownBlock) s_.2 y147) ∧ (w'.heap[gb142]? = some (.cells #[.int .i64 a0_0, .int .i64 a0_1, .int .i64 a0_2, .int .i64 a0_3, .bool true, .string a0_5] 62 (0, 0))) ∧ (Below w.heap.size w w')) ?_ ?_
  rotate_left
  ·intro hJ6_7_10_17_18
   refine join_ (σ := Value × Value) 3 #[true, true, true, true, true, true, true, true, true, true, true, true, true, true, true, true, true, true, false, false, false] (fun s_ => [(12, s_.1), (13, .string (strOfNums y143)), (16, .string t146), (23, s_.2), (17, .string ((strOfNums y143) ++ t146))]) (fun s_ w' => (w'.cell? ⟨gb142, 0, none⟩ = some (.int .i64 a0_0) ∧ w'.cell? ⟨gb142, 1, none⟩ = some (.int .i64 a0_1) ∧ w'.cell? ⟨gb142, 2, none⟩ = some (.int .i64 a0_2) ∧ w'.cell? ⟨gb142, 3, none⟩ = some (.int .i64 a0_3) ∧ w'.cell? ⟨gb142, 4, none⟩ = some (.bool true) ∧ w'.cell? ⟨gb142, 5, none⟩ = some (.string a0_5)) ∧ (Kd.R (Kd.int .u8) 5 w' w.heap.size (fun k_ => some k_ ≠ (s_.2 : Value).ownBlock) s_.1 y143) ∧ (Kd.R (Kd.int .u8) 5 w' w.heap.size (fun k_ => some k_ ≠ (s_.1 : Value).ownBlock) s_.2 y147) ∧ (w'.heap[gb142]? = some (.cells #[.int .i64 a0_0, .int .i64 a0_1, .int .i64 a0_2, .int .i64 a0_3, .bool true, .string a0_5] 62 (0, 0))) ∧ (Below w.heap.size w w')) ?_ ?_
   rotate_left
   ·intro hJ6_7_10_17
    refine join_ (σ := Value × Value) 4 #[true, true, true, true, true, true, true, true, true, true, false, false, true, true, true, true, true, true, true, false, false] (fun s_ => [(12, s_.1), (13, .string (strOfNums y143)), (23, s_.2), (24, .string (strOfNums y147))]) (fun s_ w' => (w'.cell? ⟨gb142, 0, none⟩ = some (.int .i64 a0_0) ∧ w'.cell? ⟨gb142, 1, none⟩ = some (.int .i64 a0_1) ∧ w'.cell? ⟨gb142, 2, none⟩ = some (.int .i64 a0_2) ∧ w'.cell? ⟨gb142, 3, none⟩ = some (.int .i64 a0_3) ∧ w'.cell? ⟨gb142, 4, none⟩ = some (.bool true) ∧ w'.cell? ⟨gb142, 5, none⟩ = some (.string a0_5)) ∧ (Kd.R (Kd.int .u8) 5 w' w.heap.size (fun k_ => some k_ ≠ (s_.2 : Value).ownBlock) s_.1 y143) ∧ (Kd.R (Kd.int .u8) 5 w' w.heap.size (fun k_ => some k_ ≠ (s_.1 : Value).ownBlock) s_.2 y147) ∧ (w'.heap[gb142]? = some (.cells #[.int .i64 a0_0, .int .i64 a0_1, .int .i64 a0_2, .int .i64 a0_3, .bool true, .string a0_5] 62 (0, 0))) ∧ (Below w.heap.size w w')) ?_ ?_
    rotate_left
    ·intro hJ6_7_17_18
     refine join_ (σ := Value × Value) 4 #[true, true, true, true, true, true, true, false, true, true, true, false, true, true, true, true, true, true, true, false, false] (fun s_ => [(12, s_.1), (16, .string t146), (23, s_.2), (24, .string (strOfNums y147))]) (fun s_ w' => (w'.cell? ⟨gb142, 0, none⟩ = some (.int .i64 a0_0) ∧ w'.cell? ⟨gb142, 1, none⟩ = some (.int .i64 a0_1) ∧ w'.cell? ⟨gb142, 2, none⟩ = some (.int .i64 a0_2) ∧ w'.cell? ⟨gb142, 3, none⟩ = some (.int .i64 a0_3) ∧ w'.cell? ⟨gb142, 4, none⟩ = some (.bool true) ∧ w'.cell? ⟨gb142, 5, none⟩ = some (.string a0_5)) ∧ (Kd.R (Kd.int .u8) 5 w' w.heap.size (fun k_ => some k_ ≠ (s_.2 : Value).ownBlock) s_.1 y143) ∧ (Kd.R (Kd.int .u8) 5 w' w.heap.size (fun k_ => some k_ ≠ (s_.1 : Value).ownBlock) s_.2 y147) ∧ (w'.heap[gb142]? = some (.cells #[.int .i64 a0_0, .int .i64 a0_1, .int .i64 a0_2, .int .i64 a0_3, .bool true, .string a0_5] 62 (0, 0))) ∧ (Below w.heap.size w w')) ?_ ?_
     rotate_left
     ·intro hJ6_10_17_18
      refine join_ (σ := Value) 4 #[true, true, true, true, true, true, true, true, true, true, true, true, true, true, true, true, true, false, false, false, false] (fun s_ => [(12, s_), (13, .string (strOfNums y143)), (16, .string t146), (17, .string ((strOfNums y143) ++ t146))]) (fun s_ w' => (w'.cell? ⟨gb142, 0, none⟩ = some (.int .i64 a0_0) ∧ w'.cell? ⟨gb142, 1, none⟩ = some (.int .i64 a0_1) ∧ w'.cell? ⟨gb142, 2, none⟩ = some (.int .i64 a0_2) ∧ w'.cell? ⟨gb142, 3, none⟩ = some (.int .i64 a0_3) ∧ w'.cell? ⟨gb142, 4, none⟩ = some (.bool true) ∧ w'.cell? ⟨gb142, 5, none⟩ = some (.string a0_5)) ∧ (Kd.R (Kd.int .u8) 5 w' w.heap.size (fun _ => True) s_ y143) ∧ (w'.heap[gb142]? = some (.cells #[.int .i64 a0_0, .int .i64 a0_1, .int .i64 a0_2, .int .i64 a0_3, .bool true, .string a0_5] 62 (0, 0))) ∧ (Below w.heap.size w w')) ?_ ?_
      rotate_left
      ·intro hJ6_7_10
       refine join_ (σ := Value × Value) 5 #[true, true, true, true, true, true, true, true, true, true, false, false, true, true, true, true, true, true, false, false, false] (fun s_ => [(12, s_.1), (13, .string (strOfNums y143)), (23, s_.2)]) (fun s_ w' => (w'.cell? ⟨gb142, 0, none⟩ = some (.int .i64 a0_0) ∧ w'.cell? ⟨gb142, 1, none⟩ = some (.int .i64 a0_1) ∧ w'.cell? ⟨gb142, 2, none⟩ = some (.int .i64 a0_2) ∧ w'.cell? ⟨gb142, 3, none⟩ = some (.int .i64 a0_3) ∧ w'.cell? ⟨gb142, 4, none⟩ = some (.bool true) ∧ w'.cell? ⟨gb142, 5, none⟩ = some (.string a0_5)) ∧ (Kd.R (Kd.int .u8) 5 w' w.heap.size (fun k_ => some k_ ≠ (s_.2 : Value).ownBlock) s_.1 y143) ∧ (Kd.R (Kd.int .u8) 5 w' w.heap.size (fun k_ => some k_ ≠ (s_.1 : Value).ownBlock) s_.2 y147) ∧ (w'.heap[gb142]? = some (.cells #[.int .i64 a0_0, .int .i64 a0_1, .int .i64 a0_2, .int .i64 a0_3, .bool true, .string a0_5] 62 (0, 0))) ∧ (Below w.heap.size w w')) ?_ ?_
       rotate_left
       ·intro hJ6_7_17
        refine join_ (σ := Value × Value) 5 #[true, true, true, true, true, true, true, false, true, true, true, false, true, true, true, true, true, true, false, false, false] (fun s_ => [(12, s_.1), (16, .string t146), (23, s_.2)]) (fun s_ w' => (w'.cell? ⟨gb142, 0, none⟩ = some (.int .i64 a0_0) ∧ w'.cell? ⟨gb142, 1, none⟩ = some (.int .i64 a0_1) ∧ w'.cell? ⟨gb142, 2, none⟩ = some (.int .i64 a0_2) ∧ w'.cell? ⟨gb142, 3, none⟩ = some (.int .i64 a0_3) ∧ w'.cell? ⟨gb142, 4, none⟩ = some (.bool true) ∧ w'.cell? ⟨gb142, 5, none⟩ = some (.string a0_5)) ∧ (Kd.R (Kd.int .u8) 5 w' w.heap.size (fun k_ => some k_ ≠ (s_.2 : Value).ownBlock) s_.1 y143) ∧ (Kd.R (Kd.int .u8) 5 w' w.heap.size (fun k_ => some k_ ≠ (s_.1 : Value).ownBlock) s_.2 y147) ∧ (w'.heap[gb142]? = some (.cells #[.int .i64 a0_0, .int .i64 a0_1, .int .i64 a0_2, .int .i64 a0_3, .bool true, .string a0_5] 62 (0, 0))) ∧ (Below w.heap.size w w')) ?_ ?_
        rotate_left
        ·intro hJ6_10_17
         refine join_ (σ := Value × Value) 5 #[true, true, true, true, true, true, true, false, true, true, false, false, true, true, true, true, true, true, true, false, false] (fun s_ => [(12, s_.1), (23, s_.2), (24, .string (strOfNums y147))]) (fun s_ w' => (w'.cell? ⟨gb142, 0, none⟩ = some (.int .i64 a0_0) ∧ w'.cell? ⟨gb142, 1, none⟩ = some (.int .i64 a0_1) ∧ w'.cell? ⟨gb142, 2, none⟩ = some (.int .i64 a0_2) ∧ w'.cell? ⟨gb142, 3, none⟩ = some (.int .i64 a0_3) ∧ w'.cell? ⟨gb142, 4, none⟩ = some (.bool true) ∧ w'.cell? ⟨gb142, 5, none⟩ = some (.string a0_5)) ∧ (Kd.R (Kd.int .u8) 5 w' w.heap.size (fun k_ => some k_ ≠ (s_.2 : Value).ownBlock) s_.1 y143) ∧ (Kd.R (Kd.int .u8) 5 w' w.heap.size (fun k_ => some k_ ≠ (s_.1 : Value).ownBlock) s_.2 y147) ∧ (w'.heap[gb142]? = some (.cells #[.int .i64 a0_0, .int .i64 a0_1, .int .i64 a0_2, .int .i64 a0_3, .bool true, .string a0_5] 62 (0, 0))) ∧ (Below w.heap.size w w')) ?_ ?_
         rotate_left
         ·intro hJ6_17_18
          refine join_ (σ := Value) 5 #[true, true, true, true, true, true, false, false, true, true, true, false, true, true, true, true, true, true, true, false, false] (fun s_ => [(16, .string t146), (23, s_), (24, .string (strOfNums y147))]) (fun s_ w' => (w'.cell? ⟨gb142, 0, none⟩ = some (.int .i64 a0_0) ∧ w'.cell? ⟨gb142, 1, none⟩ = some (.int .i64 a0_1) ∧ w'.cell? ⟨gb142, 2, none⟩ = some (.int .i64 a0_2) ∧ w'.cell? ⟨gb142, 3, none⟩ = some (.int .i64 a0_3) ∧ w'.cell? ⟨gb142, 4, none⟩ = some (.bool true) ∧ w'.cell? ⟨gb142, 5, none⟩ = some (.string a0_5)) ∧ (Kd.R (Kd.int .u8) 5 w' w.heap.size (fun _ => True) s_ y147) ∧ (w'.heap[gb142]? = some (.cells #[.int .i64 a0_0, .int .i64 a0_1, .int .i64 a0_2, .int .i64 a0_3, .bool true, .string a0_5] 62 (0, 0))) ∧ (Below w.heap.size w w')) ?_ ?_
          rotate_left
          ·intro hJ10_17_18
           refine join_ (σ := Value) 6 #[true, true, true, true, true, true, true, true, true, true, false, false, true, true, true, true, true, false, false, false, false] (fun s_ => [(12, s_), (13, .string (strOfNums y143))]) (fun s_ w' => (w'.cell? ⟨gb142, 0, none⟩ = some (.int .i64 a0_0) ∧ w'.cell? ⟨gb142, 1, none⟩ = some (.int .i64 a0_1) ∧ w'.cell? ⟨gb142, 2, none⟩ = some (.int .i64 a0_2) ∧ w'.cell? ⟨gb142, 3, none⟩ = some (.int .i64 a0_3) ∧ w'.cell? ⟨gb142, 4, none⟩ = some (.bool true) ∧ w'.cell? ⟨gb142, 5, none⟩ = some (.string a0_5)) ∧ (Kd.R (Kd.int .u8) 5 w' w.heap.size (fun _ => True) s_ y143) ∧ (w'.heap[gb142]? = some (.cells #[.int .i64 a0_0, .int .i64 a0_1, .int .i64 a0_2, .int .i64 a0_3, .bool true, .string a0_5] 62 (0, 0))) ∧ (Below w.heap.size w w')) ?_ ?_
           rotate_left
           ·intro hJ6_7
            refine join_ (σ := Value) 6 #[true, true, true, true, true, true, true, false, true, true, true, false, true, true, true, true, true, false, false, false, false] (fun s_ => [(12, s_), (16, .string t146)]) (fun s_ w' => (w'.cell? ⟨gb142, 0, none⟩ = some (.int .i64 a0_0) ∧ w'.cell? ⟨gb142, 1, none⟩ = some (.int .i64 a0_1) ∧ w'.cell? ⟨gb142, 2, none⟩ = some (.int .i64 a0_2) ∧ w'.cell? ⟨gb142, 3, none⟩ = some (.int .i64 a0_3) ∧ w'.cell? ⟨gb142, 4, none⟩ = some (.bool true) ∧ w'.cell? ⟨gb142, 5, none⟩ = some (.string a0_5)) ∧ (Kd.R (Kd.int .u8) 5 w' w.heap.size (fun _ => True) s_ y143) ∧ (w'.heap[gb142]? = some (.cells #[.int .i64 a0_0, .int .i64 a0_1, .int .i64 a0_2, .int .i64 a0_3, .bool true, .string a0_5] 62 (0, 0))) ∧ (Below w.heap.size w w')) ?_ ?_
            rotate_left
            ·intro hJ6_10
             refine join_ (σ := Value × Value) 6 #[true, true, true, true, true, true, true, false, true, true, false, false, true, true, true, true, true, true, false, false, false] (fun s_ => [(12, s_.1), (23, s_.2)]) (fun s_ w' => (w'.cell? ⟨gb142, 0, none⟩ = some (.int .i64 a0_0) ∧ w'.cell? ⟨gb142, 1, none⟩ = some (.int .i64 a0_1) ∧ w'.cell? ⟨gb142, 2, none⟩ = some (.int .i64 a0_2) ∧ w'.cell? ⟨gb142, 3, none⟩ = some (.int .i64 a0_3) ∧ w'.cell? ⟨gb142, 4, none⟩ = some (.bool true) ∧ w'.cell? ⟨gb142, 5, none⟩ = some (.string a0_5)) ∧ (Kd.R (Kd.int .u8) 5 w' w.heap.size (fun k_ => some k_ ≠ (s_.2 : Value).ownBlock) s_.1 y143) ∧ (Kd.R (Kd.int .u8) 5 w' w.heap.size (fun k_ => some k_ ≠ (s_.1 : Value).ownBlock) s_.2 y147) ∧ (w'.heap[gb142]? = some (.cells #[.int .i64 a0_0, .int .i64 a0_1, .int .i64 a0_2, .int .i64 a0_3, .bool true, .string a0_5] 62 (0, 0))) ∧ (Below w.heap.size w w')) ?_ ?_
             rotate_left
             ·intro hJ6_17
              refine join_ (σ := Value) 6 #[true, true, true, true, true, true, false, false, true, true, true, false, true, true, true, true, true, true, false, false, false] (fun s_ => [(16, .string t146), (23, s_)]) (fun s_ w' => (w'.cell? ⟨gb142, 0, none⟩ = some (.int .i64 a0_0) ∧ w'.cell? ⟨gb142, 1, none⟩ = some (.int .i64 a0_1) ∧ w'.cell? ⟨gb142, 2, none⟩ = some (.int .i64 a0_2) ∧ w'.cell? ⟨gb142, 3, none⟩ = some (.int .i64 a0_3) ∧ w'.cell? ⟨gb142, 4, none⟩ = some (.bool true) ∧ w'.cell? ⟨gb142, 5, none⟩ = some (.string a0_5)) ∧ (Kd.R (Kd.int .u8) 5 w' w.heap.size (fun _ => True) s_ y147) ∧ (w'.heap[gb142]? = some (.cells #[.int .i64 a0_0, .int .i64 a0_1, .int .i64 a0_2, .int .i64 a0_3, .bool true, .string a0_5] 62 (0, 0))) ∧ (Below w.heap.size w w')) ?_ ?_
              rotate_left
              ·intro hJ10_17
               refine join_ (σ := Value) 6 #[true, true, true, true, true, true, false, false, true, true, false, false, true, true, true, true, true, true, true, false, false] (fun s_ => [(23, s_), (24, .string (strOfNums y147))]) (fun s_ w' => (w'.cell? ⟨gb142, 0, none⟩ = some (.int .i64 a0_0) ∧ w'.cell? ⟨gb142, 1, none⟩ = some (.int .i64 a0_1) ∧ w'.cell? ⟨gb142, 2, none⟩ = some (.int .i64 a0_2) ∧ w'.cell? ⟨gb142, 3, none⟩ = some (.int .i64 a0_3) ∧ w'.cell? ⟨gb142, 4, none⟩ = some (.bool true) ∧ w'.cell? ⟨gb142, 5, none⟩ = some (.string a0_5)) ∧ (Kd.R (Kd.int .u8) 5 w' w.heap.size (fun _ => True) s_ y147) ∧ (w'.heap[gb142]? = some (.cells #[.int .i64 a0_0, .int .i64 a0_1, .int .i64 a0_2, .int .i64 a0_3, .bool true, .string a0_5] 62 (0, 0))) ∧ (Below w.heap.size w w')) ?_ ?_
               rotate_left
               ·intro hJ17_18
                refine join_ (σ := Value) 7 #[true, true, true, true, true, true, true, false, true, true, false, false, true, true, true, true, true, false, false, false, false] (fun s_ => [(12, s_)]) (fun s_ w' => (w'.cell? ⟨gb142, 0, none⟩ = some (.int .i64 a0_0) ∧ w'.cell? ⟨gb142, 1, none⟩ = some (.int .i64 a0_1) ∧ w'.cell? ⟨gb142, 2, none⟩ = some (.int .i64 a0_2) ∧ w'.cell? ⟨gb142, 3, none⟩ = some (.int .i64 a0_3) ∧ w'.cell? ⟨gb142, 4, none⟩ = some (.bool true) ∧ w'.cell? ⟨gb142, 5, none⟩ = some (.string a0_5)) ∧ (Kd.R (Kd.int .u8) 5 w' w.heap.size (fun _ => True) s_ y143) ∧ (w'.heap[gb142]? = some (.cells #[.int .i64 a0_0, .int .i64 a0_1, .int .i64 a0_2, .int .i64 a0_3, .bool true, .string a0_5] 62 (0, 0))) ∧ (Below w.heap.size w w')) ?_ ?_
                rotate_left
                ·intro hJ6
                 refine join_ (σ := Unit) 7 #[true, true, true, true, true, true, false, false, true, true, true, false, true, true, true, true, true, false, false, false, false] (fun s_ => [(16, .string t146)]) (fun s_ w' => (w'.cell? ⟨gb142, 0, none⟩ = some (.int .i64 a0_0) ∧ w'.cell? ⟨gb142, 1, none⟩ = some (.int .i64 a0_1) ∧ w'.cell? ⟨gb142, 2, none⟩ = some (.int .i64 a0_2) ∧ w'.cell? ⟨gb142, 3, none⟩ = some (.int .i64 a0_3) ∧ w'.cell? ⟨gb142, 4, none⟩ = some (.bool true) ∧ w'.cell? ⟨gb142, 5, none⟩ = some (.string a0_5)) ∧ (w'.heap[gb142]? = some (.cells #[.int .i64 a0_0, .int .i64 a0_1, .int .i64 a0_2, .int .i64 a0_3, .bool true, .string a0_5] 62 (0, 0))) ∧ (Below w.heap.size w w')) ?_ ?_
                 rotate_left
                 ·intro hJ10
                  refine join_ (σ := Value) 7 #[true, true, true, true, true, true, false, false, true, true, false, false, true, true, true, true, true, true, false, false, false] (fun s_ => [(23, s_)]) (fun s_ w' => (w'.cell? ⟨gb142, 0, none⟩ = some (.int .i64 a0_0) ∧ w'.cell? ⟨gb142, 1, none⟩ = some (.int .i64 a0_1) ∧ w'.cell? ⟨gb142, 2, none⟩ = some (.int .i64 a0_2) ∧ w'.cell? ⟨gb142, 3, none⟩ = some (.int .i64 a0_3) ∧ w'.cell? ⟨gb142, 4, none⟩ = some (.bool true) ∧ w'.cell? ⟨gb142, 5, none⟩ = some (.string a0_5)) ∧ (Kd.R (Kd.int .u8) 5 w' w.heap.size (fun _ => True) s_ y147) ∧ (w'.heap[gb142]? = some (.cells #[.int .i64 a0_0, .int .i64 a0_1, .int .i64 a0_2, .int .i64 a0_3, .bool true, .string a0_5] 62 (0, 0))) ∧ (Below w.heap.size w w')) ?_ ?_
                  rotate_left
                  ·intro hJ17
                   refine three_ (i := 6) (j := 10) (k := 17) (Ni := some 12) (Nj := some 16) (Nk := some 23) #[true, true, true, true, true, true, true, false, true, true, false, false, true, true, true, true, true, false, false, false, false] #[true, true, true, true, true, true, false, false, true, true, true, false, true, true, true, true, true, false, false, false, false] #[true, true, true, true, true, true, false, false, true, true, false, false, true, true, true, true, true, true, false, false, false] rfl rfl rfl rfl rfl rfl (three_of HT_.out B4x17_) (by decide) (by decide) (by decide) (fun K hK => ?_) (fun K hK => ?_) (fun K hK => ?_)
                   ·skip
                    refine Kd.R_lit_step (Kd.int .u8) _ 5 ?hg (N := 12) ?hd (xs := ([(a0_0) % 256, (a0_1) % 256] : List Int)) (inner := [.int .u8 ((a0_0) % 256), .int .u8 ((a0_1) % 256)]) (ok := fun _ => True) (okp := fun _ => True) ?hr ?hp (fun _ hk => hk) trivial (Below.refl _ _) (Nat.le_refl _) (by simp) ?_; (case hd => rfl); (case hg => rfl); (case hr => exact B4x11_); (case hp => exact B4x8_)
                    intro v144 w9 ho10 hb hg_ hnew_
                    clear hg_ hnew_
                    (first | rw [← Ny143.out] at ho10 | (simp only [Int.reduceToNat] at ho10; rw [← Ny143.out] at ho10))
                    have HO145 := Aside0.mk (Kd.R_lower ho10 (below_size B4x0_))
                    replace BK142 := Aside0.mk (blk_below (g := gb142) (o := .cells #[.int .i64 a0_0, .int .i64 a0_1, .int .i64 a0_2, .int .i64 a0_3, .bool true, .string a0_5] 62 (0, 0)) B4x2_ hb)
                    replace HB := Aside0.mk (below_step B4x0_ hb)
                    clear hb ho10
                    refine hK.out _ _ ⟨(blk_cell BK142.out 0).trans rfl, (blk_cell BK142.out 1).trans rfl, (blk_cell BK142.out 2).trans rfl, (blk_cell BK142.out 3).trans rfl, (blk_cell BK142.out 4).trans rfl, (blk_cell BK142.out 5).trans rfl⟩ (fun hHeld => ?_)
                    clear hK K
                    refine norm_ (a' := ?_) ?_ ?_
                    rotate_left
                    ·show Act.put _ (some 12) _ = _
                     simp only [Act.put, List.setIfInBounds_toArray, List.set_cons_zero, List.set_cons_succ, i64_w, i32_w]
                     rfl
                    exact norm_ B4x1_ (hJ6 (v144) _ ⟨hHeld, B4x3_, B4x2_, B4x0_⟩)
                   ·skip
                    refine goes_ Try.func118 B4x17_ rfl #[.int .i64 a0_2] (by rfl) rfl rfl B4x7_ ?_
                    with_reducible refine (spec_l11Two.calls a0_2 t146 _ A3.out).mono ?_
                    rintro e w9 ⟨rfl, hb⟩
                    refine ⟨_, rfl, ?_⟩
                    replace BK142 := Aside0.mk (blk_below (g := gb142) (o := .cells #[.int .i64 a0_0, .int .i64 a0_1, .int .i64 a0_2, .int .i64 a0_3, .bool true, .string a0_5] 62 (0, 0)) B4x2_ hb)
                    replace HB := Aside0.mk (below_step B4x0_ hb)
                    (try clear hb)
                    (try clear hb2)
                    (try clear hk)
                    (try clear hi)
                    refine hK.out _ _ ⟨(blk_cell BK142.out 0).trans rfl, (blk_cell BK142.out 1).trans rfl, (blk_cell BK142.out 2).trans rfl, (blk_cell BK142.out 3).trans rfl, (blk_cell BK142.out 4).trans rfl, (blk_cell BK142.out 5).trans rfl⟩ (fun hHeld => ?_)
                    clear hK K
                    refine norm_ (a' := ?_) ?_ ?_
                    rotate_left
                    ·show Act.put _ (some 16) _ = _
                     simp only [Act.put, List.setIfInBounds_toArray, List.set_cons_zero, List.set_cons_succ, i64_w, i32_w]
                     rfl
                    exact norm_ B4x1_ (hJ10 () _ ⟨hHeld, B4x2_, B4x0_⟩)
                   ·skip
                    refine Kd.R_lit_step (Kd.int .u8) _ 5 ?hg (N := 23) ?hd (xs := ([(wrap64 (Int.tdiv a0_3 8)) % 256, 1] : List Int)) (inner := [.int .u8 ((wrap64 (Int.tdiv a0_3 8)) % 256), .int .u8 1]) (ok := fun _ => True) (okp := fun _ => True) ?hr ?hp (fun _ hk => hk) trivial (Below.refl _ _) (Nat.le_refl _) (by simp) ?_; (case hd => rfl); (case hg => rfl); (case hr => exact B4x11_); (case hp => exact B4x10_)
                    intro v148 w9 ho10 hb hg_ hnew_
                    clear hg_ hnew_
                    (first | rw [← Ny147.out] at ho10 | (simp only [Int.reduceToNat] at ho10; rw [← Ny147.out] at ho10))
                    have HO149 := Aside0.mk (Kd.R_lower ho10 (below_size B4x0_))
                    replace BK142 := Aside0.mk (blk_below (g := gb142) (o := .cells #[.int .i64 a0_0, .int .i64 a0_1, .int .i64 a0_2, .int .i64 a0_3, .bool true, .string a0_5] 62 (0, 0)) B4x2_ hb)
                    replace HB := Aside0.mk (below_step B4x0_ hb)
                    clear hb ho10
                    refine hK.out _ _ ⟨(blk_cell BK142.out 0).trans rfl, (blk_cell BK142.out 1).trans rfl, (blk_cell BK142.out 2).trans rfl, (blk_cell BK142.out 3).trans rfl, (blk_cell BK142.out 4).trans rfl, (blk_cell BK142.out 5).trans rfl⟩ (fun hHeld => ?_)
                    clear hK K
                    refine norm_ (a' := ?_) ?_ ?_
                    rotate_left
                    ·show Act.put _ (some 23) _ = _
                     simp only [Act.put, List.setIfInBounds_toArray, List.set_cons_zero, List.set_cons_succ, i64_w, i32_w]
                     rfl
                    exact norm_ B4x1_ (hJ17 (v148) _ ⟨hHeld, B4x4_, B4x2_, B4x0_⟩)
                  ·skip
                   rintro v148 w11 ⟨hS_, h0_, h1_, h2_⟩
                   have n0_ : Aside0 (Kd.R (Kd.int .u8) 5 w11 w.heap.size (fun _ => True) v148 y147) := ⟨h0_⟩
                   have n1_ : Aside0 (w11.heap[gb142]? = some (.cells #[.int .i64 a0_0, .int .i64 a0_1, .int .i64 a0_2, .int .i64 a0_3, .bool true, .string a0_5] 62 (0, 0))) := ⟨h1_⟩
                   have n2_ : Aside0 (Below w.heap.size w w11) := ⟨h2_⟩
                   clear BK142
                   clear HB
                   clear h0_ h1_ h2_
                   have HO149 := n0_
                   have BK142 := n1_
                   have HB := n2_
                   clear n0_ n1_ n2_
                   have hHeld : w11.cell? ⟨gb142, 0, none⟩ = some (.int .i64 a0_0) ∧ w11.cell? ⟨gb142, 1, none⟩ = some (.int .i64 a0_1) ∧ w11.cell? ⟨gb142, 2, none⟩ = some (.int .i64 a0_2) ∧ w11.cell? ⟨gb142, 3, none⟩ = some (.int .i64 a0_3) ∧ w11.cell? ⟨gb142, 4, none⟩ = some (.bool true) ∧ w11.cell? ⟨gb142, 5, none⟩ = some (.string a0_5) := hS_
                   refine norm_ (a' := ?_) ?_ ?_
                   rotate_left
                   ·simp only [putAll, Act.put, List.setIfInBounds_toArray, List.set_cons_zero, List.set_cons_succ]
                    rfl
                   refine three_ (i := 6) (j := 10) (k := 18) (Ni := some 12) (Nj := some 16) (Nk := some 24) #[true, true, true, true, true, true, true, false, true, true, false, false, true, true, true, true, true, true, false, false, false] #[true, true, true, true, true, true, false, false, true, true, true, false, true, true, true, true, true, true, false, false, false] #[true, true, true, true, true, true, false, false, true, true, false, false, true, true, true, true, true, true, true, false, false] rfl rfl rfl rfl rfl rfl (three_of HT_.out B4x17_) (by decide) (by decide) (by decide) (fun K hK => ?_) (fun K hK => ?_) (fun K hK => ?_)
                   ·skip
                    refine Kd.R_lit_step (Kd.int .u8) _ 5 ?hg (N := 12) ?hd (xs := ([(a0_0) % 256, (a0_1) % 256] : List Int)) (inner := [.int .u8 ((a0_0) % 256), .int .u8 ((a0_1) % 256)]) (ok := fun _ => True) (okp := fun _ => True) ?hr ?hp (fun _ hk => hk) trivial (Below.refl _ _) (Nat.le_refl _) (by simp) ?_; (case hd => rfl); (case hg => rfl); (case hr => exact B4x11_); (case hp => exact B4x8_)
                    intro v144 w12 ho13 hb hg_ hnew_
                    clear hg_ hnew_
                    (first | rw [← Ny143.out] at ho13 | (simp only [Int.reduceToNat] at ho13; rw [← Ny143.out] at ho13))
                    have HO145 := Aside0.mk (Kd.R_lower (Kd.R_new' ho13 (Kd.R_lt B4x4_)) (below_size B4x0_))
                    replace HO149 := Aside0.mk (Kd.R_elder' B4x4_ (Kd.R_base ho13) hb)
                    replace BK142 := Aside0.mk (blk_below (g := gb142) (o := .cells #[.int .i64 a0_0, .int .i64 a0_1, .int .i64 a0_2, .int .i64 a0_3, .bool true, .string a0_5] 62 (0, 0)) B4x2_ hb)
                    replace HB := Aside0.mk (below_step B4x0_ hb)
                    clear hb ho13
                    refine hK.out _ _ ⟨(blk_cell BK142.out 0).trans rfl, (blk_cell BK142.out 1).trans rfl, (blk_cell BK142.out 2).trans rfl, (blk_cell BK142.out 3).trans rfl, (blk_cell BK142.out 4).trans rfl, (blk_cell BK142.out 5).trans rfl⟩ (fun hHeld => ?_)
                    clear hK K
                    refine norm_ (a' := ?_) ?_ ?_
                    rotate_left
                    ·show Act.put _ (some 12) _ = _
                     simp only [Act.put, List.setIfInBounds_toArray, List.set_cons_zero, List.set_cons_succ, i64_w, i32_w]
                     rfl
                    exact norm_ B4x1_ (hJ6_17 (v144, v148) _ ⟨hHeld, B4x12_, B4x13_, B4x2_, B4x0_⟩)
                   ·skip
                    refine goes_ Try.func118 B4x17_ rfl #[.int .i64 a0_2] (by rfl) rfl rfl B4x7_ ?_
                    with_reducible refine (spec_l11Two.calls a0_2 t146 _ A3.out).mono ?_
                    rintro e w12 ⟨rfl, hb⟩
                    refine ⟨_, rfl, ?_⟩
                    replace HO149 := Aside0.mk (Kd.R_below B4x4_ hb)
                    replace BK142 := Aside0.mk (blk_below (g := gb142) (o := .cells #[.int .i64 a0_0, .int .i64 a0_1, .int .i64 a0_2, .int .i64 a0_3, .bool true, .string a0_5] 62 (0, 0)) B4x2_ hb)
                    replace HB := Aside0.mk (below_step B4x0_ hb)
                    (try clear hb)
                    (try clear hb2)
                    (try clear hk)
                    (try clear hi)
                    refine hK.out _ _ ⟨(blk_cell BK142.out 0).trans rfl, (blk_cell BK142.out 1).trans rfl, (blk_cell BK142.out 2).trans rfl, (blk_cell BK142.out 3).trans rfl, (blk_cell BK142.out 4).trans rfl, (blk_cell BK142.out 5).trans rfl⟩ (fun hHeld => ?_)
                    clear hK K
                    refine norm_ (a' := ?_) ?_ ?_
                    rotate_left
                    ·show Act.put _ (some 16) _ = _
                     simp only [Act.put, List.setIfInBounds_toArray, List.set_cons_zero, List.set_cons_succ, i64_w, i32_w]
                     rfl
                    exact norm_ B4x1_ (hJ10_17 (v148) _ ⟨hHeld, B4x4_, B4x2_, B4x0_⟩)
                   ·skip
                    have hcv12 := own_string (P := Try.prog) Try.underlying59 Try.underlying5 Try.underlying9 (Kd.own_of_R HO149.out)
                    refine value_ (w1 := ?_) (v := ?_) (by rfl) rfl ?_ ?_
                    rotate_left 2
                    ·go_simp
                     constructor
                     ·rfl
                     ·rfl
                    clear hcv12
                    refine hK.out _ _ ⟨(blk_cell BK142.out 0).trans rfl, (blk_cell BK142.out 1).trans rfl, (blk_cell BK142.out 2).trans rfl, (blk_cell BK142.out 3).trans rfl, (blk_cell BK142.out 4).trans rfl, (blk_cell BK142.out 5).trans rfl⟩ (fun hHeld => ?_)
                    clear hK K
                    refine norm_ (a' := ?_) ?_ ?_
                    rotate_left
                    ·show Act.put _ (some 24) _ = _
                     simp only [Act.put, List.setIfInBounds_toArray, List.set_cons_zero, List.set_cons_succ, i64_w, i32_w]
                     rfl
                    exact norm_ B4x1_ (hJ17_18 (v148) _ ⟨hHeld, B4x4_, B4x2_, B4x0_⟩)
                 ·skip
                  rintro _ w10 ⟨hS_, h0_, h1_⟩
                  have n0_ : Aside0 (w10.heap[gb142]? = some (.cells #[.int .i64 a0_0, .int .i64 a0_1, .int .i64 a0_2, .int .i64 a0_3, .bool true, .string a0_5] 62 (0, 0))) := ⟨h0_⟩
                  have n1_ : Aside0 (Below w.heap.size w w10) := ⟨h1_⟩
                  clear BK142
                  clear HB
                  clear h0_ h1_
                  have BK142 := n0_
                  have HB := n1_
                  clear n0_ n1_
                  have hHeld : w10.cell? ⟨gb142, 0, none⟩ = some (.int .i64 a0_0) ∧ w10.cell? ⟨gb142, 1, none⟩ = some (.int .i64 a0_1) ∧ w10.cell? ⟨gb142, 2, none⟩ = some (.int .i64 a0_2) ∧ w10.cell? ⟨gb142, 3, none⟩ = some (.int .i64 a0_3) ∧ w10.cell? ⟨gb142, 4, none⟩ = some (.bool true) ∧ w10.cell? ⟨gb142, 5, none⟩ = some (.string a0_5) := hS_
                  refine norm_ (a' := ?_) ?_ ?_
                  rotate_left
                  ·simp only [putAll, Act.put, List.setIfInBounds_toArray, List.set_cons_zero, List.set_cons_succ]
                   rfl
                  refine two_ (i := 6) (j := 17) (Ni := some 12) (Nj := some 23) #[true, true, true, true, true, true, true, false, true, true, true, false, true, true, true, true, true, false, false, false, false] #[true, true, true, true, true, true, false, false, true, true, true, false, true, true, true, true, true, true, false, false, false] rfl rfl rfl rfl (two_of HT_.out B4x17_) (by decide) (by decide) (fun K hK => ?_) (fun K hK => ?_)
                  ·skip
                   refine Kd.R_lit_step (Kd.int .u8) _ 5 ?hg (N := 12) ?hd (xs := ([(a0_0) % 256, (a0_1) % 256] : List Int)) (inner := [.int .u8 ((a0_0) % 256), .int .u8 ((a0_1) % 256)]) (ok := fun _ => True) (okp := fun _ => True) ?hr ?hp (fun _ hk => hk) trivial (Below.refl _ _) (Nat.le_refl _) (by simp) ?_; (case hd => rfl); (case hg => rfl); (case hr => exact B4x11_); (case hp => exact B4x8_)
                   intro v144 w11 ho12 hb hg_ hnew_
                   clear hg_ hnew_
                   (first | rw [← Ny143.out] at ho12 | (simp only [Int.reduceToNat] at ho12; rw [← Ny143.out] at ho12))
                   have HO145 := Aside0.mk (Kd.R_lower ho12 (below_size B4x0_))
                   replace BK142 := Aside0.mk (blk_below (g := gb142) (o := .cells #[.int .i64 a0_0, .int .i64 a0_1, .int .i64 a0_2, .int .i64 a0_3, .bool true, .string a0_5] 62 (0, 0)) B4x2_ hb)
                   replace HB := Aside0.mk (below_step B4x0_ hb)
                   clear hb ho12
                   refine hK.out _ _ ⟨(blk_cell BK142.out 0).trans rfl, (blk_cell BK142.out 1).trans rfl, (blk_cell BK142.out 2).trans rfl, (blk_cell BK142.out 3).trans rfl, (blk_cell BK142.out 4).trans rfl, (blk_cell BK142.out 5).trans rfl⟩ (fun hHeld => ?_)
                   clear hK K
                   refine norm_ (a' := ?_) ?_ ?_
                   rotate_left
                   ·show Act.put _ (some 12) _ = _
                    simp only [Act.put, List.setIfInBounds_toArray, List.set_cons_zero, List.set_cons_succ, i64_w, i32_w]
                    rfl
                   exact norm_ B4x1_ (hJ6_10 (v144) _ ⟨hHeld, B4x3_, B4x2_, B4x0_⟩)
                  ·skip
                   refine Kd.R_lit_step (Kd.int .u8) _ 5 ?hg (N := 23) ?hd (xs := ([(wrap64 (Int.tdiv a0_3 8)) % 256, 1] : List Int)) (inner := [.int .u8 ((wrap64 (Int.tdiv a0_3 8)) % 256), .int .u8 1]) (ok := fun _ => True) (okp := fun _ => True) ?hr ?hp (fun _ hk => hk) trivial (Below.refl _ _) (Nat.le_refl _) (by simp) ?_; (case hd => rfl); (case hg => rfl); (case hr => exact B4x11_); (case hp => exact B4x10_)
                   intro v148 w11 ho12 hb hg_ hnew_
                   clear hg_ hnew_
                   (first | rw [← Ny147.out] at ho12 | (simp only [Int.reduceToNat] at ho12; rw [← Ny147.out] at ho12))
                   have HO149 := Aside0.mk (Kd.R_lower ho12 (below_size B4x0_))
                   replace BK142 := Aside0.mk (blk_below (g := gb142) (o := .cells #[.int .i64 a0_0, .int .i64 a0_1, .int .i64 a0_2, .int .i64 a0_3, .bool true, .string a0_5] 62 (0, 0)) B4x2_ hb)
                   replace HB := Aside0.mk (below_step B4x0_ hb)
                   clear hb ho12
                   refine hK.out _ _ ⟨(blk_cell BK142.out 0).trans rfl, (blk_cell BK142.out 1).trans rfl, (blk_cell BK142.out 2).trans rfl, (blk_cell BK142.out 3).trans rfl, (blk_cell BK142.out 4).trans rfl, (blk_cell BK142.out 5).trans rfl⟩ (fun hHeld => ?_)
                   clear hK K
                   refine norm_ (a' := ?_) ?_ ?_
                   rotate_left
                   ·show Act.put _ (some 23) _ = _
                    simp only [Act.put, List.setIfInBounds_toArray, List.set_cons_zero, List.set_cons_succ, i64_w, i32_w]
                    rfl
                   exact norm_ B4x1_ (hJ10_17 (v148) _ ⟨hHeld, B4x4_, B4x2_, B4x0_⟩)
                ·skip
                 rintro v144 w11 ⟨hS_, h0_, h1_, h2_⟩
                 have n0_ : Aside0 (Kd.R (Kd.int .u8) 5 w11 w.heap.size (fun _ => True) v144 y143) := ⟨h0_⟩
                 have n1_ : Aside0 (w11.heap[gb142]? = some (.cells #[.int .i64 a0_0, .int .i64 a0_1, .int .i64 a0_2, .int .i64 a0_3, .bool true, .string a0_5] 62 (0, 0))) := ⟨h1_⟩
                 have n2_ : Aside0 (Below w.heap.size w w11) := ⟨h2_⟩
                 clear BK142
                 clear HB
                 clear h0_ h1_ h2_
                 have HO145 := n0_
                 have BK142 := n1_
                 have HB := n2_
                 clear n0_ n1_ n2_
                 have hHeld : w11.cell? ⟨gb142, 0, none⟩ = some (.int .i64 a0_0) ∧ w11.cell? ⟨gb142, 1, none⟩ = some (.int .i64 a0_1) ∧ w11.cell? ⟨gb142, 2, none⟩ = some (.int .i64 a0_2) ∧ w11.cell? ⟨gb142, 3, none⟩ = some (.int .i64 a0_3) ∧ w11.cell? ⟨gb142, 4, none⟩ = some (.bool true) ∧ w11.cell? ⟨gb142, 5, none⟩ = some (.string a0_5) := hS_
                 refine norm_ (a' := ?_) ?_ ?_
                 rotate_left
                 ·simp only [putAll, Act.put, List.setIfInBounds_toArray, List.set_cons_zero, List.set_cons_succ]
                  rfl
                 refine three_ (i := 7) (j := 10) (k := 17) (Ni := some 13) (Nj := some 16) (Nk := some 23) #[true, true, true, true, true, true, true, true, true, true, false, false, true, true, true, true, true, false, false, false, false] #[true, true, true, true, true, true, true, false, true, true, true, false, true, true, true, true, true, false, false, false, false] #[true, true, true, true, true, true, true, false, true, true, false, false, true, true, true, true, true, true, false, false, false] rfl rfl rfl rfl rfl rfl (three_of HT_.out B4x17_) (by decide) (by decide) (by decide) (fun K hK => ?_) (fun K hK => ?_) (fun K hK => ?_)
                 ·skip
                  have hcv12 := own_string (P := Try.prog) Try.underlying59 Try.underlying5 Try.underlying9 (Kd.own_of_R HO145.out)
                  refine value_ (w1 := ?_) (v := ?_) (by rfl) rfl ?_ ?_
                  rotate_left 2
                  ·go_simp
                   constructor
                   ·rfl
                   ·rfl
                  clear hcv12
                  refine hK.out _ _ ⟨(blk_cell BK142.out 0).trans rfl, (blk_cell BK142.out 1).trans rfl, (blk_cell BK142.out 2).trans rfl, (blk_cell BK142.out 3).trans rfl, (blk_cell BK142.out 4).trans rfl, (blk_cell BK142.out 5).trans rfl⟩ (fun hHeld => ?_)
                  clear hK K
                  refine norm_ (a' := ?_) ?_ ?_
                  rotate_left
                  ·show Act.put _ (some 13) _ = _
                   simp only [Act.put, List.setIfInBounds_toArray, List.set_cons_zero, List.set_cons_succ, i64_w, i32_w]
                   rfl
                  exact norm_ B4x1_ (hJ6_7 (v144) _ ⟨hHeld, B4x3_, B4x2_, B4x0_⟩)
                 ·skip
                  refine goes_ Try.func118 B4x17_ rfl #[.int .i64 a0_2] (by rfl) rfl rfl B4x7_ ?_
                  with_reducible refine (spec_l11Two.calls a0_2 t146 _ A3.out).mono ?_
                  rintro e w12 ⟨rfl, hb⟩
                  refine ⟨_, rfl, ?_⟩
                  replace HO145 := Aside0.mk (Kd.R_below B4x3_ hb)
                  replace BK142 := Aside0.mk (blk_below (g := gb142) (o := .cells #[.int .i64 a0_0, .int .i64 a0_1, .int .i64 a0_2, .int .i64 a0_3, .bool true, .string a0_5] 62 (0, 0)) B4x2_ hb)
                  replace HB := Aside0.mk (below_step B4x0_ hb)
                  (try clear hb)
                  (try clear hb2)
                  (try clear hk)
                  (try clear hi)
                  refine hK.out _ _ ⟨(blk_cell BK142.out 0).trans rfl, (blk_cell BK142.out 1).trans rfl, (blk_cell BK142.out 2).trans rfl, (blk_cell BK142.out 3).trans rfl, (blk_cell BK142.out 4).trans rfl, (blk_cell BK142.out 5).trans rfl⟩ (fun hHeld => ?_)
                  clear hK K
                  refine norm_ (a' := ?_) ?_ ?_
                  rotate_left
                  ·show Act.put _ (some 16) _ = _
                   simp only [Act.put, List.setIfInBounds_toArray, List.set_cons_zero, List.set_cons_succ, i64_w, i32_w]
                   rfl
                  exact norm_ B4x1_ (hJ6_10 (v144) _ ⟨hHeld, B4x3_, B4x2_, B4x0_⟩)
                 ·skip
                  refine Kd.R_lit_step (Kd.int .u8) _ 5 ?hg (N := 23) ?hd (xs := ([(wrap64 (Int.tdiv a0_3 8)) % 256, 1] : List Int)) (inner := [.int .u8 ((wrap64 (Int.tdiv a0_3 8)) % 256), .int .u8 1]) (ok := fun _ => True) (okp := fun _ => True) ?hr ?hp (fun _ hk => hk) trivial (Below.refl _ _) (Nat.le_refl _) (by simp) ?_; (case hd => rfl); (case hg => rfl); (case hr => exact B4x11_); (case hp => exact B4x10_)
                  intro v148 w12 ho13 hb hg_ hnew_
                  clear hg_ hnew_
                  (first | rw [← Ny147.out] at ho13 | (simp only [Int.reduceToNat] at ho13; rw [← Ny147.out] at ho13))
                  have HO149 := Aside0.mk (Kd.R_lower (Kd.R_new' ho13 (Kd.R_lt B4x3_)) (below_size B4x0_))
                  replace HO145 := Aside0.mk (Kd.R_elder' B4x3_ (Kd.R_base ho13) hb)
                  replace BK142 := Aside0.mk (blk_below (g := gb142) (o := .cells #[.int .i64 a0_0, .int .i64 a0_1, .int .i64 a0_2, .int .i64 a0_3, .bool true, .string a0_5] 62 (0, 0)) B4x2_ hb)
                  replace HB := Aside0.mk (below_step B4x0_ hb)
                  clear hb ho13
                  refine hK.out _ _ ⟨(blk_cell BK142.out 0).trans rfl, (blk_cell BK142.out 1).trans rfl, (blk_cell BK142.out 2).trans rfl, (blk_cell BK142.out 3).trans rfl, (blk_cell BK142.out 4).trans rfl, (blk_cell BK142.out 5).trans rfl⟩ (fun hHeld => ?_)
                  clear hK K
                  refine norm_ (a' := ?_) ?_ ?_
                  rotate_left
                  ·show Act.put _ (some 23) _ = _
                   simp only [Act.put, List.setIfInBounds_toArray, List.set_cons_zero, List.set_cons_succ, i64_w, i32_w]
                   rfl
                  exact norm_ B4x1_ (hJ6_17 (v144, v148) _ ⟨hHeld, B4x12_, B4x13_, B4x2_, B4x0_⟩)
               ·skip
                rintro v148 w12 ⟨hS_, h0_, h1_, h2_⟩
                have n0_ : Aside0 (Kd.R (Kd.int .u8) 5 w12 w.heap.size (fun _ => True) v148 y147) := ⟨h0_⟩
                have n1_ : Aside0 (w12.heap[gb142]? = some (.cells #[.int .i64 a0_0, .int .i64 a0_1, .int .i64 a0_2, .int .i64 a0_3, .bool true, .string a0_5] 62 (0, 0))) := ⟨h1_⟩
                have n2_ : Aside0 (Below w.heap.size w w12) := ⟨h2_⟩
                clear BK142
                clear HB
                clear h0_ h1_ h2_
                have HO149 := n0_
                have BK142 := n1_
                have HB := n2_
                clear n0_ n1_ n2_
                have hHeld : w12.cell? ⟨gb142, 0, none⟩ = some (.int .i64 a0_0) ∧ w12.cell? ⟨gb142, 1, none⟩ = some (.int .i64 a0_1) ∧ w12.cell? ⟨gb142, 2, none⟩ = some (.int .i64 a0_2) ∧ w12.cell? ⟨gb142, 3, none⟩ = some (.int .i64 a0_3) ∧ w12.cell? ⟨gb142, 4, none⟩ = some (.bool true) ∧ w12.cell? ⟨gb142, 5, none⟩ = some (.string a0_5) := hS_
                refine norm_ (a' := ?_) ?_ ?_
                rotate_left
                ·simp only [putAll, Act.put, List.setIfInBounds_toArray, List.set_cons_zero, List.set_cons_succ]
                 rfl
                refine two_ (i := 6) (j := 10) (Ni := some 12) (Nj := some 16) #[true, true, true, true, true, true, true, false, true, true, false, false, true, true, true, true, true, true, true, false, false] #[true, true, true, true, true, true, false, false, true, true, true, false, true, true, true, true, true, true, true, false, false] rfl rfl rfl rfl (two_of HT_.out B4x17_) (by decide) (by decide) (fun K hK => ?_) (fun K hK => ?_)
                ·skip
                 refine Kd.R_lit_step (Kd.int .u8) _ 5 ?hg (N := 12) ?hd (xs := ([(a0_0) % 256, (a0_1) % 256] : List Int)) (inner := [.int .u8 ((a0_0) % 256), .int .u8 ((a0_1) % 256)]) (ok := fun _ => True) (okp := fun _ => True) ?hr ?hp (fun _ hk => hk) trivial (Below.refl _ _) (Nat.le_refl _) (by simp) ?_; (case hd => rfl); (case hg => rfl); (case hr => exact B4x11_); (case hp => exact B4x8_)
                 intro v144 w13 ho14 hb hg_ hnew_
                 clear hg_ hnew_
                 (first | rw [← Ny143.out] at ho14 | (simp only [Int.reduceToNat] at ho14; rw [← Ny143.out] at ho14))
                 have HO145 := Aside0.mk (Kd.R_lower (Kd.R_new' ho14 (Kd.R_lt B4x4_)) (below_size B4x0_))
                 replace HO149 := Aside0.mk (Kd.R_elder' B4x4_ (Kd.R_base ho14) hb)
                 replace BK142 := Aside0.mk (blk_below (g := gb142) (o := .cells #[.int .i64 a0_0, .int .i64 a0_1, .int .i64 a0_2, .int .i64 a0_3, .bool true, .string a0_5] 62 (0, 0)) B4x2_ hb)
                 replace HB := Aside0.mk (below_step B4x0_ hb)
                 clear hb ho14
                 refine hK.out _ _ ⟨(blk_cell BK142.out 0).trans rfl, (blk_cell BK142.out 1).trans rfl, (blk_cell BK142.out 2).trans rfl, (blk_cell BK142.out 3).trans rfl, (blk_cell BK142.out 4).trans rfl, (blk_cell BK142.out 5).trans rfl⟩ (fun hHeld => ?_)
                 clear hK K
                 refine norm_ (a' := ?_) ?_ ?_
                 rotate_left
                 ·show Act.put _ (some 12) _ = _
                  simp only [Act.put, List.setIfInBounds_toArray, List.set_cons_zero, List.set_cons_succ, i64_w, i32_w]
                  rfl
                 exact norm_ B4x1_ (hJ6_17_18 (v144, v148) _ ⟨hHeld, B4x12_, B4x13_, B4x2_, B4x0_⟩)
                ·skip
                 refine goes_ Try.func118 B4x17_ rfl #[.int .i64 a0_2] (by rfl) rfl rfl B4x7_ ?_
                 with_reducible refine (spec_l11Two.calls a0_2 t146 _ A3.out).mono ?_
                 rintro e w13 ⟨rfl, hb⟩
                 refine ⟨_, rfl, ?_⟩
                 replace HO149 := Aside0.mk (Kd.R_below B4x4_ hb)
                 replace BK142 := Aside0.mk (blk_below (g := gb142) (o := .cells #[.int .i64 a0_0, .int .i64 a0_1, .int .i64 a0_2, .int .i64 a0_3, .bool true, .string a0_5] 62 (0, 0)) B4x2_ hb)
                 replace HB := Aside0.mk (below_step B4x0_ hb)
                 (try clear hb)
                 (try clear hb2)
                 (try clear hk)
                 (try clear hi)
                 refine hK.out _ _ ⟨(blk_cell BK142.out 0).trans rfl, (blk_cell BK142.out 1).trans rfl, (blk_cell BK142.out 2).trans rfl, (blk_cell BK142.out 3).trans rfl, (blk_cell BK142.out 4).trans rfl, (blk_cell BK142.out 5).trans rfl⟩ (fun hHeld => ?_)
                 clear hK K
                 refine norm_ (a' := ?_) ?_ ?_
                 rotate_left
                 ·show Act.put _ (some 16) _ = _
                  simp only [Act.put, List.setIfInBounds_toArray, List.set_cons_zero, List.set_cons_succ, i64_w, i32_w]
                  rfl
                 exact norm_ B4x1_ (hJ10_17_18 (v148) _ ⟨hHeld, B4x4_, B4x2_, B4x0_⟩)
              ·skip
               rintro v148 w12 ⟨hS_, h0_, h1_, h2_⟩
               have n0_ : Aside0 (Kd.R (Kd.int .u8) 5 w12 w.heap.size (fun _ => True) v148 y147) := ⟨h0_⟩
               have n1_ : Aside0 (w12.heap[gb142]? = some (.cells #[.int .i64 a0_0, .int .i64 a0_1, .int .i64 a0_2, .int .i64 a0_3, .bool true, .string a0_5] 62 (0, 0))) := ⟨h1_⟩
               have n2_ : Aside0 (Below w.heap.size w w12) := ⟨h2_⟩
               clear BK142
               clear HB
               clear h0_ h1_ h2_
               have HO149 := n0_
               have BK142 := n1_
               have HB := n2_
               clear n0_ n1_ n2_
               have hHeld : w12.cell? ⟨gb142, 0, none⟩ = some (.int .i64 a0_0) ∧ w12.cell? ⟨gb142, 1, none⟩ = some (.int .i64 a0_1) ∧ w12.cell? ⟨gb142, 2, none⟩ = some (.int .i64 a0_2) ∧ w12.cell? ⟨gb142, 3, none⟩ = some (.int .i64 a0_3) ∧ w12.cell? ⟨gb142, 4, none⟩ = some (.bool true) ∧ w12.cell? ⟨gb142, 5, none⟩ = some (.string a0_5) := hS_
               refine norm_ (a' := ?_) ?_ ?_
               rotate_left
               ·simp only [putAll, Act.put, List.setIfInBounds_toArray, List.set_cons_zero, List.set_cons_succ]
                rfl
               refine two_ (i := 6) (j := 18) (Ni := some 12) (Nj := some 24) #[true, true, true, true, true, true, true, false, true, true, true, false, true, true, true, true, true, true, false, false, false] #[true, true, true, true, true, true, false, false, true, true, true, false, true, true, true, true, true, true, true, false, false] rfl rfl rfl rfl (two_of HT_.out B4x17_) (by decide) (by decide) (fun K hK => ?_) (fun K hK => ?_)
               ·skip
                refine Kd.R_lit_step (Kd.int .u8) _ 5 ?hg (N := 12) ?hd (xs := ([(a0_0) % 256, (a0_1) % 256] : List Int)) (inner := [.int .u8 ((a0_0) % 256), .int .u8 ((a0_1) % 256)]) (ok := fun _ => True) (okp := fun _ => True) ?hr ?hp (fun _ hk => hk) trivial (Below.refl _ _) (Nat.le_refl _) (by simp) ?_; (case hd => rfl); (case hg => rfl); (case hr => exact B4x11_); (case hp => exact B4x8_)
                intro v144 w13 ho14 hb hg_ hnew_
                clear hg_ hnew_
                (first | rw [← Ny143.out] at ho14 | (simp only [Int.reduceToNat] at ho14; rw [← Ny143.out] at ho14))
                have HO145 := Aside0.mk (Kd.R_lower (Kd.R_new' ho14 (Kd.R_lt B4x4_)) (below_size B4x0_))
                replace HO149 := Aside0.mk (Kd.R_elder' B4x4_ (Kd.R_base ho14) hb)
                replace BK142 := Aside0.mk (blk_below (g := gb142) (o := .cells #[.int .i64 a0_0, .int .i64 a0_1, .int .i64 a0_2, .int .i64 a0_3, .bool true, .string a0_5] 62 (0, 0)) B4x2_ hb)
                replace HB := Aside0.mk (below_step B4x0_ hb)
                clear hb ho14
                refine hK.out _ _ ⟨(blk_cell BK142.out 0).trans rfl, (blk_cell BK142.out 1).trans rfl, (blk_cell BK142.out 2).trans rfl, (blk_cell BK142.out 3).trans rfl, (blk_cell BK142.out 4).trans rfl, (blk_cell BK142.out 5).trans rfl⟩ (fun hHeld => ?_)
                clear hK K
                refine norm_ (a' := ?_) ?_ ?_
                rotate_left
                ·show Act.put _ (some 12) _ = _
                 simp only [Act.put, List.setIfInBounds_toArray, List.set_cons_zero, List.set_cons_succ, i64_w, i32_w]
                 rfl
                exact norm_ B4x1_ (hJ6_10_17 (v144, v148) _ ⟨hHeld, B4x12_, B4x13_, B4x2_, B4x0_⟩)
               ·skip
                have hcv13 := own_string (P := Try.prog) Try.underlying59 Try.underlying5 Try.underlying9 (Kd.own_of_R HO149.out)
                refine value_ (w1 := ?_) (v := ?_) (by rfl) rfl ?_ ?_
                rotate_left 2
                ·go_simp
                 constructor
                 ·rfl
                 ·rfl
                clear hcv13
                refine hK.out _ _ ⟨(blk_cell BK142.out 0).trans rfl, (blk_cell BK142.out 1).trans rfl, (blk_cell BK142.out 2).trans rfl, (blk_cell BK142.out 3).trans rfl, (blk_cell BK142.out 4).trans rfl, (blk_cell BK142.out 5).trans rfl⟩ (fun hHeld => ?_)
                clear hK K
                refine norm_ (a' := ?_) ?_ ?_
                rotate_left
                ·show Act.put _ (some 24) _ = _
                 simp only [Act.put, List.setIfInBounds_toArray, List.set_cons_zero, List.set_cons_succ, i64_w, i32_w]
                 rfl
                exact norm_ B4x1_ (hJ10_17_18 (v148) _ ⟨hHeld, B4x4_, B4x2_, B4x0_⟩)
             ·skip
              rintro ⟨v144, v148⟩ w13 ⟨hS_, h0_, h1_, h2_, h3_⟩
              have n0_ : Aside0 (Kd.R (Kd.int .u8) 5 w13 w.heap.size (fun k_ => some k_ ≠ (v148 : Value).ownBlock) v144 y143) := ⟨h0_⟩
              have n1_ : Aside0 (Kd.R (Kd.int .u8) 5 w13 w.heap.size (fun k_ => some k_ ≠ (v144 : Value).ownBlock) v148 y147) := ⟨h1_⟩
              have n2_ : Aside0 (w13.heap[gb142]? = some (.cells #[.int .i64 a0_0, .int .i64 a0_1, .int .i64 a0_2, .int .i64 a0_3, .bool true, .string a0_5] 62 (0, 0))) := ⟨h2_⟩
              have n3_ : Aside0 (Below w.heap.size w w13) := ⟨h3_⟩
              clear BK142
              clear HB
              clear h0_ h1_ h2_ h3_
              have HO145 := n0_
              have HO149 := n1_
              have BK142 := n2_
              have HB := n3_
              clear n0_ n1_ n2_ n3_
              have hHeld : w13.cell? ⟨gb142, 0, none⟩ = some (.int .i64 a0_0) ∧ w13.cell? ⟨gb142, 1, none⟩ = some (.int .i64 a0_1) ∧ w13.cell? ⟨gb142, 2, none⟩ = some (.int .i64 a0_2) ∧ w13.cell? ⟨gb142, 3, none⟩ = some (.int .i64 a0_3) ∧ w13.cell? ⟨gb142, 4, none⟩ = some (.bool true) ∧ w13.cell? ⟨gb142, 5, none⟩ = some (.string a0_5) := hS_
              refine norm_ (a' := ?_) ?_ ?_
              rotate_left
              ·simp only [putAll, Act.put, List.setIfInBounds_toArray, List.set_cons_zero, List.set_cons_succ]
               rfl
              refine three_ (i := 7) (j := 10) (k := 18) (Ni := some 13) (Nj := some 16) (Nk := some 24) #[true, true, true, true, true, true, true, true, true, true, false, false, true, true, true, true, true, true, false, false, false] #[true, true, true, true, true, true, true, false, true, true, true, false, true, true, true, true, true, true, false, false, false] #[true, true, true, true, true, true, true, false, true, true, false, false, true, true, true, true, true, true, true, false, false] rfl rfl rfl rfl rfl rfl (three_of HT_.out B4x17_) (by decide) (by decide) (by decide) (fun K hK => ?_) (fun K hK => ?_) (fun K hK => ?_)
              ·skip
               have hcv14 := own_string (P := Try.prog) Try.underlying59 Try.underlying5 Try.underlying9 (Kd.own_of_R HO145.out)
               refine value_ (w1 := ?_) (v := ?_) (by rfl) rfl ?_ ?_
               rotate_left 2
               ·go_simp
                constructor
                ·rfl
                ·rfl
               clear hcv14
               refine hK.out _ _ ⟨(blk_cell BK142.out 0).trans rfl, (blk_cell BK142.out 1).trans rfl, (blk_cell BK142.out 2).trans rfl, (blk_cell BK142.out 3).trans rfl, (blk_cell BK142.out 4).trans rfl, (blk_cell BK142.out 5).trans rfl⟩ (fun hHeld => ?_)
               clear hK K
               refine norm_ (a' := ?_) ?_ ?_
               rotate_left
               ·show Act.put _ (some 13) _ = _
                simp only [Act.put, List.setIfInBounds_toArray, List.set_cons_zero, List.set_cons_succ, i64_w, i32_w]
                rfl
               exact norm_ B4x1_ (hJ6_7_17 (v144, v148) _ ⟨hHeld, B4x3_, B4x4_, B4x2_, B4x0_⟩)
              ·skip
               refine goes_ Try.func118 B4x17_ rfl #[.int .i64 a0_2] (by rfl) rfl rfl B4x7_ ?_
               with_reducible refine (spec_l11Two.calls a0_2 t146 _ A3.out).mono ?_
               rintro e w14 ⟨rfl, hb⟩
               refine ⟨_, rfl, ?_⟩
               replace HO145 := Aside0.mk (Kd.R_below B4x3_ hb)
               replace HO149 := Aside0.mk (Kd.R_below B4x4_ hb)
               replace BK142 := Aside0.mk (blk_below (g := gb142) (o := .cells #[.int .i64 a0_0, .int .i64 a0_1, .int .i64 a0_2, .int .i64 a0_3, .bool true, .string a0_5] 62 (0, 0)) B4x2_ hb)
               replace HB := Aside0.mk (below_step B4x0_ hb)
               (try clear hb)
               (try clear hb2)
               (try clear hk)
               (try clear hi)
               refine hK.out _ _ ⟨(blk_cell BK142.out 0).trans rfl, (blk_cell BK142.out 1).trans rfl, (blk_cell BK142.out 2).trans rfl, (blk_cell BK142.out 3).trans rfl, (blk_cell BK142.out 4).trans rfl, (blk_cell BK142.out 5).trans rfl⟩ (fun hHeld => ?_)
               clear hK K
               refine norm_ (a' := ?_) ?_ ?_
               rotate_left
               ·show Act.put _ (some 16) _ = _
                simp only [Act.put, List.setIfInBounds_toArray, List.set_cons_zero, List.set_cons_succ, i64_w, i32_w]
                rfl
               exact norm_ B4x1_ (hJ6_10_17 (v144, v148) _ ⟨hHeld, B4x3_, B4x4_, B4x2_, B4x0_⟩)
              ·skip
               have hcv14 := own_string (P := Try.prog) Try.underlying59 Try.underlying5 Try.underlying9 (Kd.own_of_R HO149.out)
               refine value_ (w1 := ?_) (v := ?_) (by rfl) rfl ?_ ?_
               rotate_left 2
               ·go_simp
                constructor
                ·rfl
                ·rfl
               clear hcv14
               refine hK.out _ _ ⟨(blk_cell BK142.out 0).trans rfl, (blk_cell BK142.out 1).trans rfl, (blk_cell BK142.out 2).trans rfl, (blk_cell BK142.out 3).trans rfl, (blk_cell BK142.out 4).trans rfl, (blk_cell BK142.out 5).trans rfl⟩ (fun hHeld => ?_)
               clear hK K
               refine norm_ (a' := ?_) ?_ ?_
               rotate_left
               ·show Act.put _ (some 24) _ = _
                simp only [Act.put, List.setIfInBounds_toArray, List.set_cons_zero, List.set_cons_succ, i64_w, i32_w]
                rfl
               exact norm_ B4x1_ (hJ6_17_18 (v144, v148) _ ⟨hHeld, B4x3_, B4x4_, B4x2_, B4x0_⟩)
            ·skip
             rintro v144 w12 ⟨hS_, h0_, h1_, h2_⟩
             have n0_ : Aside0 (Kd.R (Kd.int .u8) 5 w12 w.heap.size (fun _ => True) v144 y143) := ⟨h0_⟩
             have n1_ : Aside0 (w12.heap[gb142]? = some (.cells #[.int .i64 a0_0, .int .i64 a0_1, .int .i64 a0_2, .int .i64 a0_3, .bool true, .string a0_5] 62 (0, 0))) := ⟨h1_⟩
             have n2_ : Aside0 (Below w.heap.size w w12) := ⟨h2_⟩
             clear BK142
             clear HB
             clear h0_ h1_ h2_
             have HO145 := n0_
             have BK142 := n1_
             have HB := n2_
             clear n0_ n1_ n2_
             have hHeld : w12.cell? ⟨gb142, 0, none⟩ = some (.int .i64 a0_0) ∧ w12.cell? ⟨gb142, 1, none⟩ = some (.int .i64 a0_1) ∧ w12.cell? ⟨gb142, 2, none⟩ = some (.int .i64 a0_2) ∧ w12.cell? ⟨gb142, 3, none⟩ = some (.int .i64 a0_3) ∧ w12.cell? ⟨gb142, 4, none⟩ = some (.bool true) ∧ w12.cell? ⟨gb142, 5, none⟩ = some (.string a0_5) := hS_
             refine norm_ (a' := ?_) ?_ ?_
             rotate_left
             ·simp only [putAll, Act.put, List.setIfInBounds_toArray, List.set_cons_zero, List.set_cons_succ]
              rfl
             refine two_ (i := 7) (j := 17) (Ni := some 13) (Nj := some 23) #[true, true, true, true, true, true, true, true, true, true, true, false, true, true, true, true, true, false, false, false, false] #[true, true, true, true, true, true, true, false, true, true, true, false, true, true, true, true, true, true, false, false, false] rfl rfl rfl rfl (two_of HT_.out B4x17_) (by decide) (by decide) (fun K hK => ?_) (fun K hK => ?_)
             ·skip
              have hcv13 := own_string (P := Try.prog) Try.underlying59 Try.underlying5 Try.underlying9 (Kd.own_of_R HO145.out)
              refine value_ (w1 := ?_) (v := ?_) (by rfl) rfl ?_ ?_
              rotate_left 2
              ·go_simp
               constructor
               ·rfl
               ·rfl
              clear hcv13
              refine hK.out _ _ ⟨(blk_cell BK142.out 0).trans rfl, (blk_cell BK142.out 1).trans rfl, (blk_cell BK142.out 2).trans rfl, (blk_cell BK142.out 3).trans rfl, (blk_cell BK142.out 4).trans rfl, (blk_cell BK142.out 5).trans rfl⟩ (fun hHeld => ?_)
              clear hK K
              refine norm_ (a' := ?_) ?_ ?_
              rotate_left
              ·show Act.put _ (some 13) _ = _
               simp only [Act.put, List.setIfInBounds_toArray, List.set_cons_zero, List.set_cons_succ, i64_w, i32_w]
               rfl
              refine pu_ 11 17 HT_ ?_
              exact norm_ B4x1_ (hJ6_7_10 (v144) _ ⟨hHeld, B4x3_, B4x2_, B4x0_⟩)
             ·skip
              refine Kd.R_lit_step (Kd.int .u8) _ 5 ?hg (N := 23) ?hd (xs := ([(wrap64 (Int.tdiv a0_3 8)) % 256, 1] : List Int)) (inner := [.int .u8 ((wrap64 (Int.tdiv a0_3 8)) % 256), .int .u8 1]) (ok := fun _ => True) (okp := fun _ => True) ?hr ?hp (fun _ hk => hk) trivial (Below.refl _ _) (Nat.le_refl _) (by simp) ?_; (case hd => rfl); (case hg => rfl); (case hr => exact B4x11_); (case hp => exact B4x10_)
              intro v148 w13 ho14 hb hg_ hnew_
              clear hg_ hnew_
              (first | rw [← Ny147.out] at ho14 | (simp only [Int.reduceToNat] at ho14; rw [← Ny147.out] at ho14))
              have HO149 := Aside0.mk (Kd.R_lower (Kd.R_new' ho14 (Kd.R_lt B4x3_)) (below_size B4x0_))
              replace HO145 := Aside0.mk (Kd.R_elder' B4x3_ (Kd.R_base ho14) hb)
              replace BK142 := Aside0.mk (blk_below (g := gb142) (o := .cells #[.int .i64 a0_0, .int .i64 a0_1, .int .i64 a0_2, .int .i64 a0_3, .bool true, .string a0_5] 62 (0, 0)) B4x2_ hb)
              replace HB := Aside0.mk (below_step B4x0_ hb)
              clear hb ho14
              refine hK.out _ _ ⟨(blk_cell BK142.out 0).trans rfl, (blk_cell BK142.out 1).trans rfl, (blk_cell BK142.out 2).trans rfl, (blk_cell BK142.out 3).trans rfl, (blk_cell BK142.out 4).trans rfl, (blk_cell BK142.out 5).trans rfl⟩ (fun hHeld => ?_)
              clear hK K
              refine norm_ (a' := ?_) ?_ ?_
              rotate_left
              ·show Act.put _ (some 23) _ = _
               simp only [Act.put, List.setIfInBounds_toArray, List.set_cons_zero, List.set_cons_succ, i64_w, i32_w]
               rfl
              exact norm_ B4x1_ (hJ6_10_17 (v144, v148) _ ⟨hHeld, B4x12_, B4x13_, B4x2_, B4x0_⟩)
           ·skip
            rintro v144 w12 ⟨hS_, h0_, h1_, h2_⟩
            have n0_ : Aside0 (Kd.R (Kd.int .u8) 5 w12 w.heap.size (fun _ => True) v144 y143) := ⟨h0_⟩
            have n1_ : Aside0 (w12.heap[gb142]? = some (.cells #[.int .i64 a0_0, .int .i64 a0_1, .int .i64 a0_2, .int .i64 a0_3, .bool true, .string a0_5] 62 (0, 0))) := ⟨h1_⟩
            have n2_ : Aside0 (Below w.heap.size w w12) := ⟨h2_⟩
            clear BK142
            clear HB
            clear h0_ h1_ h2_
            have HO145 := n0_
            have BK142 := n1_
            have HB := n2_
            clear n0_ n1_ n2_
            have hHeld : w12.cell? ⟨gb142, 0, none⟩ = some (.int .i64 a0_0) ∧ w12.cell? ⟨gb142, 1, none⟩ = some (.int .i64 a0_1) ∧ w12.cell? ⟨gb142, 2, none⟩ = some (.int .i64 a0_2) ∧ w12.cell? ⟨gb142, 3, none⟩ = some (.int .i64 a0_3) ∧ w12.cell? ⟨gb142, 4, none⟩ = some (.bool true) ∧ w12.cell? ⟨gb142, 5, none⟩ = some (.string a0_5) := hS_
            refine norm_ (a' := ?_) ?_ ?_
            rotate_left
            ·simp only [putAll, Act.put, List.setIfInBounds_toArray, List.set_cons_zero, List.set_cons_succ]
             rfl
            refine two_ (i := 10) (j := 17) (Ni := some 16) (Nj := some 23) #[true, true, true, true, true, true, true, true, true, true, true, false, true, true, true, true, true, false, false, false, false] #[true, true, true, true, true, true, true, true, true, true, false, false, true, true, true, true, true, true, false, false, false] rfl rfl rfl rfl (two_of HT_.out B4x17_) (by decide) (by decide) (fun K hK => ?_) (fun K hK => ?_)
            ·skip
             refine goes_ Try.func118 B4x17_ rfl #[.int .i64 a0_2] (by rfl) rfl rfl B4x7_ ?_
             with_reducible refine (spec_l11Two.calls a0_2 t146 _ A3.out).mono ?_
             rintro e w13 ⟨rfl, hb⟩
             refine ⟨_, rfl, ?_⟩
             replace HO145 := Aside0.mk (Kd.R_below B4x3_ hb)
             replace BK142 := Aside0.mk (blk_below (g := gb142) (o := .cells #[.int .i64 a0_0, .int .i64 a0_1, .int .i64 a0_2, .int .i64 a0_3, .bool true, .string a0_5] 62 (0, 0)) B4x2_ hb)
             replace HB := Aside0.mk (below_step B4x0_ hb)
             (try clear hb)
             (try clear hb2)
             (try clear hk)
             (try clear hi)
             refine hK.out _ _ ⟨(blk_cell BK142.out 0).trans rfl, (blk_cell BK142.out 1).trans rfl, (blk_cell BK142.out 2).trans rfl, (blk_cell BK142.out 3).trans rfl, (blk_cell BK142.out 4).trans rfl, (blk_cell BK142.out 5).trans rfl⟩ (fun hHeld => ?_)
             clear hK K
             refine norm_ (a' := ?_) ?_ ?_
             rotate_left
             ·show Act.put _ (some 16) _ = _
              simp only [Act.put, List.setIfInBounds_toArray, List.set_cons_zero, List.set_cons_succ, i64_w, i32_w]
              rfl
             refine pu_ 11 17 HT_ ?_
             exact norm_ B4x1_ (hJ6_7_10 (v144) _ ⟨hHeld, B4x3_, B4x2_, B4x0_⟩)
            ·skip
             refine Kd.R_lit_step (Kd.int .u8) _ 5 ?hg (N := 23) ?hd (xs := ([(wrap64 (Int.tdiv a0_3 8)) % 256, 1] : List Int)) (inner := [.int .u8 ((wrap64 (Int.tdiv a0_3 8)) % 256), .int .u8 1]) (ok := fun _ => True) (okp := fun _ => True) ?hr ?hp (fun _ hk => hk) trivial (Below.refl _ _) (Nat.le_refl _) (by simp) ?_; (case hd => rfl); (case hg => rfl); (case hr => exact B4x11_); (case hp => exact B4x10_)
             intro v148 w13 ho14 hb hg_ hnew_
             clear hg_ hnew_
             (first | rw [← Ny147.out] at ho14 | (simp only [Int.reduceToNat] at ho14; rw [← Ny147.out] at ho14))
             have HO149 := Aside0.mk (Kd.R_lower (Kd.R_new' ho14 (Kd.R_lt B4x3_)) (below_size B4x0_))
             replace HO145 := Aside0.mk (Kd.R_elder' B4x3_ (Kd.R_base ho14) hb)
             replace BK142 := Aside0.mk (blk_below (g := gb142) (o := .cells #[.int .i64 a0_0, .int .i64 a0_1, .int .i64 a0_2, .int .i64 a0_3, .bool true, .string a0_5] 62 (0, 0)) B4x2_ hb)
             replace HB := Aside0.mk (below_step B4x0_ hb)
             clear hb ho14
             refine hK.out _ _ ⟨(blk_cell BK142.out 0).trans rfl, (blk_cell BK142.out 1).trans rfl, (blk_cell BK142.out 2).trans rfl, (blk_cell BK142.out 3).trans rfl, (blk_cell BK142.out 4).trans rfl, (blk_cell BK142.out 5).trans rfl⟩ (fun hHeld => ?_)
             clear hK K
             refine norm_ (a' := ?_) ?_ ?_
             rotate_left
             ·show Act.put _ (some 23) _ = _
              simp only [Act.put, List.setIfInBounds_toArray, List.set_cons_zero, List.set_cons_succ, i64_w, i32_w]
              rfl
             exact norm_ B4x1_ (hJ6_7_17 (v144, v148) _ ⟨hHeld, B4x12_, B4x13_, B4x2_, B4x0_⟩)
          ·skip
           rintro v148 w13 ⟨hS_, h0_, h1_, h2_⟩
           have n0_ : Aside0 (Kd.R (Kd.int .u8) 5 w13 w.heap.size (fun _ => True) v148 y147) := ⟨h0_⟩
           have n1_ : Aside0 (w13.heap[gb142]? = some (.cells #[.int .i64 a0_0, .int .i64 a0_1, .int .i64 a0_2, .int .i64 a0_3, .bool true, .string a0_5] 62 (0, 0))) := ⟨h1_⟩
           have n2_ : Aside0 (Below w.heap.size w w13) := ⟨h2_⟩
           clear BK142
           clear HB
           clear h0_ h1_ h2_
           have HO149 := n0_
           have BK142 := n1_
           have HB := n2_
           clear n0_ n1_ n2_
           have hHeld : w13.cell? ⟨gb142, 0, none⟩ = some (.int .i64 a0_0) ∧ w13.cell? ⟨gb142, 1, none⟩ = some (.int .i64 a0_1) ∧ w13.cell? ⟨gb142, 2, none⟩ = some (.int .i64 a0_2) ∧ w13.cell? ⟨gb142, 3, none⟩ = some (.int .i64 a0_3) ∧ w13.cell? ⟨gb142, 4, none⟩ = some (.bool true) ∧ w13.cell? ⟨gb142, 5, none⟩ = some (.string a0_5) := hS_
           refine norm_ (a' := ?_) ?_ ?_
           rotate_left
           ·simp only [putAll, Act.put, List.setIfInBounds_toArray, List.set_cons_zero, List.set_cons_succ]
            rfl
           refine one_ (i := 6) (N := some 12) #[true, true, true, true, true, true, true, false, true, true, true, false, true, true, true, true, true, true, true, false, false] rfl rfl (one_of HT_.out B4x17_) (by decide) (fun K hK => ?_)
           refine Kd.R_lit_step (Kd.int .u8) _ 5 ?hg (N := 12) ?hd (xs := ([(a0_0) % 256, (a0_1) % 256] : List Int)) (inner := [.int .u8 ((a0_0) % 256), .int .u8 ((a0_1) % 256)]) (ok := fun _ => True) (okp := fun _ => True) ?hr ?hp (fun _ hk => hk) trivial (Below.refl _ _) (Nat.le_refl _) (by simp) ?_; (case hd => rfl); (case hg => rfl); (case hr => exact B4x11_); (case hp => exact B4x8_)
           intro v144 w14 ho15 hb hg_ hnew_
           clear hg_ hnew_
           (first | rw [← Ny143.out] at ho15 | (simp only [Int.reduceToNat] at ho15; rw [← Ny143.out] at ho15))
           have HO145 := Aside0.mk (Kd.R_lower (Kd.R_new' ho15 (Kd.R_lt B4x4_)) (below_size B4x0_))
           replace HO149 := Aside0.mk (Kd.R_elder' B4x4_ (Kd.R_base ho15) hb)
           replace BK142 := Aside0.mk (blk_below (g := gb142) (o := .cells #[.int .i64 a0_0, .int .i64 a0_1, .int .i64 a0_2, .int .i64 a0_3, .bool true, .string a0_5] 62 (0, 0)) B4x2_ hb)
           replace HB := Aside0.mk (below_step B4x0_ hb)
           clear hb ho15
           refine hK.out _ _ ⟨(blk_cell BK142.out 0).trans rfl, (blk_cell BK142.out 1).trans rfl, (blk_cell BK142.out 2).trans rfl, (blk_cell BK142.out 3).trans rfl, (blk_cell BK142.out 4).trans rfl, (blk_cell BK142.out 5).trans rfl⟩ (fun hHeld => ?_)
           clear hK K
           refine norm_ (a' := ?_) ?_ ?_
           rotate_left
           ·show Act.put _ (some 12) _ = _
            simp only [Act.put, List.setIfInBounds_toArray, List.set_cons_zero, List.set_cons_succ, i64_w, i32_w]
            rfl
           exact norm_ B4x1_ (hJ6_10_17_18 (v144, v148) _ ⟨hHeld, B4x12_, B4x13_, B4x2_, B4x0_⟩)
         ·skip
          rintro ⟨v144, v148⟩ w14 ⟨hS_, h0_, h1_, h2_, h3_⟩
          have n0_ : Aside0 (Kd.R (Kd.int .u8) 5 w14 w.heap.size (fun k_ => some k_ ≠ (v148 : Value).ownBlock) v144 y143) := ⟨h0_⟩
          have n1_ : Aside0 (Kd.R (Kd.int .u8) 5 w14 w.heap.size (fun k_ => some k_ ≠ (v144 : Value).ownBlock) v148 y147) := ⟨h1_⟩
          have n2_ : Aside0 (w14.heap[gb142]? = some (.cells #[.int .i64 a0_0, .int .i64 a0_1, .int .i64 a0_2, .int .i64 a0_3, .bool true, .string a0_5] 62 (0, 0))) := ⟨h2_⟩
          have n3_ : Aside0 (Below w.heap.size w w14) := ⟨h3_⟩
          clear BK142
          clear HB
          clear h0_ h1_ h2_ h3_
          have HO145 := n0_
          have HO149 := n1_
          have BK142 := n2_
          have HB := n3_
          clear n0_ n1_ n2_ n3_
          have hHeld : w14.cell? ⟨gb142, 0, none⟩ = some (.int .i64 a0_0) ∧ w14.cell? ⟨gb142, 1, none⟩ = some (.int .i64 a0_1) ∧ w14.cell? ⟨gb142, 2, none⟩ = some (.int .i64 a0_2) ∧ w14.cell? ⟨gb142, 3, none⟩ = some (.int .i64 a0_3) ∧ w14.cell? ⟨gb142, 4, none⟩ = some (.bool true) ∧ w14.cell? ⟨gb142, 5, none⟩ = some (.string a0_5) := hS_
          refine norm_ (a' := ?_) ?_ ?_
          rotate_left
          ·simp only [putAll, Act.put, List.setIfInBounds_toArray, List.set_cons_zero, List.set_cons_succ]
           rfl
          refine two_ (i := 7) (j := 10) (Ni := some 13) (Nj := some 16) #[true, true, true, true, true, true, true, true, true, true, false, false, true, true, true, true, true, true, true, false, false] #[true, true, true, true, true, true, true, false, true, true, true, false, true, true, true, true, true, true, true, false, false] rfl rfl rfl rfl (two_of HT_.out B4x17_) (by decide) (by decide) (fun K hK => ?_) (fun K hK => ?_)
          ·skip
           have hcv15 := own_string (P := Try.prog) Try.underlying59 Try.underlying5 Try.underlying9 (Kd.own_of_R HO145.out)
           refine value_ (w1 := ?_) (v := ?_) (by rfl) rfl ?_ ?_
           rotate_left 2
           ·go_simp
            constructor
            ·rfl
            ·rfl
           clear hcv15
           refine hK.out _ _ ⟨(blk_cell BK142.out 0).trans rfl, (blk_cell BK142.out 1).trans rfl, (blk_cell BK142.out 2).trans rfl, (blk_cell BK142.out 3).trans rfl, (blk_cell BK142.out 4).trans rfl, (blk_cell BK142.out 5).trans rfl⟩ (fun hHeld => ?_)
           clear hK K
           refine norm_ (a' := ?_) ?_ ?_
           rotate_left
           ·show Act.put _ (some 13) _ = _
            simp only [Act.put, List.setIfInBounds_toArray, List.set_cons_zero, List.set_cons_succ, i64_w, i32_w]
            rfl
           exact norm_ B4x1_ (hJ6_7_17_18 (v144, v148) _ ⟨hHeld, B4x3_, B4x4_, B4x2_, B4x0_⟩)
          ·skip
           refine goes_ Try.func118 B4x17_ rfl #[.int .i64 a0_2] (by rfl) rfl rfl B4x7_ ?_
           with_reducible refine (spec_l11Two.calls a0_2 t146 _ A3.out).mono ?_
           rintro e w15 ⟨rfl, hb⟩
           refine ⟨_, rfl, ?_⟩
           replace HO145 := Aside0.mk (Kd.R_below B4x3_ hb)
           replace HO149 := Aside0.mk (Kd.R_below B4x4_ hb)
           replace BK142 := Aside0.mk (blk_below (g := gb142) (o := .cells #[.int .i64 a0_0, .int .i64 a0_1, .int .i64 a0_2, .int .i64 a0_3, .bool true, .string a0_5] 62 (0, 0)) B4x2_ hb)
           replace HB := Aside0.mk (below_step B4x0_ hb)
           (try clear hb)
           (try clear hb2)
           (try clear hk)
           (try clear hi)
           refine hK.out _ _ ⟨(blk_cell BK142.out 0).trans rfl, (blk_cell BK142.out 1).trans rfl, (blk_cell BK142.out 2).trans rfl, (blk_cell BK142.out 3).trans rfl, (blk_cell BK142.out 4).trans rfl, (blk_cell BK142.out 5).trans rfl⟩ (fun hHeld => ?_)
           clear hK K
           refine norm_ (a' := ?_) ?_ ?_
           rotate_left
           ·show Act.put _ (some 16) _ = _
            simp only [Act.put, List.setIfInBounds_toArray, List.set_cons_zero, List.set_cons_succ, i64_w, i32_w]
            rfl
           exact norm_ B4x1_ (hJ6_10_17_18 (v144, v148) _ ⟨hHeld, B4x3_, B4x4_, B4x2_, B4x0_⟩)
        ·skip
         rintro ⟨v144, v148⟩ w14 ⟨hS_, h0_, h1_, h2_, h3_⟩
         have n0_ : Aside0 (Kd.R (Kd.int .u8) 5 w14 w.heap.size (fun k_ => some k_ ≠ (v148 : Value).ownBlock) v144 y143) := ⟨h0_⟩
         have n1_ : Aside0 (Kd.R (Kd.int .u8) 5 w14 w.heap.size (fun k_ => some k_ ≠ (v144 : Value).ownBlock) v148 y147) := ⟨h1_⟩
         have n2_ : Aside0 (w14.heap[gb142]? = some (.cells #[.int .i64 a0_0, .int .i64 a0_1, .int .i64 a0_2, .int .i64 a0_3, .bool true, .string a0_5] 62 (0, 0))) := ⟨h2_⟩
         have n3_ : Aside0 (Below w.heap.size w w14) := ⟨h3_⟩
         clear BK142
         clear HB
         clear h0_ h1_ h2_ h3_
         have HO145 := n0_
         have HO149 := n1_
         have BK142 := n2_
         have HB := n3_
         clear n0_ n1_ n2_ n3_
         have hHeld : w14.cell? ⟨gb142, 0, none⟩ = some (.int .i64 a0_0) ∧ w14.cell? ⟨gb142, 1, none⟩ = some (.int .i64 a0_1) ∧ w14.cell? ⟨gb142, 2, none⟩ = some (.int .i64 a0_2) ∧ w14.cell? ⟨gb142, 3, none⟩ = some (.int .i64 a0_3) ∧ w14.cell? ⟨gb142, 4, none⟩ = some (.bool true) ∧ w14.cell? ⟨gb142, 5, none⟩ = some (.string a0_5) := hS_
         refine norm_ (a' := ?_) ?_ ?_
         rotate_left
         ·simp only [putAll, Act.put, List.setIfInBounds_toArray, List.set_cons_zero, List.set_cons_succ]
          rfl
         refine two_ (i := 7) (j := 18) (Ni := some 13) (Nj := some 24) #[true, true, true, true, true, true, true, true, true, true, true, false, true, true, true, true, true, true, false, false, false] #[true, true, true, true, true, true, true, false, true, true, true, false, true, true, true, true, true, true, true, false, false] rfl rfl rfl rfl (two_of HT_.out B4x17_) (by decide) (by decide) (fun K hK => ?_) (fun K hK => ?_)
         ·skip
          have hcv15 := own_string (P := Try.prog) Try.underlying59 Try.underlying5 Try.underlying9 (Kd.own_of_R HO145.out)
          refine value_ (w1 := ?_) (v := ?_) (by rfl) rfl ?_ ?_
          rotate_left 2
          ·go_simp
           constructor
           ·rfl
           ·rfl
          clear hcv15
          refine hK.out _ _ ⟨(blk_cell BK142.out 0).trans rfl, (blk_cell BK142.out 1).trans rfl, (blk_cell BK142.out 2).trans rfl, (blk_cell BK142.out 3).trans rfl, (blk_cell BK142.out 4).trans rfl, (blk_cell BK142.out 5).trans rfl⟩ (fun hHeld => ?_)
          clear hK K
          refine norm_ (a' := ?_) ?_ ?_
          rotate_left
          ·show Act.put _ (some 13) _ = _
           simp only [Act.put, List.setIfInBounds_toArray, List.set_cons_zero, List.set_cons_succ, i64_w, i32_w]
           rfl
          refine pu_ 11 17 HT_ ?_
          exact norm_ B4x1_ (hJ6_7_10_17 (v144, v148) _ ⟨hHeld, B4x3_, B4x4_, B4x2_, B4x0_⟩)
         ·skip
          have hcv15 := own_string (P := Try.prog) Try.underlying59 Try.underlying5 Try.underlying9 (Kd.own_of_R HO149.out)
          refine value_ (w1 := ?_) (v := ?_) (by rfl) rfl ?_ ?_
          rotate_left 2
          ·go_simp
           constructor
           ·rfl
           ·rfl
          clear hcv15
          refine hK.out _ _ ⟨(blk_cell BK142.out 0).trans rfl, (blk_cell BK142.out 1).trans rfl, (blk_cell BK142.out 2).trans rfl, (blk_cell BK142.out 3).trans rfl, (blk_cell BK142.out 4).trans rfl, (blk_cell BK142.out 5).trans rfl⟩ (fun hHeld => ?_)
          clear hK K
          refine norm_ (a' := ?_) ?_ ?_
          rotate_left
          ·show Act.put _ (some 24) _ = _
           simp only [Act.put, List.setIfInBounds_toArray, List.set_cons_zero, List.set_cons_succ, i64_w, i32_w]
           rfl
          exact norm_ B4x1_ (hJ6_10_17_18 (v144, v148) _ ⟨hHeld, B4x3_, B4x4_, B4x2_, B4x0_⟩)
       ·skip
        rintro ⟨v144, v148⟩ w14 ⟨hS_, h0_, h1_, h2_, h3_⟩
        have n0_ : Aside0 (Kd.R (Kd.int .u8) 5 w14 w.heap.size (fun k_ => some k_ ≠ (v148 : Value).ownBlock) v144 y143) := ⟨h0_⟩
        have n1_ : Aside0 (Kd.R (Kd.int .u8) 5 w14 w.heap.size (fun k_ => some k_ ≠ (v144 : Value).ownBlock) v148 y147) := ⟨h1_⟩
        have n2_ : Aside0 (w14.heap[gb142]? = some (.cells #[.int .i64 a0_0, .int .i64 a0_1, .int .i64 a0_2, .int .i64 a0_3, .bool true, .string a0_5] 62 (0, 0))) := ⟨h2_⟩
        have n3_ : Aside0 (Below w.heap.size w w14) := ⟨h3_⟩
        clear BK142
        clear HB
        clear h0_ h1_ h2_ h3_
        have HO145 := n0_
        have HO149 := n1_
        have BK142 := n2_
        have HB := n3_
        clear n0_ n1_ n2_ n3_
        have hHeld : w14.cell? ⟨gb142, 0, none⟩ = some (.int .i64 a0_0) ∧ w14.cell? ⟨gb142, 1, none⟩ = some (.int .i64 a0_1) ∧ w14.cell? ⟨gb142, 2, none⟩ = some (.int .i64 a0_2) ∧ w14.cell? ⟨gb142, 3, none⟩ = some (.int .i64 a0_3) ∧ w14.cell? ⟨gb142, 4, none⟩ = some (.bool true) ∧ w14.cell? ⟨gb142, 5, none⟩ = some (.string a0_5) := hS_
        refine norm_ (a' := ?_) ?_ ?_
        rotate_left
        ·simp only [putAll, Act.put, List.setIfInBounds_toArray, List.set_cons_zero, List.set_cons_succ]
         rfl
        refine two_ (i := 10) (j := 18) (Ni := some 16) (Nj := some 24) #[true, true, true, true, true, true, true, true, true, true, true, false, true, true, true, true, true, true, false, false, false] #[true, true, true, true, true, true, true, true, true, true, false, false, true, true, true, true, true, true, true, false, false] rfl rfl rfl rfl (two_of HT_.out B4x17_) (by decide) (by decide) (fun K hK => ?_) (fun K hK => ?_)
        ·skip
         refine goes_ Try.func118 B4x17_ rfl #[.int .i64 a0_2] (by rfl) rfl rfl B4x7_ ?_
         with_reducible refine (spec_l11Two.calls a0_2 t146 _ A3.out).mono ?_
         rintro e w15 ⟨rfl, hb⟩
         refine ⟨_, rfl, ?_⟩
         replace HO145 := Aside0.mk (Kd.R_below B4x3_ hb)
         replace HO149 := Aside0.mk (Kd.R_below B4x4_ hb)
         replace BK142 := Aside0.mk (blk_below (g := gb142) (o := .cells #[.int .i64 a0_0, .int .i64 a0_1, .int .i64 a0_2, .int .i64 a0_3, .bool true, .string a0_5] 62 (0, 0)) B4x2_ hb)
         replace HB := Aside0.mk (below_step B4x0_ hb)
         (try clear hb)
         (try clear hb2)
         (try clear hk)
         (try clear hi)
         refine hK.out _ _ ⟨(blk_cell BK142.out 0).trans rfl, (blk_cell BK142.out 1).trans rfl, (blk_cell BK142.out 2).trans rfl, (blk_cell BK142.out 3).trans rfl, (blk_cell BK142.out 4).trans rfl, (blk_cell BK142.out 5).trans rfl⟩ (fun hHeld => ?_)
         clear hK K
         refine norm_ (a' := ?_) ?_ ?_
         rotate_left
         ·show Act.put _ (some 16) _ = _
          simp only [Act.put, List.setIfInBounds_toArray, List.set_cons_zero, List.set_cons_succ, i64_w, i32_w]
          rfl
         refine pu_ 11 17 HT_ ?_
         exact norm_ B4x1_ (hJ6_7_10_17 (v144, v148) _ ⟨hHeld, B4x3_, B4x4_, B4x2_, B4x0_⟩)
        ·skip
         have hcv15 := own_string (P := Try.prog) Try.underlying59 Try.underlying5 Try.underlying9 (Kd.own_of_R HO149.out)
         refine value_ (w1 := ?_) (v := ?_) (by rfl) rfl ?_ ?_
         rotate_left 2
         ·go_simp
          constructor
          ·rfl
          ·rfl
         clear hcv15
         refine hK.out _ _ ⟨(blk_cell BK142.out 0).trans rfl, (blk_cell BK142.out 1).trans rfl, (blk_cell BK142.out 2).trans rfl, (blk_cell BK142.out 3).trans rfl, (blk_cell BK142.out 4).trans rfl, (blk_cell BK142.out 5).trans rfl⟩ (fun hHeld => ?_)
         clear hK K
         refine norm_ (a' := ?_) ?_ ?_
         rotate_left
         ·show Act.put _ (some 24) _ = _
          simp only [Act.put, List.setIfInBounds_toArray, List.set_cons_zero, List.set_cons_succ, i64_w, i32_w]
          rfl
         exact norm_ B4x1_ (hJ6_7_17_18 (v144, v148) _ ⟨hHeld, B4x3_, B4x4_, B4x2_, B4x0_⟩)
      ·skip
       rintro v144 w13 ⟨hS_, h0_, h1_, h2_⟩
       have n0_ : Aside0 (Kd.R (Kd.int .u8) 5 w13 w.heap.size (fun _ => True) v144 y143) := ⟨h0_⟩
       have n1_ : Aside0 (w13.heap[gb142]? = some (.cells #[.int .i64 a0_0, .int .i64 a0_1, .int .i64 a0_2, .int .i64 a0_3, .bool true, .string a0_5] 62 (0, 0))) := ⟨h1_⟩
       have n2_ : Aside0 (Below w.heap.size w w13) := ⟨h2_⟩
       clear BK142
       clear HB
       clear h0_ h1_ h2_
       have HO145 := n0_
       have BK142 := n1_
       have HB := n2_
       clear n0_ n1_ n2_
       have hHeld : w13.cell? ⟨gb142, 0, none⟩ = some (.int .i64 a0_0) ∧ w13.cell? ⟨gb142, 1, none⟩ = some (.int .i64 a0_1) ∧ w13.cell? ⟨gb142, 2, none⟩ = some (.int .i64 a0_2) ∧ w13.cell? ⟨gb142, 3, none⟩ = some (.int .i64 a0_3) ∧ w13.cell? ⟨gb142, 4, none⟩ = some (.bool true) ∧ w13.cell? ⟨gb142, 5, none⟩ = some (.string a0_5) := hS_
       refine norm_ (a' := ?_) ?_ ?_
       rotate_left
       ·simp only [putAll, Act.put, List.setIfInBounds_toArray, List.set_cons_zero, List.set_cons_succ]
        rfl
       refine one_ (i := 17) (N := some 23) #[true, true, true, true, true, true, true, true, true, true, true, true, true, true, true, true, true, true, false, false, false] rfl rfl (one_of HT_.out B4x17_) (by decide) (fun K hK => ?_)
       refine Kd.R_lit_step (Kd.int .u8) _ 5 ?hg (N := 23) ?hd (xs := ([(wrap64 (Int.tdiv a0_3 8)) % 256, 1] : List Int)) (inner := [.int .u8 ((wrap64 (Int.tdiv a0_3 8)) % 256), .int .u8 1]) (ok := fun _ => True) (okp := fun _ => True) ?hr ?hp (fun _ hk => hk) trivial (Below.refl _ _) (Nat.le_refl _) (by simp) ?_; (case hd => rfl); (case hg => rfl); (case hr => exact B4x11_); (case hp => exact B4x10_)
       intro v148 w14 ho15 hb hg_ hnew_
       clear hg_ hnew_
       (first | rw [← Ny147.out] at ho15 | (simp only [Int.reduceToNat] at ho15; rw [← Ny147.out] at ho15))
       have HO149 := Aside0.mk (Kd.R_lower (Kd.R_new' ho15 (Kd.R_lt B4x3_)) (below_size B4x0_))
       replace HO145 := Aside0.mk (Kd.R_elder' B4x3_ (Kd.R_base ho15) hb)
       replace BK142 := Aside0.mk (blk_below (g := gb142) (o := .cells #[.int .i64 a0_0, .int .i64 a0_1, .int .i64 a0_2, .int .i64 a0_3, .bool true, .string a0_5] 62 (0, 0)) B4x2_ hb)
       replace HB := Aside0.mk (below_step B4x0_ hb)
       clear hb ho15
       refine hK.out _ _ ⟨(blk_cell BK142.out 0).trans rfl, (blk_cell BK142.out 1).trans rfl, (blk_cell BK142.out 2).trans rfl, (blk_cell BK142.out 3).trans rfl, (blk_cell BK142.out 4).trans rfl, (blk_cell BK142.out 5).trans rfl⟩ (fun hHeld => ?_)
       clear hK K
       refine norm_ (a' := ?_) ?_ ?_
       rotate_left
       ·show Act.put _ (some 23) _ = _
        simp only [Act.put, List.setIfInBounds_toArray, List.set_cons_zero, List.set_cons_succ, i64_w, i32_w]
        rfl
       exact norm_ B4x1_ (hJ6_7_10_17 (v144, v148) _ ⟨hHeld, B4x12_, B4x13_, B4x2_, B4x0_⟩)
     ·skip
      rintro ⟨v144, v148⟩ w15 ⟨hS_, h0_, h1_, h2_, h3_⟩
      have n0_ : Aside0 (Kd.R (Kd.int .u8) 5 w15 w.heap.size (fun k_ => some k_ ≠ (v148 : Value).ownBlock) v144 y143) := ⟨h0_⟩
      have n1_ : Aside0 (Kd.R (Kd.int .u8) 5 w15 w.heap.size (fun k_ => some k_ ≠ (v144 : Value).ownBlock) v148 y147) := ⟨h1_⟩
      have n2_ : Aside0 (w15.heap[gb142]? = some (.cells #[.int .i64 a0_0, .int .i64 a0_1, .int .i64 a0_2, .int .i64 a0_3, .bool true, .string a0_5] 62 (0, 0))) := ⟨h2_⟩
      have n3_ : Aside0 (Below w.heap.size w w15) := ⟨h3_⟩
      clear BK142
      clear HB
      clear h0_ h1_ h2_ h3_
      have HO145 := n0_
      have HO149 := n1_
      have BK142 := n2_
      have HB := n3_
      clear n0_ n1_ n2_ n3_
      have hHeld : w15.cell? ⟨gb142, 0, none⟩ = some (.int .i64 a0_0) ∧ w15.cell? ⟨gb142, 1, none⟩ = some (.int .i64 a0_1) ∧ w15.cell? ⟨gb142, 2, none⟩ = some (.int .i64 a0_2) ∧ w15.cell? ⟨gb142, 3, none⟩ = some (.int .i64 a0_3) ∧ w15.cell? ⟨gb142, 4, none⟩ = some (.bool true) ∧ w15.cell? ⟨gb142, 5, none⟩ = some (.string a0_5) := hS_
      refine norm_ (a' := ?_) ?_ ?_
      rotate_left
      ·simp only [putAll, Act.put, List.setIfInBounds_toArray, List.set_cons_zero, List.set_cons_succ]
       rfl
      refine one_ (i := 7) (N := some 13) #[true, true, true, true, true, true, true, true, true, true, true, false, true, true, true, true, true, true, true, false, false] rfl rfl (one_of HT_.out B4x17_) (by decide) (fun K hK => ?_)
      have hcv16 := own_string (P := Try.prog) Try.underlying59 Try.underlying5 Try.underlying9 (Kd.own_of_R HO145.out)
      refine value_ (w1 := ?_) (v := ?_) (by rfl) rfl ?_ ?_
      rotate_left 2
      ·go_simp
       constructor
       ·rfl
       ·rfl
      clear hcv16
      refine hK.out _ _ ⟨(blk_cell BK142.out 0).trans rfl, (blk_cell BK142.out 1).trans rfl, (blk_cell BK142.out 2).trans rfl, (blk_cell BK142.out 3).trans rfl, (blk_cell BK142.out 4).trans rfl, (blk_cell BK142.out 5).trans rfl⟩ (fun hHeld => ?_)
      clear hK K
      refine norm_ (a' := ?_) ?_ ?_
      rotate_left
      ·show Act.put _ (some 13) _ = _
       simp only [Act.put, List.setIfInBounds_toArray, List.set_cons_zero, List.set_cons_succ, i64_w, i32_w]
       rfl
      refine pu_ 11 17 HT_ ?_
      exact norm_ B4x1_ (hJ6_7_10_17_18 (v144, v148) _ ⟨hHeld, B4x3_, B4x4_, B4x2_, B4x0_⟩)
    ·skip
     rintro ⟨v144, v148⟩ w15 ⟨hS_, h0_, h1_, h2_, h3_⟩
     have n0_ : Aside0 (Kd.R (Kd.int .u8) 5 w15 w.heap.size (fun k_ => some k_ ≠ (v148 : Value).ownBlock) v144 y143) := ⟨h0_⟩
     have n1_ : Aside0 (Kd.R (Kd.int .u8) 5 w15 w.heap.size (fun k_ => some k_ ≠ (v144 : Value).ownBlock) v148 y147) := ⟨h1_⟩
     have n2_ : Aside0 (w15.heap[gb142]? = some (.cells #[.int .i64 a0_0, .int .i64 a0_1, .int .i64 a0_2, .int .i64 a0_3, .bool true, .string a0_5] 62 (0, 0))) := ⟨h2_⟩
     have n3_ : Aside0 (Below w.heap.size w w15) := ⟨h3_⟩
     clear BK142
     clear HB
     clear h0_ h1_ h2_ h3_
     have HO145 := n0_
     have HO149 := n1_
     have BK142 := n2_
     have HB := n3_
     clear n0_ n1_ n2_ n3_
     have hHeld : w15.cell? ⟨gb142, 0, none⟩ = some (.int .i64 a0_0) ∧ w15.cell? ⟨gb142, 1, none⟩ = some (.int .i64 a0_1) ∧ w15.cell? ⟨gb142, 2, none⟩ = some (.int .i64 a0_2) ∧ w15.cell? ⟨gb142, 3, none⟩ = some (.int .i64 a0_3) ∧ w15.cell? ⟨gb142, 4, none⟩ = some (.bool true) ∧ w15.cell? ⟨gb142, 5, none⟩ = some (.string a0_5) := hS_
     refine norm_ (a' := ?_) ?_ ?_
     rotate_left
     ·simp only [putAll, Act.put, List.setIfInBounds_toArray, List.set_cons_zero, List.set_cons_succ]
      rfl
     refine one_ (i := 10) (N := some 16) #[true, true, true, true, true, true, true, true, true, true, true, false, true, true, true, true, true, true, true, false, false] rfl rfl (one_of HT_.out B4x17_) (by decide) (fun K hK => ?_)
     refine goes_ Try.func118 B4x17_ rfl #[.int .i64 a0_2] (by rfl) rfl rfl B4x7_ ?_
     with_reducible refine (spec_l11Two.calls a0_2 t146 _ A3.out).mono ?_
     rintro e w16 ⟨rfl, hb⟩
     refine ⟨_, rfl, ?_⟩
     replace HO145 := Aside0.mk (Kd.R_below B4x3_ hb)
     replace HO149 := Aside0.mk (Kd.R_below B4x4_ hb)
     replace BK142 := Aside0.mk (blk_below (g := gb142) (o := .cells #[.int .i64 a0_0, .int .i64 a0_1, .int .i64 a0_2, .int .i64 a0_3, .bool true, .string a0_5] 62 (0, 0)) B4x2_ hb)
     replace HB := Aside0.mk (below_step B4x0_ hb)
     (try clear hb)
     (try clear hb2)
     (try clear hk)
     (try clear hi)
     refine hK.out _ _ ⟨(blk_cell BK142.out 0).trans rfl, (blk_cell BK142.out 1).trans rfl, (blk_cell BK142.out 2).trans rfl, (blk_cell BK142.out 3).trans rfl, (blk_cell BK142.out 4).trans rfl, (blk_cell BK142.out 5).trans rfl⟩ (fun hHeld => ?_)
     clear hK K
     refine norm_ (a' := ?_) ?_ ?_
     rotate_left
     ·show Act.put _ (some 16) _ = _
      simp only [Act.put, List.setIfInBounds_toArray, List.set_cons_zero, List.set_cons_succ, i64_w, i32_w]
      rfl
     refine pu_ 11 17 HT_ ?_
     exact norm_ B4x1_ (hJ6_7_10_17_18 (v144, v148) _ ⟨hHeld, B4x3_, B4x4_, B4x2_, B4x0_⟩)
   ·skip
    rintro ⟨v144, v148⟩ w15 ⟨hS_, h0_, h1_, h2_, h3_⟩
    have n0_ : Aside0 (Kd.R (Kd.int .u8) 5 w15 w.heap.size (fun k_ => some k_ ≠ (v148 : Value).ownBlock) v144 y143) := ⟨h0_⟩
    have n1_ : Aside0 (Kd.R (Kd.int .u8) 5 w15 w.heap.size (fun k_ => some k_ ≠ (v144 : Value).ownBlock) v148 y147) := ⟨h1_⟩
    have n2_ : Aside0 (w15.heap[gb142]? = some (.cells #[.int .i64 a0_0, .int .i64 a0_1, .int .i64 a0_2, .int .i64 a0_3, .bool true, .string a0_5] 62 (0, 0))) := ⟨h2_⟩
    have n3_ : Aside0 (Below w.heap.size w w15) := ⟨h3_⟩
    clear BK142
    clear HB
    clear h0_ h1_ h2_ h3_
    have HO145 := n0_
    have HO149 := n1_
    have BK142 := n2_
    have HB := n3_
    clear n0_ n1_ n2_ n3_
    have hHeld : w15.cell? ⟨gb142, 0, none⟩ = some (.int .i64 a0_0) ∧ w15.cell? ⟨gb142, 1, none⟩ = some (.int .i64 a0_1) ∧ w15.cell? ⟨gb142, 2, none⟩ = some (.int .i64 a0_2) ∧ w15.cell? ⟨gb142, 3, none⟩ = some (.int .i64 a0_3) ∧ w15.cell? ⟨gb142, 4, none⟩ = some (.bool true) ∧ w15.cell? ⟨gb142, 5, none⟩ = some (.string a0_5) := hS_
    refine norm_ (a' := ?_) ?_ ?_
    rotate_left
    ·simp only [putAll, Act.put, List.setIfInBounds_toArray, List.set_cons_zero, List.set_cons_succ]
     rfl
    refine one_ (i := 18) (N := some 24) #[true, true, true, true, true, true, true, true, true, true, true, true, true, true, true, true, true, true, true, false, false] rfl rfl (one_of HT_.out B4x17_) (by decide) (fun K hK => ?_)
    have hcv16 := own_string (P := Try.prog) Try.underlying59 Try.underlying5 Try.underlying9 (Kd.own_of_R HO149.out)
    refine value_ (w1 := ?_) (v := ?_) (by rfl) rfl ?_ ?_
    rotate_left 2
    ·go_simp
     constructor
     ·rfl
     ·rfl
    clear hcv16
    refine hK.out _ _ ⟨(blk_cell BK142.out 0).trans rfl, (blk_cell BK142.out 1).trans rfl, (blk_cell BK142.out 2).trans rfl, (blk_cell BK142.out 3).trans rfl, (blk_cell BK142.out 4).trans rfl, (blk_cell BK142.out 5).trans rfl⟩ (fun hHeld => ?_)
    clear hK K
    refine norm_ (a' := ?_) ?_ ?_
    rotate_left
    ·show Act.put _ (some 24) _ = _
     simp only [Act.put, List.setIfInBounds_toArray, List.set_cons_zero, List.set_cons_succ, i64_w, i32_w]
     rfl
    exact norm_ B4x1_ (hJ6_7_10_17_18 (v144, v148) _ ⟨hHeld, B4x3_, B4x4_, B4x2_, B4x0_⟩)
  rintro ⟨v144, v148⟩ w16 ⟨hS_, h0_, h1_, h2_, h3_⟩
  have n0_ : Aside0 (Kd.R (Kd.int .u8) 5 w16 w.heap.size (fun k_ => some k_ ≠ (v148 : Value).ownBlock) v144 y143) := ⟨h0_⟩
  have n1_ : Aside0 (Kd.R (Kd.int .u8) 5 w16 w.heap.size (fun k_ => some k_ ≠ (v144 : Value).ownBlock) v148 y147) := ⟨h1_⟩
  have n2_ : Aside0 (w16.heap[gb142]? = some (.cells #[.int .i64 a0_0, .int .i64 a0_1, .int .i64 a0_2, .int .i64 a0_3, .bool true, .string a0_5] 62 (0, 0))) := ⟨h2_⟩
  have n3_ : Aside0 (Below w.heap.size w w16) := ⟨h3_⟩
  clear BK142
  clear HB
  clear h0_ h1_ h2_ h3_
  have HO145 := n0_
  have HO149 := n1_
  have BK142 := n2_
  have HB := n3_
  clear n0_ n1_ n2_ n3_
  have hHeld : w16.cell? ⟨gb142, 0, none⟩ = some (.int .i64 a0_0) ∧ w16.cell? ⟨gb142, 1, none⟩ = some (.int .i64 a0_1) ∧ w16.cell? ⟨gb142, 2, none⟩ = some (.int .i64 a0_2) ∧ w16.cell? ⟨gb142, 3, none⟩ = some (.int .i64 a0_3) ∧ w16.cell? ⟨gb142, 4, none⟩ = some (.bool true) ∧ w16.cell? ⟨gb142, 5, none⟩ = some (.string a0_5) := hS_
  refine norm_ (a' := ?_) ?_ ?_
  rotate_left
  ·simp only [putAll, Act.put, List.setIfInBounds_toArray, List.set_cons_zero, List.set_cons_succ]
   rfl
  refine pu_ 19 25 HT_ ?_
  refine pu_ 20 2 HT_ ?_
  refine done_ (done_of HT_.out B4x17_) ?_
  try go_wp2
  go_ret
  exact ⟨B4x18_, B4x0_⟩
 ·replace c2 := Bool.eq_false_iff.mpr c2
  subst c2
  rw [if_neg (show ¬ (false = true) by decide)] at H
  obtain ⟨y150, hy150⟩ : ∃ y_ : List Int, y_ = (([(a0_0) % 256, (a0_1) % 256] : List Int)) := ⟨_, rfl⟩
  replace H : ((spec_l11Two.f a0_2).bind fun t153 => (if (strOfNums y150).size + t153.size ≤ 9223372036854775807 then ((some (([(wrap64 (Int.tdiv a0_3 8)) % 256, 0] : List Int) : List Int)).bind fun y154 => (if ((strOfNums y150) ++ t153).size + (strOfNums y154).size ≤ 9223372036854775807 then (some (((strOfNums y150) ++ t153) ++ (strOfNums y154))) else (none))) else (none))) = some r := by first | (rw [hy150]; with_reducible exact H) | (have H2_ := (Option.bind_some _ _).symm.trans H; rw [hy150]; with_reducible exact H2_) | (have H2_ := (Option.bind_some _ _).symm.trans H; with_reducible exact H2_) | with_reducible exact H | (rw [hy150]; exact H) | exact H
  have Ny150 := Aside0.mk hy150
  clear hy150
  replace H := Option.bind_eq_some_iff.mp H
  obtain ⟨t153, A170, H⟩ := H
  (try dsimp only at H)
  have A17 := Aside0.mk A170
  clear A170
  by_cases c18 : (strOfNums y150).size + t153.size ≤ 9223372036854775807
  rotate_left
  ·rw [if_neg c18] at H
   exact absurd H (by simp)
  rw [if_pos c18] at H
  have c18b0 := eq_true c18
  have c18b1 : decide ((strOfNums y150).size + t153.size ≤ 9223372036854775807) = true := decide_eq_true c18
  try have c18b2 : (9223372036854775807 < (strOfNums y150).size + t153.size) = False := eq_false (Nat.not_lt.2 c18)
  try (have c18b9 := c18b2; simp only [ByteArray.size_append] at c18b9)
  obtain ⟨y154, hy154⟩ : ∃ y_ : List Int, y_ = (([(wrap64 (Int.tdiv a0_3 8)) % 256, 0] : List Int)) := ⟨_, rfl⟩
  replace H : (if ((strOfNums y150) ++ t153).size + (strOfNums y154).size ≤ 9223372036854775807 then (some (((strOfNums y150) ++ t153) ++ (strOfNums y154))) else (none)) = some r := by first | (rw [hy154]; with_reducible exact H) | (have H2_ := (Option.bind_some _ _).symm.trans H; rw [hy154]; with_reducible exact H2_) | (have H2_ := (Option.bind_some _ _).symm.trans H; with_reducible exact H2_) | with_reducible exact H | (rw [hy154]; exact H) | exact H
  have Ny154 := Aside0.mk hy154
  clear hy154
  by_cases c19 : ((strOfNums y150) ++ t153).size + (strOfNums y154).size ≤ 9223372036854775807
  rotate_left
  ·rw [if_neg c19] at H
   exact absurd H (by simp)
  rw [if_pos c19] at H
  have c19b0 := eq_true c19
  have c19b1 : decide (((strOfNums y150) ++ t153).size + (strOfNums y154).size ≤ 9223372036854775807) = true := decide_eq_true c19
  try have c19b2 : (9223372036854775807 < ((strOfNums y150) ++ t153).size + (strOfNums y154).size) = False := eq_false (Nat.not_lt.2 c19)
  try have c19b8 : (9223372036854775807 < (strOfNums y150).size + t153.size + (strOfNums y154).size) = False := eq_false (by have h_ := c19; simp only [ByteArray.size_append, ByteArray.size_extract, decide_eq_true_eq, decide_eq_false_iff_not] at *; omega)
  try (have c19b9 := c19b2; simp only [ByteArray.size_append] at c19b9)
  obtain rfl := Option.some.inj H
  go_enter Try.func119, Try.ntmps119
  try go_wp2_with (first | ((with_reducible refine gate_dst (N := 1) rfl ?_); refine box_event ?hg (N := 1) ?hd (cs := #[.int .i64 a0_0, .int .i64 a0_1, .int .i64 a0_2, .int .i64 a0_3, .bool false, .string a0_5]) (t := 62) ?hr ?_; (case hd => rfl); (case hg => rfl); (case hr => exact B4x11_); intro gb142 hg w20 hbox hb; have BK142 := Aside0.mk (hbox); have GW142 := Aside0.mk ((by rw [hg]; exact (below_size B4x16_) : w.heap.size ≤ gb142)); have GE142 := Aside0.mk ((by rw [hg]; exact (below_size B4x16_) : w.heap.size ≤ gb142)); replace HB := Aside0.mk (below_step B4x16_ hb); clear hb hbox hg; obtain ⟨hcz21_0, hcz21_1, hcz21_2, hcz21_3, hcz21_4, hcz21_5⟩ := cl6 BK142.out; obtain ⟨hfz21_0, hfz21_1, hfz21_2, hfz21_3, hfz21_4, hfz21_5⟩ := fr6 BK142.out))
  replace BK142 := Aside0.mk (blk_drew BK142.out)
  replace HB := Aside0.mk (below_drew1 HB.out)
  refine start_ (n := 21) (S := fun w' => w'.cell? ⟨gb142, 0, none⟩ = some (.int .i64 a0_0) ∧ w'.cell? ⟨gb142, 1, none⟩ = some (.int .i64 a0_1) ∧ w'.cell? ⟨gb142, 2, none⟩ = some (.int .i64 a0_2) ∧ w'.cell? ⟨gb142, 3, none⟩ = some (.int .i64 a0_3) ∧ w'.cell? ⟨gb142, 4, none⟩ = some (.bool false) ∧ w'.cell? ⟨gb142, 5, none⟩ = some (.string a0_5)) (ds := []) #[false, false, false, false, false, false, false, false, false, false, false, false, false, false, false, false, false, false, false, false, false] B4x17_ rfl rfl ⟨(blk_cell BK142.out 0).trans rfl, (blk_cell BK142.out 1).trans rfl, (blk_cell BK142.out 2).trans rfl, (blk_cell BK142.out 3).trans rfl, (blk_cell BK142.out 4).trans rfl, (blk_cell BK142.out 5).trans rfl⟩ (fun hHeld => ?_); refine with_tabW spec_l11Head.tab4 spec_l11Head.bits4 (fun HT_ HW_ => ?_)
  generalize w20.drew = w22 at BK142 HB hHeld ⊢
  refine pu_ 0 6 HT_ ?_
  refine pu_ 3 9 HT_ ?_
  refine pu_ 8 14 HT_ ?_
  refine pu_ 12 18 HT_ ?_
  refine pu_ 16 22 HT_ ?_
  refine ta_ 1 7 HT_ HW_ hHeld ?_
  refine pu_ 2 8 HT_ ?_
  refine ta_ 4 10 HT_ HW_ hHeld ?_
  refine pu_ 5 11 HT_ ?_
  refine ta_ 9 15 HT_ HW_ hHeld ?_
  refine ta_ 13 19 HT_ HW_ hHeld ?_
  refine pu_ 14 20 HT_ ?_
  refine pu_ 15 21 HT_ ?_
  refine join_ (σ := Value × Value) 2 #[true, true, true, true, true, true, true, true, true, true, true, true, true, true, true, true, true, true, true, false, false] (fun s_ => [(12, s_.1), (13, .string (strOfNums y150)), (16, .string t153), (23, s_.2), (24, .string (strOfNums y154)), (17, .string ((strOfNums y150) ++ t153))]) (fun s_ w' => (w'.cell? ⟨gb142, 0, none⟩ = some (.int .i64 a0_0) ∧ w'.cell? ⟨gb142, 1, none⟩ = some (.int .i64 a0_1) ∧ w'.cell? ⟨gb142, 2, none⟩ = some (.int .i64 a0_2) ∧ w'.cell? ⟨gb142, 3, none⟩ = some (.int .i64 a0_3) ∧ w'.cell? ⟨gb142, 4, none⟩ = some (.bool false) ∧ w'.cell? ⟨gb142, 5, none⟩ = some (.string a0_5)) ∧ (Kd.R (Kd.int .u8) 5 w' w.heap.size (fun k_ => some k_ ≠ (s_.2 : Value).ownBlock) s_.1 y150) ∧ (Kd.R (Kd.int .u8) 5 w' w.heap.size (fun k_ => some k_ ≠ (s_.1 : Value).ownBlock) s_.2 y154) ∧ (w'.heap[gb142]? = some (.cells #[.int .i64 a0_0, .int .i64 a0_1, .int .i64 a0_2, .int .i64 a0_3, .bool false, .string a0_5] 62 (0, 0))) ∧ (Below w.heap.size w w')) ?_ ?_
  rotate_left
  ·intro hJ6_7_10_17_18
   refine join_ (σ := Value × Value) 3 #[true, true, true, true, true, true, true, true, true, true, true, true, true, true, true, true, true, true, false, false, false] (fun s_ => [(12, s_.1), (13, .string (strOfNums y150)), (16, .string t153), (23, s_.2), (17, .string ((strOfNums y150) ++ t153))]) (fun s_ w' => (w'.cell? ⟨gb142, 0, none⟩ = some (.int .i64 a0_0) ∧ w'.cell? ⟨gb142, 1, none⟩ = some (.int .i64 a0_1) ∧ w'.cell? ⟨gb142, 2, none⟩ = some (.int .i64 a0_2) ∧ w'.cell? ⟨gb142, 3, none⟩ = some (.int .i64 a0_3) ∧ w'.cell? ⟨gb142, 4, none⟩ = some (.bool false) ∧ w'.cell? ⟨gb142, 5, none⟩ = some (.string a0_5)) ∧ (Kd.R (Kd.int .u8) 5 w' w.heap.size (fun k_ => some k_ ≠ (s_.2 : Value).ownBlock) s_.1 y150) ∧ (Kd.R (Kd.int .u8) 5 w' w.heap.size (fun k_ => some k_ ≠ (s_.1 : Value).ownBlock) s_.2 y154) ∧ (w'.heap[gb142]? = some (.cells #[.int .i64 a0_0, .int .i64 a0_1, .int .i64 a0_2, .int .i64 a0_3, .bool false, .string a0_5] 62 (0, 0))) ∧ (Below w.heap.size w w')) ?_ ?_
   rotate_left
   ·intro hJ6_7_10_17
    refine join_ (σ := Value × Value) 4 #[true, true, true, true, true, true, true, true, true, true, false, false, true, true, true, true, true, true, true, false, false] (fun s_ => [(12, s_.1), (13, .string (strOfNums y150)), (23, s_.2), (24, .string (strOfNums y154))]) (fun s_ w' => (w'.cell? ⟨gb142, 0, none⟩ = some (.int .i64 a0_0) ∧ w'.cell? ⟨gb142, 1, none⟩ = some (.int .i64 a0_1) ∧ w'.cell? ⟨gb142, 2, none⟩ = some (.int .i64 a0_2) ∧ w'.cell? ⟨gb142, 3, none⟩ = some (.int .i64 a0_3) ∧ w'.cell? ⟨gb142, 4, none⟩ = some (.bool false) ∧ w'.cell? ⟨gb142, 5, none⟩ = some (.string a0_5)) ∧ (Kd.R (Kd.int .u8) 5 w' w.heap.size (fun k_ => some k_ ≠ (s_.2 : Value).ownBlock) s_.1 y150) ∧ (Kd.R (Kd.int .u8) 5 w' w.heap.size (fun k_ => some k_ ≠ (s_.1 : Value).ownBlock) s_.2 y154) ∧ (w'.heap[gb142]? = some (.cells #[.int .i64 a0_0, .int .i64 a0_1, .int .i64 a0_2, .int .i64 a0_3, .bool false, .string a0_5] 62 (0, 0))) ∧ (Below w.heap.size w w')) ?_ ?_
    rotate_left
    ·intro hJ6_7_17_18
     refine join_ (σ := Value × Value) 4 #[true, true, true, true, true, true, true, false, true, true, true, false, true, true, true, true, true, true, true, false, false] (fun s_ => [(12, s_.1), (16, .string t153), (23, s_.2), (24, .string (strOfNums y154))]) (fun s_ w' => (w'.cell? ⟨gb142, 0, none⟩ = some (.int .i64 a0_0) ∧ w'.cell? ⟨gb142, 1, none⟩ = some (.int .i64 a0_1) ∧ w'.cell? ⟨gb142, 2, none⟩ = some (.int .i64 a0_2) ∧ w'.cell? ⟨gb142, 3, none⟩ = some (.int .i64 a0_3) ∧ w'.cell? ⟨gb142, 4, none⟩ = some (.bool false) ∧ w'.cell? ⟨gb142, 5, none⟩ = some (.string a0_5)) ∧ (Kd.R (Kd.int .u8) 5 w' w.heap.size (fun k_ => some k_ ≠ (s_.2 : Value).ownBlock) s_.1 y150) ∧ (Kd.R (Kd.int .u8) 5 w' w.heap.size (fun k_ => some k_ ≠ (s_.1 : Value).ownBlock) s_.2 y154) ∧ (w'.heap[gb142]? = some (.cells #[.int .i64 a0_0, .int .i64 a0_1, .int .i64 a0_2, .int .i64 a0_3, .bool false, .string a0_5] 62 (0, 0))) ∧ (Below w.heap.size w w')) ?_ ?_
     rotate_left
     ·intro hJ6_10_17_18
      refine join_ (σ := Value) 4 #[true, true, true, true, true, true, true, true, true, true, true, true, true, true, true, true, true, false, false, false, false] (fun s_ => [(12, s_), (13, .string (strOfNums y150)), (16, .string t153), (17, .string ((strOfNums y150) ++ t153))]) (fun s_ w' => (w'.cell? ⟨gb142, 0, none⟩ = some (.int .i64 a0_0) ∧ w'.cell? ⟨gb142, 1, none⟩ = some (.int .i64 a0_1) ∧ w'.cell? ⟨gb142, 2, none⟩ = some (.int .i64 a0_2) ∧ w'.cell? ⟨gb142, 3, none⟩ = some (.int .i64 a0_3) ∧ w'.cell? ⟨gb142, 4, none⟩ = some (.bool false) ∧ w'.cell? ⟨gb142, 5, none⟩ = some (.string a0_5)) ∧ (Kd.R (Kd.int .u8) 5 w' w.heap.size (fun _ => True) s_ y150) ∧ (w'.heap[gb142]? = some (.cells #[.int .i64 a0_0, .int .i64 a0_1, .int .i64 a0_2, .int .i64 a0_3, .bool false, .string a0_5] 62 (0, 0))) ∧ (Below w.heap.size w w')) ?_ ?_
      rotate_left
      ·intro hJ6_7_10
       refine join_ (σ := Value × Value) 5 #[true, true, true, true, true, true, true, true, true, true, false, false, true, true, true, true, true, true, false, false, false] (fun s_ => [(12, s_.1), (13, .string (strOfNums y150)), (23, s_.2)]) (fun s_ w' => (w'.cell? ⟨gb142, 0, none⟩ = some (.int .i64 a0_0) ∧ w'.cell? ⟨gb142, 1, none⟩ = some (.int .i64 a0_1) ∧ w'.cell? ⟨gb142, 2, none⟩ = some (.int .i64 a0_2) ∧ w'.cell? ⟨gb142, 3, none⟩ = some (.int .i64 a0_3) ∧ w'.cell? ⟨gb142, 4, none⟩ = some (.bool false) ∧ w'.cell? ⟨gb142, 5, none⟩ = some (.string a0_5)) ∧ (Kd.R (Kd.int .u8) 5 w' w.heap.size (fun k_ => some k_ ≠ (s_.2 : Value).ownBlock) s_.1 y150) ∧ (Kd.R (Kd.int .u8) 5 w' w.heap.size (fun k_ => some k_ ≠ (s_.1 : Value).ownBlock) s_.2 y154) ∧ (w'.heap[gb142]? = some (.cells #[.int .i64 a0_0, .int .i64 a0_1, .int .i64 a0_2, .int .i64 a0_3, .bool false, .string a0_5] 62 (0, 0))) ∧ (Below w.heap.size w w')) ?_ ?_
       rotate_left
       ·intro hJ6_7_17
        refine join_ (σ := Value × Value) 5 #[true, true, true, true, true, true, true, false, true, true, true, false, true, true, true, true, true, true, false, false, false] (fun s_ => [(12, s_.1), (16, .string t153), (23, s_.2)]) (fun s_ w' => (w'.cell? ⟨gb142, 0, none⟩ = some (.int .i64 a0_0) ∧ w'.cell? ⟨gb142, 1, none⟩ = some (.int .i64 a0_1) ∧ w'.cell? ⟨gb142, 2, none⟩ = some (.int .i64 a0_2) ∧ w'.cell? ⟨gb142, 3, none⟩ = some (.int .i64 a0_3) ∧ w'.cell? ⟨gb142, 4, none⟩ = some (.bool false) ∧ w'.cell? ⟨gb142, 5, none⟩ = some (.string a0_5)) ∧ (Kd.R (Kd.int .u8) 5 w' w.heap.size (fun k_ => some k_ ≠ (s_.2 : Value).ownBlock) s_.1 y150) ∧ (Kd.R (Kd.int .u8) 5 w' w.heap.size (fun k_ => some k_ ≠ (s_.1 : Value).ownBlock) s_.2 y154) ∧ (w'.heap[gb142]? = some (.cells #[.int .i64 a0_0, .int .i64 a0_1, .int .i64 a0_2, .int .i64 a0_3, .bool false, .string a0_5] 62 (0, 0))) ∧ (Below w.heap.size w w')) ?_ ?_
        rotate_left
        ·intro hJ6_10_17
         refine join_ (σ := Value × Value) 5 #[true, true, true, true, true, true, true, false, true, true, false, false, true, true, true, true, true, true, true, false, false] (fun s_ => [(12, s_.1), (23, s_.2), (24, .string (strOfNums y154))]) (fun s_ w' => (w'.cell? ⟨gb142, 0, none⟩ = some (.int .i64 a0_0) ∧ w'.cell? ⟨gb142, 1, none⟩ = some (.int .i64 a0_1) ∧ w'.cell? ⟨gb142, 2, none⟩ = some (.int .i64 a0_2) ∧ w'.cell? ⟨gb142, 3, none⟩ = some (.int .i64 a0_3) ∧ w'.cell? ⟨gb142, 4, none⟩ = some (.bool false) ∧ w'.cell? ⟨gb142, 5, none⟩ = some (.string a0_5)) ∧ (Kd.R (Kd.int .u8) 5 w' w.heap.size (fun k_ => some k_ ≠ (s_.2 : Value).ownBlock) s_.1 y150) ∧ (Kd.R (Kd.int .u8) 5 w' w.heap.size (fun k_ => some k_ ≠ (s_.1 : Value).ownBlock) s_.2 y154) ∧ (w'.heap[gb142]? = some (.cells #[.int .i64 a0_0, .int .i64 a0_1, .int .i64 a0_2, .int .i64 a0_3, .bool false, .string a0_5] 62 (0, 0))) ∧ (Below w.heap.size w w')) ?_ ?_
         rotate_left
         ·intro hJ6_17_18
          refine join_ (σ := Value) 5 #[true, true, true, true, true, true, false, false, true, true, true, false, true, true, true, true, true, true, true, false, false] (fun s_ => [(16, .string t153), (23, s_), (24, .string (strOfNums y154))]) (fun s_ w' => (w'.cell? ⟨gb142, 0, none⟩ = some (.int .i64 a0_0) ∧ w'.cell? ⟨gb142, 1, none⟩ = some (.int .i64 a0_1) ∧ w'.cell? ⟨gb142, 2, none⟩ = some (.int .i64 a0_2) ∧ w'.cell? ⟨gb142, 3, none⟩ = some (.int .i64 a0_3) ∧ w'.cell? ⟨gb142, 4, none⟩ = some (.bool false) ∧ w'.cell? ⟨gb142, 5, none⟩ = some (.string a0_5)) ∧ (Kd.R (Kd.int .u8) 5 w' w.heap.size (fun _ => True) s_ y154) ∧ (w'.heap[gb142]? = some (.cells #[.int .i64 a0_0, .int .i64 a0_1, .int .i64 a0_2, .int .i64 a0_3, .bool false, .string a0_5] 62 (0, 0))) ∧ (Below w.heap.size w w')) ?_ ?_
          rotate_left
          ·intro hJ10_17_18
           refine join_ (σ := Value) 6 #[true, true, true, true, true, true, true, true, true, true, false, false, true, true, true, true, true, false, false, false, false] (fun s_ => [(12, s_), (13, .string (strOfNums y150))]) (fun s_ w' => (w'.cell? ⟨gb142, 0, none⟩ = some (.int .i64 a0_0) ∧ w'.cell? ⟨gb142, 1, none⟩ = some (.int .i64 a0_1) ∧ w'.cell? ⟨gb142, 2, none⟩ = some (.int .i64 a0_2) ∧ w'.cell? ⟨gb142, 3, none⟩ = some (.int .i64 a0_3) ∧ w'.cell? ⟨gb142, 4, none⟩ = some (.bool false) ∧ w'.cell? ⟨gb142, 5, none⟩ = some (.string a0_5)) ∧ (Kd.R (Kd.int .u8) 5 w' w.heap.size (fun _ => True) s_ y150) ∧ (w'.heap[gb142]? = some (.cells #[.int .i64 a0_0, .int .i64 a0_1, .int .i64 a0_2, .int .i64 a0_3, .bool false, .string a0_5] 62 (0, 0))) ∧ (Below w.heap.size w w')) ?_ ?_
           rotate_left
           ·intro hJ6_7
            refine join_ (σ := Value) 6 #[true, true, true, true, true, true, true, false, true, true, true, false, true, true, true, true, true, false, false, false, false] (fun s_ => [(12, s_), (16, .string t153)]) (fun s_ w' => (w'.cell? ⟨gb142, 0, none⟩ = some (.int .i64 a0_0) ∧ w'.cell? ⟨gb142, 1, none⟩ = some (.int .i64 a0_1) ∧ w'.cell? ⟨gb142, 2, none⟩ = some (.int .i64 a0_2) ∧ w'.cell? ⟨gb142, 3, none⟩ = some (.int .i64 a0_3) ∧ w'.cell? ⟨gb142, 4, none⟩ = some (.bool false) ∧ w'.cell? ⟨gb142, 5, none⟩ = some (.string a0_5)) ∧ (Kd.R (Kd.int .u8) 5 w' w.heap.size (fun _ => True) s_ y150) ∧ (w'.heap[gb142]? = some (.cells #[.int .i64 a0_0, .int .i64 a0_1, .int .i64 a0_2, .int .i64 a0_3, .bool false, .string a0_5] 62 (0, 0))) ∧ (Below w.heap.size w w')) ?_ ?_
            rotate_left
            ·intro hJ6_10
             refine join_ (σ := Value × Value) 6 #[true, true, true, true, true, true, true, false, true, true, false, false, true, true, true, true, true, true, false, false, false] (fun s_ => [(12, s_.1), (23, s_.2)]) (fun s_ w' => (w'.cell? ⟨gb142, 0, none⟩ = some (.int .i64 a0_0) ∧ w'.cell? ⟨gb142, 1, none⟩ = some (.int .i64 a0_1) ∧ w'.cell? ⟨gb142, 2, none⟩ = some (.int .i64 a0_2) ∧ w'.cell? ⟨gb142, 3, none⟩ = some (.int .i64 a0_3) ∧ w'.cell? ⟨gb142, 4, none⟩ = some (.bool false) ∧ w'.cell? ⟨gb142, 5, none⟩ = some (.string a0_5)) ∧ (Kd.R (Kd.int .u8) 5 w' w.heap.size (fun k_ => some k_ ≠ (s_.2 : Value).ownBlock) s_.1 y150) ∧ (Kd.R (Kd.int .u8) 5 w' w.heap.size (fun k_ => some k_ ≠ (s_.1 : Value).ownBlock) s_.2 y154) ∧ (w'.heap[gb142]? = some (.cells #[.int .i64 a0_0, .int .i64 a0_1, .int .i64 a0_2, .int .i64 a0_3, .bool false, .string a0_5] 62 (0, 0))) ∧ (Below w.heap.size w w')) ?_ ?_
             rotate_left
             ·intro hJ6_17
              refine join_ (σ := Value) 6 #[true, true, true, true, true, true, false, false, true, true, true, false, true, true, true, true, true, true, false, false, false] (fun s_ => [(16, .string t153), (23, s_)]) (fun s_ w' => (w'.cell? ⟨gb142, 0, none⟩ = some (.int .i64 a0_0) ∧ w'.cell? ⟨gb142, 1, none⟩ = some (.int .i64 a0_1) ∧ w'.cell? ⟨gb142, 2, none⟩ = some (.int .i64 a0_2) ∧ w'.cell? ⟨gb142, 3, none⟩ = some (.int .i64 a0_3) ∧ w'.cell? ⟨gb142, 4, none⟩ = some (.bool false) ∧ w'.cell? ⟨gb142, 5, none⟩ = some (.string a0_5)) ∧ (Kd.R (Kd.int .u8) 5 w' w.heap.size (fun _ => True) s_ y154) ∧ (w'.heap[gb142]? = some (.cells #[.int .i64 a0_0, .int .i64 a0_1, .int .i64 a0_2, .int .i64 a0_3, .bool false, .string a0_5] 62 (0, 0))) ∧ (Below w.heap.size w w')) ?_ ?_
              rotate_left
              ·intro hJ10_17
               refine join_ (σ := Value) 6 #[true, true, true, true, true, true, false, false, true, true, false, false, true, true, true, true, true, true, true, false, false] (fun s_ => [(23, s_), (24, .string (strOfNums y154))]) (fun s_ w' => (w'.cell? ⟨gb142, 0, none⟩ = some (.int .i64 a0_0) ∧ w'.cell? ⟨gb142, 1, none⟩ = some (.int .i64 a0_1) ∧ w'.cell? ⟨gb142, 2, none⟩ = some (.int .i64 a0_2) ∧ w'.cell? ⟨gb142, 3, none⟩ = some (.int .i64 a0_3) ∧ w'.cell? ⟨gb142, 4, none⟩ = some (.bool false) ∧ w'.cell? ⟨gb142, 5, none⟩ = some (.string a0_5)) ∧ (Kd.R (Kd.int .u8) 5 w' w.heap.size (fun _ => True) s_ y154) ∧ (w'.heap[gb142]? = some (.cells #[.int .i64 a0_0, .int .i64 a0_1, .int .i64 a0_2, .int .i64 a0_3, .bool false, .string a0_5] 62 (0, 0))) ∧ (Below w.heap.size w w')) ?_ ?_
               rotate_left
               ·intro hJ17_18
                refine join_ (σ := Value) 7 #[true, true, true, true, true, true, true, false, true, true, false, false, true, true, true, true, true, false, false, false, false] (fun s_ => [(12, s_)]) (fun s_ w' => (w'.cell? ⟨gb142, 0, none⟩ = some (.int .i64 a0_0) ∧ w'.cell? ⟨gb142, 1, none⟩ = some (.int .i64 a0_1) ∧ w'.cell? ⟨gb142, 2, none⟩ = some (.int .i64 a0_2) ∧ w'.cell? ⟨gb142, 3, none⟩ = some (.int .i64 a0_3) ∧ w'.cell? ⟨gb142, 4, none⟩ = some (.bool false) ∧ w'.cell? ⟨gb142, 5, none⟩ = some (.string a0_5)) ∧ (Kd.R (Kd.int .u8) 5 w' w.heap.size (fun _ => True) s_ y150) ∧ (w'.heap[gb142]? = some (.cells #[.int .i64 a0_0, .int .i64 a0_1, .int .i64 a0_2, .int .i64 a0_3, .bool false, .string a0_5] 62 (0, 0))) ∧ (Below w.heap.size w w')) ?_ ?_
                rotate_left
                ·intro hJ6
                 refine join_ (σ := Unit) 7 #[true, true, true, true, true, true, false, false, true, true, true, false, true, true, true, true, true, false, false, false, false] (fun s_ => [(16, .string t153)]) (fun s_ w' => (w'.cell? ⟨gb142, 0, none⟩ = some (.int .i64 a0_0) ∧ w'.cell? ⟨gb142, 1, none⟩ = some (.int .i64 a0_1) ∧ w'.cell? ⟨gb142, 2, none⟩ = some (.int .i64 a0_2) ∧ w'.cell? ⟨gb142, 3, none⟩ = some (.int .i64 a0_3) ∧ w'.cell? ⟨gb142, 4, none⟩ = some (.bool false) ∧ w'.cell? ⟨gb142, 5, none⟩ = some (.string a0_5)) ∧ (w'.heap[gb142]? = some (.cells #[.int .i64 a0_0, .int .i64 a0_1, .int .i64 a0_2, .int .i64 a0_3, .bool false, .string a0_5] 62 (0, 0))) ∧ (Below w.heap.size w w')) ?_ ?_
                 rotate_left
                 ·intro hJ10
                  refine join_ (σ := Value) 7 #[true, true, true, true, true, true, false, false, true, true, false, false, true, true, true, true, true, true, false, false, false] (fun s_ => [(23, s_)]) (fun s_ w' => (w'.cell? ⟨gb142, 0, none⟩ = some (.int .i64 a0_0) ∧ w'.cell? ⟨gb142, 1, none⟩ = some (.int .i64 a0_1) ∧ w'.cell? ⟨gb142, 2, none⟩ = some (.int .i64 a0_2) ∧ w'.cell? ⟨gb142, 3, none⟩ = some (.int .i64 a0_3) ∧ w'.cell? ⟨gb142, 4, none⟩ = some (.bool false) ∧ w'.cell? ⟨gb142, 5, none⟩ = some (.string a0_5)) ∧ (Kd.R (Kd.int .u8) 5 w' w.heap.size (fun _ => True) s_ y154) ∧ (w'.heap[gb142]? = some (.cells #[.int .i64 a0_0, .int .i64 a0_1, .int .i64 a0_2, .int .i64 a0_3, .bool false, .string a0_5] 62 (0, 0))) ∧ (Below w.heap.size w w')) ?_ ?_
                  rotate_left
                  ·intro hJ17
                   refine three_ (i := 6) (j := 10) (k := 17) (Ni := some 12) (Nj := some 16) (Nk := some 23) #[true, true, true, true, true, true, true, false, true, true, false, false, true, true, true, true, true, false, false, false, false] #[true, true, true, true, true, true, false, false, true, true, true, false, true, true, true, true, true, false, false, false, false] #[true, true, true, true, true, true, false, false, true, true, false, false, true, true, true, true, true, true, false, false, false] rfl rfl rfl rfl rfl rfl (three_of HT_.out B4x17_) (by decide) (by decide) (by decide) (fun K hK => ?_) (fun K hK => ?_) (fun K hK => ?_)
                   ·skip
                    refine Kd.R_lit_step (Kd.int .u8) _ 5 ?hg (N := 12) ?hd (xs := ([(a0_0) % 256, (a0_1) % 256] : List Int)) (inner := [.int .u8 ((a0_0) % 256), .int .u8 ((a0_1) % 256)]) (ok := fun _ => True) (okp := fun _ => True) ?hr ?hp (fun _ hk => hk) trivial (Below.refl _ _) (Nat.le_refl _) (by simp) ?_; (case hd => rfl); (case hg => rfl); (case hr => exact B4x11_); (case hp => exact B4x8_)
                    intro v151 w23 ho24 hb hg_ hnew_
                    clear hg_ hnew_
                    (first | rw [← Ny150.out] at ho24 | (simp only [Int.reduceToNat] at ho24; rw [← Ny150.out] at ho24))
                    have HO152 := Aside0.mk (Kd.R_lower ho24 (below_size B4x0_))
                    replace BK142 := Aside0.mk (blk_below (g := gb142) (o := .cells #[.int .i64 a0_0, .int .i64 a0_1, .int .i64 a0_2, .int .i64 a0_3, .bool false, .string a0_5] 62 (0, 0)) B4x2_ hb)
                    replace HB := Aside0.mk (below_step B4x0_ hb)
                    clear hb ho24
                    refine hK.out _ _ ⟨(blk_cell BK142.out 0).trans rfl, (blk_cell BK142.out 1).trans rfl, (blk_cell BK142.out 2).trans rfl, (blk_cell BK142.out 3).trans rfl, (blk_cell BK142.out 4).trans rfl, (blk_cell BK142.out 5).trans rfl⟩ (fun hHeld => ?_)
                    clear hK K
                    refine norm_ (a' := ?_) ?_ ?_
                    rotate_left
                    ·show Act.put _ (some 12) _ = _
                     simp only [Act.put, List.setIfInBounds_toArray, List.set_cons_zero, List.set_cons_succ, i64_w, i32_w]
                     rfl
                    exact norm_ B4x1_ (hJ6 (v151) _ ⟨hHeld, B4x5_, B4x2_, B4x0_⟩)
                   ·skip
                    refine goes_ Try.func118 B4x17_ rfl #[.int .i64 a0_2] (by rfl) rfl rfl B4x7_ ?_
                    with_reducible refine (spec_l11Two.calls a0_2 t153 _ A17.out).mono ?_
                    rintro e w23 ⟨rfl, hb⟩
                    refine ⟨_, rfl, ?_⟩
                    replace BK142 := Aside0.mk (blk_below (g := gb142) (o := .cells #[.int .i64 a0_0, .int .i64 a0_1, .int .i64 a0_2, .int .i64 a0_3, .bool false, .string a0_5] 62 (0, 0)) B4x2_ hb)
                    replace HB := Aside0.mk (below_step B4x0_ hb)
                    (try clear hb)
                    (try clear hb2)
                    (try clear hk)
                    (try clear hi)
                    refine hK.out _ _ ⟨(blk_cell BK142.out 0).trans rfl, (blk_cell BK142.out 1).trans rfl, (blk_cell BK142.out 2).trans rfl, (blk_cell BK142.out 3).trans rfl, (blk_cell BK142.out 4).trans rfl, (blk_cell BK142.out 5).trans rfl⟩ (fun hHeld => ?_)
                    clear hK K
                    refine norm_ (a' := ?_) ?_ ?_
                    rotate_left
                    ·show Act.put _ (some 16) _ = _
                     simp only [Act.put, List.setIfInBounds_toArray, List.set_cons_zero, List.set_cons_succ, i64_w, i32_w]
                     rfl
                    exact norm_ B4x1_ (hJ10 () _ ⟨hHeld, B4x2_, B4x0_⟩)
                   ·skip
                    refine Kd.R_lit_step (Kd.int .u8) _ 5 ?hg (N := 23) ?hd (xs := ([(wrap64 (Int.tdiv a0_3 8)) % 256, 0] : List Int)) (inner := [.int .u8 ((wrap64 (Int.tdiv a0_3 8)) % 256), .int .u8 0]) (ok := fun _ => True) (okp := fun _ => True) ?hr ?hp (fun _ hk => hk) trivial (Below.refl _ _) (Nat.le_refl _) (by simp) ?_; (case hd => rfl); (case hg => rfl); (case hr => exact B4x11_); (case hp => exact B4x9_)
                    intro v155 w23 ho24 hb hg_ hnew_
                    clear hg_ hnew_
                    (first | rw [← Ny154.out] at ho24 | (simp only [Int.reduceToNat] at ho24; rw [← Ny154.out] at ho24))
                    have HO156 := Aside0.mk (Kd.R_lower ho24 (below_size B4x0_))
                    replace BK142 := Aside0.mk (blk_below (g := gb142) (o := .cells #[.int .i64 a0_0, .int .i64 a0_1, .int .i64 a0_2, .int .i64 a0_3, .bool false, .string a0_5] 62 (0, 0)) B4x2_ hb)
                    replace HB := Aside0.mk (below_step B4x0_ hb)
                    clear hb ho24
                    refine hK.out _ _ ⟨(blk_cell BK142.out 0).trans rfl, (blk_cell BK142.out 1).trans rfl, (blk_cell BK142.out 2).trans rfl, (blk_cell BK142.out 3).trans rfl, (blk_cell BK142.out 4).trans rfl, (blk_cell BK142.out 5).trans rfl⟩ (fun hHeld => ?_)
                    clear hK K
                    refine norm_ (a' := ?_) ?_ ?_
                    rotate_left
                    ·show Act.put _ (some 23) _ = _
                     simp only [Act.put, List.setIfInBounds_toArray, List.set_cons_zero, List.set_cons_succ, i64_w, i32_w]
                     rfl
                    exact norm_ B4x1_ (hJ17 (v155) _ ⟨hHeld, B4x6_, B4x2_, B4x0_⟩)
                  ·skip
                   rintro v155 w25 ⟨hS_, h0_, h1_, h2_⟩
                   have n0_ : Aside0 (Kd.R (Kd.int .u8) 5 w25 w.heap.size (fun _ => True) v155 y154) := ⟨h0_⟩
                   have n1_ : Aside0 (w25.heap[gb142]? = some (.cells #[.int .i64 a0_0, .int .i64 a0_1, .int .i64 a0_2, .int .i64 a0_3, .bool false, .string a0_5] 62 (0, 0))) := ⟨h1_⟩
                   have n2_ : Aside0 (Below w.heap.size w w25) := ⟨h2_⟩
                   clear BK142
                   clear HB
                   clear h0_ h1_ h2_
                   have HO156 := n0_
                   have BK142 := n1_
                   have HB := n2_
                   clear n0_ n1_ n2_
                   have hHeld : w25.cell? ⟨gb142, 0, none⟩ = some (.int .i64 a0_0) ∧ w25.cell? ⟨gb142, 1, none⟩ = some (.int .i64 a0_1) ∧ w25.cell? ⟨gb142, 2, none⟩ = some (.int .i64 a0_2) ∧ w25.cell? ⟨gb142, 3, none⟩ = some (.int .i64 a0_3) ∧ w25.cell? ⟨gb142, 4, none⟩ = some (.bool false) ∧ w25.cell? ⟨gb142, 5, none⟩ = some (.string a0_5) := hS_
                   refine norm_ (a' := ?_) ?_ ?_
                   rotate_left
                   ·simp only [putAll, Act.put, List.setIfInBounds_toArray, List.set_cons_zero, List.set_cons_succ]
                    rfl
                   refine three_ (i := 6) (j := 10) (k := 18) (Ni := some 12) (Nj := some 16) (Nk := some 24) #[true, true, true, true, true, true, true, false, true, true, false, false, true, true, true, true, true, true, false, false, false] #[true, true, true, true, true, true, false, false, true, true, true, false, true, true, true, true, true, true, false, false, false] #[true, true, true, true, true, true, false, false, true, true, false, false, true, true, true, true, true, true, true, false, false] rfl rfl rfl rfl rfl rfl (three_of HT_.out B4x17_) (by decide) (by decide) (by decide) (fun K hK => ?_) (fun K hK => ?_) (fun K hK => ?_)
                   ·skip
                    refine Kd.R_lit_step (Kd.int .u8) _ 5 ?hg (N := 12) ?hd (xs := ([(a0_0) % 256, (a0_1) % 256] : List Int)) (inner := [.int .u8 ((a0_0) % 256), .int .u8 ((a0_1) % 256)]) (ok := fun _ => True) (okp := fun _ => True) ?hr ?hp (fun _ hk => hk) trivial (Below.refl _ _) (Nat.le_refl _) (by simp) ?_; (case hd => rfl); (case hg => rfl); (case hr => exact B4x11_); (case hp => exact B4x8_)
                    intro v151 w26 ho27 hb hg_ hnew_
                    clear hg_ hnew_
                    (first | rw [← Ny150.out] at ho27 | (simp only [Int.reduceToNat] at ho27; rw [← Ny150.out] at ho27))
                    have HO152 := Aside0.mk (Kd.R_lower (Kd.R_new' ho27 (Kd.R_lt B4x6_)) (below_size B4x0_))
                    replace HO156 := Aside0.mk (Kd.R_elder' B4x6_ (Kd.R_base ho27) hb)
                    replace BK142 := Aside0.mk (blk_below (g := gb142) (o := .cells #[.int .i64 a0_0, .int .i64 a0_1, .int .i64 a0_2, .int .i64 a0_3, .bool false, .string a0_5] 62 (0, 0)) B4x2_ hb)
                    replace HB := Aside0.mk (below_step B4x0_ hb)
                    clear hb ho27
                    refine hK.out _ _ ⟨(blk_cell BK142.out 0).trans rfl, (blk_cell BK142.out 1).trans rfl, (blk_cell BK142.out 2).trans rfl, (blk_cell BK142.out 3).trans rfl, (blk_cell BK142.out 4).trans rfl, (blk_cell BK142.out 5).trans rfl⟩ (fun hHeld => ?_)
                    clear hK K
                    refine norm_ (a' := ?_) ?_ ?_
                    rotate_left
                    ·show Act.put _ (some 12) _ = _
                     simp only [Act.put, List.setIfInBounds_toArray, List.set_cons_zero, List.set_cons_succ, i64_w, i32_w]
                     rfl
                    exact norm_ B4x1_ (hJ6_17 (v151, v155) _ ⟨hHeld, B4x14_, B4x15_, B4x2_, B4x0_⟩)
                   ·skip
                    refine goes_ Try.func118 B4x17_ rfl #[.int .i64 a0_2] (by rfl) rfl rfl B4x7_ ?_
                    with_reducible refine (spec_l11Two.calls a0_2 t153 _ A17.out).mono ?_
                    rintro e w26 ⟨rfl, hb⟩
                    refine ⟨_, rfl, ?_⟩
                    replace HO156 := Aside0.mk (Kd.R_below B4x6_ hb)
                    replace BK142 := Aside0.mk (blk_below (g := gb142) (o := .cells #[.int .i64 a0_0, .int .i64 a0_1, .int .i64 a0_2, .int .i64 a0_3, .bool false, .string a0_5] 62 (0, 0)) B4x2_ hb)
                    replace HB := Aside0.mk (below_step B4x0_ hb)
                    (try clear hb)
                    (try clear hb2)
                    (try clear hk)
                    (try clear hi)
                    refine hK.out _ _ ⟨(blk_cell BK142.out 0).trans rfl, (blk_cell BK142.out 1).trans rfl, (blk_cell BK142.out 2).trans rfl, (blk_cell BK142.out 3).trans rfl, (blk_cell BK142.out 4).trans rfl, (blk_cell BK142.out 5).trans rfl⟩ (fun hHeld => ?_)
                    clear hK K
                    refine norm_ (a' := ?_) ?_ ?_
                    rotate_left
                    ·show Act.put _ (some 16) _ = _
                     simp only [Act.put, List.setIfInBounds_toArray, List.set_cons_zero, List.set_cons_succ, i64_w, i32_w]
                     rfl
                    exact norm_ B4x1_ (hJ10_17 (v155) _ ⟨hHeld, B4x6_, B4x2_, B4x0_⟩)
                   ·skip
                    have hcv26 := own_string (P := Try.prog) Try.underlying59 Try.underlying5 Try.underlying9 (Kd.own_of_R HO156.out)
                    refine value_ (w1 := ?_) (v := ?_) (by rfl) rfl ?_ ?_
                    rotate_left 2
                    ·go_simp
                     constructor
                     ·rfl
                     ·rfl
                    clear hcv26
                    refine hK.out _ _ ⟨(blk_cell BK142.out 0).trans rfl, (blk_cell BK142.out 1).trans rfl, (blk_cell BK142.out 2).trans rfl, (blk_cell BK142.out 3).trans rfl, (blk_cell BK142.out 4).trans rfl, (blk_cell BK142.out 5).trans rfl⟩ (fun hHeld => ?_)
                    clear hK K
                    refine norm_ (a' := ?_) ?_ ?_
                    rotate_left
                    ·show Act.put _ (some 24) _ = _
                     simp only [Act.put, List.setIfInBounds_toArray, List.set_cons_zero, List.set_cons_succ, i64_w, i32_w]
                     rfl
                    exact norm_ B4x1_ (hJ17_18 (v155) _ ⟨hHeld, B4x6_, B4x2_, B4x0_⟩)
                 ·skip
                  rintro _ w24 ⟨hS_, h0_, h1_⟩
                  have n0_ : Aside0 (w24.heap[gb142]? = some (.cells #[.int .i64 a0_0, .int .i64 a0_1, .int .i64 a0_2, .int .i64 a0_3, .bool false, .string a0_5] 62 (0, 0))) := ⟨h0_⟩
                  have n1_ : Aside0 (Below w.heap.size w w24) := ⟨h1_⟩
                  clear BK142
                  clear HB
                  clear h0_ h1_
                  have BK142 := n0_
                  have HB := n1_
                  clear n0_ n1_
                  have hHeld : w24.cell? ⟨gb142, 0, none⟩ = some (.int .i64 a0_0) ∧ w24.cell? ⟨gb142, 1, none⟩ = some (.int .i64 a0_1) ∧ w24.cell? ⟨gb142, 2, none⟩ = some (.int .i64 a0_2) ∧ w24.cell? ⟨gb142, 3, none⟩ = some (.int .i64 a0_3) ∧ w24.cell? ⟨gb142, 4, none⟩ = some (.bool false) ∧ w24.cell? ⟨gb142, 5, none⟩ = some (.string a0_5) := hS_
                  refine norm_ (a' := ?_) ?_ ?_
                  rotate_left
                  ·simp only [putAll, Act.put, List.setIfInBounds_toArray, List.set_cons_zero, List.set_cons_succ]
                   rfl
                  refine two_ (i := 6) (j := 17) (Ni := some 12) (Nj := some 23) #[true, true, true, true, true, true, true, false, true, true, true, false, true, true, true, true, true, false, false, false, false] #[true, true, true, true, true, true, false, false, true, true, true, false, true, true, true, true, true, true, false, false, false] rfl rfl rfl rfl (two_of HT_.out B4x17_) (by decide) (by decide) (fun K hK => ?_) (fun K hK => ?_)
                  ·skip
                   refine Kd.R_lit_step (Kd.int .u8) _ 5 ?hg (N := 12) ?hd (xs := ([(a0_0) % 256, (a0_1) % 256] : List Int)) (inner := [.int .u8 ((a0_0) % 256), .int .u8 ((a0_1) % 256)]) (ok := fun _ => True) (okp := fun _ => True) ?hr ?hp (fun _ hk => hk) trivial (Below.refl _ _) (Nat.le_refl _) (by simp) ?_; (case hd => rfl); (case hg => rfl); (case hr => exact B4x11_); (case hp => exact B4x8_)
                   intro v151 w25 ho26 hb hg_ hnew_
                   clear hg_ hnew_
                   (first | rw [← Ny150.out] at ho26 | (simp only [Int.reduceToNat] at ho26; rw [← Ny150.out] at ho26))
                   have HO152 := Aside0.mk (Kd.R_lower ho26 (below_size B4x0_))
                   replace BK142 := Aside0.mk (blk_below (g := gb142) (o := .cells #[.int .i64 a0_0, .int .i64 a0_1, .int .i64 a0_2, .int .i64 a0_3, .bool false, .string a0_5] 62 (0, 0)) B4x2_ hb)
                   replace HB := Aside0.mk (below_step B4x0_ hb)
                   clear hb ho26
                   refine hK.out _ _ ⟨(blk_cell BK142.out 0).trans rfl, (blk_cell BK142.out 1).trans rfl, (blk_cell BK142.out 2).trans rfl, (blk_cell BK142.out 3).trans rfl, (blk_cell BK142.out 4).trans rfl, (blk_cell BK142.out 5).trans rfl⟩ (fun hHeld => ?_)
                   clear hK K
                   refine norm_ (a' := ?_) ?_ ?_
                   rotate_left
                   ·show Act.put _ (some 12) _ = _
                    simp only [Act.put, List.setIfInBounds_toArray, List.set_cons_zero, List.set_cons_succ, i64_w, i32_w]
                    rfl
                   exact norm_ B4x1_ (hJ6_10 (v151) _ ⟨hHeld, B4x5_, B4x2_, B4x0_⟩)
                  ·skip
                   refine Kd.R_lit_step (Kd.int .u8) _ 5 ?hg (N := 23) ?hd (xs := ([(wrap64 (Int.tdiv a0_3 8)) % 256, 0] : List Int)) (inner := [.int .u8 ((wrap64 (Int.tdiv a0_3 8)) % 256), .int .u8 0]) (ok := fun _ => True) (okp := fun _ => True) ?hr ?hp (fun _ hk => hk) trivial (Below.refl _ _) (Nat.le_refl _) (by simp) ?_; (case hd => rfl); (case hg => rfl); (case hr => exact B4x11_); (case hp => exact B4x9_)
                   intro v155 w25 ho26 hb hg_ hnew_
                   clear hg_ hnew_
                   (first | rw [← Ny154.out] at ho26 | (simp only [Int.reduceToNat] at ho26; rw [← Ny154.out] at ho26))
                   have HO156 := Aside0.mk (Kd.R_lower ho26 (below_size B4x0_))
                   replace BK142 := Aside0.mk (blk_below (g := gb142) (o := .cells #[.int .i64 a0_0, .int .i64 a0_1, .int .i64 a0_2, .int .i64 a0_3, .bool false, .string a0_5] 62 (0, 0)) B4x2_ hb)
                   replace HB := Aside0.mk (below_step B4x0_ hb)
                   clear hb ho26
                   refine hK.out _ _ ⟨(blk_cell BK142.out 0).trans rfl, (blk_cell BK142.out 1).trans rfl, (blk_cell BK142.out 2).trans rfl, (blk_cell BK142.out 3).trans rfl, (blk_cell BK142.out 4).trans rfl, (blk_cell BK142.out 5).trans rfl⟩ (fun hHeld => ?_)
                   clear hK K
                   refine norm_ (a' := ?_) ?_ ?_
                   rotate_left
                   ·show Act.put _ (some 23) _ = _
                    simp only [Act.put, List.setIfInBounds_toArray, List.set_cons_zero, List.set_cons_succ, i64_w, i32_w]
                    rfl
                   exact norm_ B4x1_ (hJ10_17 (v155) _ ⟨hHeld, B4x6_, B4x2_, B4x0_⟩)
                ·skip
                 rintro v151 w25 ⟨hS_, h0_, h1_, h2_⟩
                 have n0_ : Aside0 (Kd.R (Kd.int .u8) 5 w25 w.heap.size (fun _ => True) v151 y150) := ⟨h0_⟩
                 have n1_ : Aside0 (w25.heap[gb142]? = some (.cells #[.int .i64 a0_0, .int .i64 a0_1, .int .i64 a0_2, .int .i64 a0_3, .bool false, .string a0_5] 62 (0, 0))) := ⟨h1_⟩
                 have n2_ : Aside0 (Below w.heap.size w w25) := ⟨h2_⟩
                 clear BK142
                 clear HB
                 clear h0_ h1_ h2_
                 have HO152 := n0_
                 have BK142 := n1_
                 have HB := n2_
                 clear n0_ n1_ n2_
                 have hHeld : w25.cell? ⟨gb142, 0, none⟩ = some (.int .i64 a0_0) ∧ w25.cell? ⟨gb142, 1, none⟩ = some (.int .i64 a0_1) ∧ w25.cell? ⟨gb142, 2, none⟩ = some (.int .i64 a0_2) ∧ w25.cell? ⟨gb142, 3, none⟩ = some (.int .i64 a0_3) ∧ w25.cell? ⟨gb142, 4, none⟩ = some (.bool false) ∧ w25.cell? ⟨gb142, 5, none⟩ = some (.string a0_5) := hS_
                 refine norm_ (a' := ?_) ?_ ?_
                 rotate_left
                 ·simp only [putAll, Act.put, List.setIfInBounds_toArray, List.set_cons_zero, List.set_cons_succ]
                  rfl
                 refine three_ (i := 7) (j := 10) (k := 17) (Ni := some 13) (Nj := some 16) (Nk := some 23) #[true, true, true, true, true, true, true, true, true, true, false, false, true, true, true, true, true, false, false, false, false] #[true, true, true, true, true, true, true, false, true, true, true, false, true, true, true, true, true, false, false, false, false] #[true, true, true, true, true, true, true, false, true, true, false, false, true, true, true, true, true, true, false, false, false] rfl rfl rfl rfl rfl rfl (three_of HT_.out B4x17_) (by decide) (by decide) (by decide) (fun K hK => ?_) (fun K hK => ?_) (fun K hK => ?_)
                 ·skip
                  have hcv26 := own_string (P := Try.prog) Try.underlying59 Try.underlying5 Try.underlying9 (Kd.own_of_R HO152.out)
                  refine value_ (w1 := ?_) (v := ?_) (by rfl) rfl ?_ ?_
                  rotate_left 2
                  ·go_simp
                   constructor
                   ·rfl
                   ·rfl
                  clear hcv26
                  refine hK.out _ _ ⟨(blk_cell BK142.out 0).trans rfl, (blk_cell BK142.out 1).trans rfl, (blk_cell BK142.out 2).trans rfl, (blk_cell BK142.out 3).trans rfl, (blk_cell BK142.out 4).trans rfl, (blk_cell BK142.out 5).trans rfl⟩ (fun hHeld => ?_)
                  clear hK K
                  refine norm_ (a' := ?_) ?_ ?_
                  rotate_left
                  ·show Act.put _ (some 13) _ = _
                   simp only [Act.put, List.setIfInBounds_toArray, List.set_cons_zero, List.set_cons_succ, i64_w, i32_w]
                   rfl
                  exact norm_ B4x1_ (hJ6_7 (v151) _ ⟨hHeld, B4x5_, B4x2_, B4x0_⟩)
                 ·skip
                  refine goes_ Try.func118 B4x17_ rfl #[.int .i64 a0_2] (by rfl) rfl rfl B4x7_ ?_
                  with_reducible refine (spec_l11Two.calls a0_2 t153 _ A17.out).mono ?_
                  rintro e w26 ⟨rfl, hb⟩
                  refine ⟨_, rfl, ?_⟩
                  replace HO152 := Aside0.mk (Kd.R_below B4x5_ hb)
                  replace BK142 := Aside0.mk (blk_below (g := gb142) (o := .cells #[.int .i64 a0_0, .int .i64 a0_1, .int .i64 a0_2, .int .i64 a0_3, .bool false, .string a0_5] 62 (0, 0)) B4x2_ hb)
                  replace HB := Aside0.mk (below_step B4x0_ hb)
                  (try clear hb)
                  (try clear hb2)
                  (try clear hk)
                  (try clear hi)
                  refine hK.out _ _ ⟨(blk_cell BK142.out 0).trans rfl, (blk_cell BK142.out 1).trans rfl, (blk_cell BK142.out 2).trans rfl, (blk_cell BK142.out 3).trans rfl, (blk_cell BK142.out 4).trans rfl, (blk_cell BK142.out 5).trans rfl⟩ (fun hHeld => ?_)
                  clear hK K
                  refine norm_ (a' := ?_) ?_ ?_
                  rotate_left
                  ·show Act.put _ (some 16) _ = _
                   simp only [Act.put, List.setIfInBounds_toArray, List.set_cons_zero, List.set_cons_succ, i64_w, i32_w]
                   rfl
                  exact norm_ B4x1_ (hJ6_10 (v151) _ ⟨hHeld, B4x5_, B4x2_, B4x0_⟩)
                 ·skip
                  refine Kd.R_lit_step (Kd.int .u8) _ 5 ?hg (N := 23) ?hd (xs := ([(wrap64 (Int.tdiv a0_3 8)) % 256, 0] : List Int)) (inner := [.int .u8 ((wrap64 (Int.tdiv a0_3 8)) % 256), .int .u8 0]) (ok := fun _ => True) (okp := fun _ => True) ?hr ?hp (fun _ hk => hk) trivial (Below.refl _ _) (Nat.le_refl _) (by simp) ?_; (case hd => rfl); (case hg => rfl); (case hr => exact B4x11_); (case hp => exact B4x9_)
                  intro v155 w26 ho27 hb hg_ hnew_
                  clear hg_ hnew_
                  (first | rw [← Ny154.out] at ho27 | (simp only [Int.reduceToNat] at ho27; rw [← Ny154.out] at ho27))
                  have HO156 := Aside0.mk (Kd.R_lower (Kd.R_new' ho27 (Kd.R_lt B4x5_)) (below_size B4x0_))
                  replace HO152 := Aside0.mk (Kd.R_elder' B4x5_ (Kd.R_base ho27) hb)
                  replace BK142 := Aside0.mk (blk_below (g := gb142) (o := .cells #[.int .i64 a0_0, .int .i64 a0_1, .int .i64 a0_2, .int .i64 a0_3, .bool false, .string a0_5] 62 (0, 0)) B4x2_ hb)
                  replace HB := Aside0.mk (below_step B4x0_ hb)
                  clear hb ho27
                  refine hK.out _ _ ⟨(blk_cell BK142.out 0).trans rfl, (blk_cell BK142.out 1).trans rfl, (blk_cell BK142.out 2).trans rfl, (blk_cell BK142.out 3).trans rfl, (blk_cell BK142.out 4).trans rfl, (blk_cell BK142.out 5).trans rfl⟩ (fun hHeld => ?_)
                  clear hK K
                  refine norm_ (a' := ?_) ?_ ?_
                  rotate_left
                  ·show Act.put _ (some 23) _ = _
                   simp only [Act.put, List.setIfInBounds_toArray, List.set_cons_zero, List.set_cons_succ, i64_w, i32_w]
                   rfl
                  exact norm_ B4x1_ (hJ6_17 (v151, v155) _ ⟨hHeld, B4x14_, B4x15_, B4x2_, B4x0_⟩)
               ·skip
                rintro v155 w26 ⟨hS_, h0_, h1_, h2_⟩
                have n0_ : Aside0 (Kd.R (Kd.int .u8) 5 w26 w.heap.size (fun _ => True) v155 y154) := ⟨h0_⟩
                have n1_ : Aside0 (w26.heap[gb142]? = some (.cells #[.int .i64 a0_0, .int .i64 a0_1, .int .i64 a0_2, .int .i64 a0_3, .bool false, .string a0_5] 62 (0, 0))) := ⟨h1_⟩
                have n2_ : Aside0 (Below w.heap.size w w26) := ⟨h2_⟩
                clear BK142
                clear HB
                clear h0_ h1_ h2_
                have HO156 := n0_
                have BK142 := n1_
                have HB := n2_
                clear n0_ n1_ n2_
                have hHeld : w26.cell? ⟨gb142, 0, none⟩ = some (.int .i64 a0_0) ∧ w26.cell? ⟨gb142, 1, none⟩ = some (.int .i64 a0_1) ∧ w26.cell? ⟨gb142, 2, none⟩ = some (.int .i64 a0_2) ∧ w26.cell? ⟨gb142, 3, none⟩ = some (.int .i64 a0_3) ∧ w26.cell? ⟨gb142, 4, none⟩ = some (.bool false) ∧ w26.cell? ⟨gb142, 5, none⟩ = some (.string a0_5) := hS_
                refine norm_ (a' := ?_) ?_ ?_
                rotate_left
                ·simp only [putAll, Act.put, List.setIfInBounds_toArray, List.set_cons_zero, List.set_cons_succ]
                 rfl
                refine two_ (i := 6) (j := 10) (Ni := some 12) (Nj := some 16) #[true, true, true, true, true, true, true, false, true, true, false, false, true, true, true, true, true, true, true, false, false] #[true, true, true, true, true, true, false, false, true, true, true, false, true, true, true, true, true, true, true, false, false] rfl rfl rfl rfl (two_of HT_.out B4x17_) (by decide) (by decide) (fun K hK => ?_) (fun K hK => ?_)
                ·skip
                 refine Kd.R_lit_step (Kd.int .u8) _ 5 ?hg (N := 12) ?hd (xs := ([(a0_0) % 256, (a0_1) % 256] : List Int)) (inner := [.int .u8 ((a0_0) % 256), .int .u8 ((a0_1) % 256)]) (ok := fun _ => True) (okp := fun _ => True) ?hr ?hp (fun _ hk => hk) trivial (Below.refl _ _) (Nat.le_refl _) (by simp) ?_; (case hd => rfl); (case hg => rfl); (case hr => exact B4x11_); (case hp => exact B4x8_)
                 intro v151 w27 ho28 hb hg_ hnew_
                 clear hg_ hnew_
                 (first | rw [← Ny150.out] at ho28 | (simp only [Int.reduceToNat] at ho28; rw [← Ny150.out] at ho28))
                 have HO152 := Aside0.mk (Kd.R_lower (Kd.R_new' ho28 (Kd.R_lt B4x6_)) (below_size B4x0_))
                 replace HO156 := Aside0.mk (Kd.R_elder' B4x6_ (Kd.R_base ho28) hb)
                 replace BK142 := Aside0.mk (blk_below (g := gb142) (o := .cells #[.int .i64 a0_0, .int .i64 a0_1, .int .i64 a0_2, .int .i64 a0_3, .bool false, .string a0_5] 62 (0, 0)) B4x2_ hb)
                 replace HB := Aside0.mk (below_step B4x0_ hb)
                 clear hb ho28
                 refine hK.out _ _ ⟨(blk_cell BK142.out 0).trans rfl, (blk_cell BK142.out 1).trans rfl, (blk_cell BK142.out 2).trans rfl, (blk_cell BK142.out 3).trans rfl, (blk_cell BK142.out 4).trans rfl, (blk_cell BK142.out 5).trans rfl⟩ (fun hHeld => ?_)
                 clear hK K
                 refine norm_ (a' := ?_) ?_ ?_
                 rotate_left
                 ·show Act.put _ (some 12) _ = _
                  simp only [Act.put, List.setIfInBounds_toArray, List.set_cons_zero, List.set_cons_succ, i64_w, i32_w]
                  rfl
                 exact norm_ B4x1_ (hJ6_17_18 (v151, v155) _ ⟨hHeld, B4x14_, B4x15_, B4x2_, B4x0_⟩)
                ·skip
                 refine goes_ Try.func118 B4x17_ rfl #[.int .i64 a0_2] (by rfl) rfl rfl B4x7_ ?_
                 with_reducible refine (spec_l11Two.calls a0_2 t153 _ A17.out).mono ?_
                 rintro e w27 ⟨rfl, hb⟩
                 refine ⟨_, rfl, ?_⟩
                 replace HO156 := Aside0.mk (Kd.R_below B4x6_ hb)
                 replace BK142 := Aside0.mk (blk_below (g := gb142) (o := .cells #[.int .i64 a0_0, .int .i64 a0_1, .int .i64 a0_2, .int .i64 a0_3, .bool false, .string a0_5] 62 (0, 0)) B4x2_ hb)
                 replace HB := Aside0.mk (below_step B4x0_ hb)
                 (try clear hb)
                 (try clear hb2)
                 (try clear hk)
                 (try clear hi)
                 refine hK.out _ _ ⟨(blk_cell BK142.out 0).trans rfl, (blk_cell BK142.out 1).trans rfl, (blk_cell BK142.out 2).trans rfl, (blk_cell BK142.out 3).trans rfl, (blk_cell BK142.out 4).trans rfl, (blk_cell BK142.out 5).trans rfl⟩ (fun hHeld => ?_)
                 clear hK K
                 refine norm_ (a' := ?_) ?_ ?_
                 rotate_left
                 ·show Act.put _ (some 16) _ = _
                  simp only [Act.put, List.setIfInBounds_toArray, List.set_cons_zero, List.set_cons_succ, i64_w, i32_w]
                  rfl
                 exact norm_ B4x1_ (hJ10_17_18 (v155) _ ⟨hHeld, B4x6_, B4x2_, B4x0_⟩)
              ·skip
               rintro v155 w26 ⟨hS_, h0_, h1_, h2_⟩
               have n0_ : Aside0 (Kd.R (Kd.int .u8) 5 w26 w.heap.size (fun _ => True) v155 y154) := ⟨h0_⟩
               have n1_ : Aside0 (w26.heap[gb142]? = some (.cells #[.int .i64 a0_0, .int .i64 a0_1, .int .i64 a0_2, .int .i64 a0_3, .bool false, .string a0_5] 62 (0, 0))) := ⟨h1_⟩
               have n2_ : Aside0 (Below w.heap.size w w26) := ⟨h2_⟩
               clear BK142
               clear HB
               clear h0_ h1_ h2_
               have HO156 := n0_
               have BK142 := n1_
               have HB := n2_
               clear n0_ n1_ n2_
               have hHeld : w26.cell? ⟨gb142, 0, none⟩ = some (.int .i64 a0_0) ∧ w26.cell? ⟨gb142, 1, none⟩ = some (.int .i64 a0_1) ∧ w26.cell? ⟨gb142, 2, none⟩ = some (.int .i64 a0_2) ∧ w26.cell? ⟨gb142, 3, none⟩ = some (.int .i64 a0_3) ∧ w26.cell? ⟨gb142, 4, none⟩ = some (.bool false) ∧ w26.cell? ⟨gb142, 5, none⟩ = some (.string a0_5) := hS_
               refine norm_ (a' := ?_) ?_ ?_
               rotate_left
               ·simp only [putAll, Act.put, List.setIfInBounds_toArray, List.set_cons_zero, List.set_cons_succ]
                rfl
               refine two_ (i := 6) (j := 18) (Ni := some 12) (Nj := some 24) #[true, true, true, true, true, true, true, false, true, true, true, false, true, true, true, true, true, true, false, false, false] #[true, true, true, true, true, true, false, false, true, true, true, false, true, true, true, true, true, true, true, false, false] rfl rfl rfl rfl (two_of HT_.out B4x17_) (by decide) (by decide) (fun K hK => ?_) (fun K hK => ?_)
               ·skip
                refine Kd.R_lit_step (Kd.int .u8) _ 5 ?hg (N := 12) ?hd (xs := ([(a0_0) % 256, (a0_1) % 256] : List Int)) (inner := [.int .u8 ((a0_0) % 256), .int .u8 ((a0_1) % 256)]) (ok := fun _ => True) (okp := fun _ => True) ?hr ?hp (fun _ hk => hk) trivial (Below.refl _ _) (Nat.le_refl _) (by simp) ?_; (case hd => rfl); (case hg => rfl); (case hr => exact B4x11_); (case hp => exact B4x8_)
                intro v151 w27 ho28 hb hg_ hnew_
                clear hg_ hnew_
                (first | rw [← Ny150.out] at ho28 | (simp only [Int.reduceToNat] at ho28; rw [← Ny150.out] at ho28))
                have HO152 := Aside0.mk (Kd.R_lower (Kd.R_new' ho28 (Kd.R_lt B4x6_)) (below_size B4x0_))
                replace HO156 := Aside0.mk (Kd.R_elder' B4x6_ (Kd.R_base ho28) hb)
                replace BK142 := Aside0.mk (blk_below (g := gb142) (o := .cells #[.int .i64 a0_0, .int .i64 a0_1, .int .i64 a0_2, .int .i64 a0_3, .bool false, .string a0_5] 62 (0, 0)) B4x2_ hb)
                replace HB := Aside0.mk (below_step B4x0_ hb)
                clear hb ho28
                refine hK.out _ _ ⟨(blk_cell BK142.out 0).trans rfl, (blk_cell BK142.out 1).trans rfl, (blk_cell BK142.out 2).trans rfl, (blk_cell BK142.out 3).trans rfl, (blk_cell BK142.out 4).trans rfl, (blk_cell BK142.out 5).trans rfl⟩ (fun hHeld => ?_)
                clear hK K
                refine norm_ (a' := ?_) ?_ ?_
                rotate_left
                ·show Act.put _ (some 12) _ = _
                 simp only [Act.put, List.setIfInBounds_toArray, List.set_cons_zero, List.set_cons_succ, i64_w, i32_w]
                 rfl
                exact norm_ B4x1_ (hJ6_10_17 (v151, v155) _ ⟨hHeld, B4x14_, B4x15_, B4x2_, B4x0_⟩)
               ·skip
                have hcv27 := own_string (P := Try.prog) Try.underlying59 Try.underlying5 Try.underlying9 (Kd.own_of_R HO156.out)
                refine value_ (w1 := ?_) (v := ?_) (by rfl) rfl ?_ ?_
                rotate_left 2
                ·go_simp
                 constructor
                 ·rfl
                 ·rfl
                clear hcv27
                refine hK.out _ _ ⟨(blk_cell BK142.out 0).trans rfl, (blk_cell BK142.out 1).trans rfl, (blk_cell BK142.out 2).trans rfl, (blk_cell BK142.out 3).trans rfl, (blk_cell BK142.out 4).trans rfl, (blk_cell BK142.out 5).trans rfl⟩ (fun hHeld => ?_)
                clear hK K
                refine norm_ (a' := ?_) ?_ ?_
                rotate_left
                ·show Act.put _ (some 24) _ = _
                 simp only [Act.put, List.setIfInBounds_toArray, List.set_cons_zero, List.set_cons_succ, i64_w, i32_w]
                 rfl
                exact norm_ B4x1_ (hJ10_17_18 (v155) _ ⟨hHeld, B4x6_, B4x2_, B4x0_⟩)
             ·skip
              rintro ⟨v151, v155⟩ w27 ⟨hS_, h0_, h1_, h2_, h3_⟩
              have n0_ : Aside0 (Kd.R (Kd.int .u8) 5 w27 w.heap.size (fun k_ => some k_ ≠ (v155 : Value).ownBlock) v151 y150) := ⟨h0_⟩
              have n1_ : Aside0 (Kd.R (Kd.int .u8) 5 w27 w.heap.size (fun k_ => some k_ ≠ (v151 : Value).ownBlock) v155 y154) := ⟨h1_⟩
              have n2_ : Aside0 (w27.heap[gb142]? = some (.cells #[.int .i64 a0_0, .int .i64 a0_1, .int .i64 a0_2, .int .i64 a0_3, .bool false, .string a0_5] 62 (0, 0))) := ⟨h2_⟩
              have n3_ : Aside0 (Below w.heap.size w w27) := ⟨h3_⟩
              clear BK142
              clear HB
              clear h0_ h1_ h2_ h3_
              have HO152 := n0_
              have HO156 := n1_
              have BK142 := n2_
              have HB := n3_
              clear n0_ n1_ n2_ n3_
              have hHeld : w27.cell? ⟨gb142, 0, none⟩ = some (.int .i64 a0_0) ∧ w27.cell? ⟨gb142, 1, none⟩ = some (.int .i64 a0_1) ∧ w27.cell? ⟨gb142, 2, none⟩ = some (.int .i64 a0_2) ∧ w27.cell? ⟨gb142, 3, none⟩ = some (.int .i64 a0_3) ∧ w27.cell? ⟨gb142, 4, none⟩ = some (.bool false) ∧ w27.cell? ⟨gb142, 5, none⟩ = some (.string a0_5) := hS_
              refine norm_ (a' := ?_) ?_ ?_
              rotate_left
              ·simp only [putAll, Act.put, List.setIfInBounds_toArray, List.set_cons_zero, List.set_cons_succ]
               rfl
              refine three_ (i := 7) (j := 10) (k := 18) (Ni := some 13) (Nj := some 16) (Nk := some 24) #[true, true, true, true, true, true, true, true, true, true, false, false, true, true, true, true, true, true, false, false, false] #[true, true, true, true, true, true, true, false, true, true, true, false, true, true, true, true, true, true, false, false, false] #[true, true, true, true, true, true, true, false, true, true, false, false, true, true, true, true, true, true, true, false, false] rfl rfl rfl rfl rfl rfl (three_of HT_.out B4x17_) (by decide) (by decide) (by decide) (fun K hK => ?_) (fun K hK => ?_) (fun K hK => ?_)
              ·skip
               have hcv28 := own_string (P := Try.prog) Try.underlying59 Try.underlying5 Try.underlying9 (Kd.own_of_R HO152.out)
               refine value_ (w1 := ?_) (v := ?_) (by rfl) rfl ?_ ?_
               rotate_left 2
               ·go_simp
                constructor
                ·rfl
                ·rfl
               clear hcv28
               refine hK.out _ _ ⟨(blk_cell BK142.out 0).trans rfl, (blk_cell BK142.out 1).trans rfl, (blk_cell BK142.out 2).trans rfl, (blk_cell BK142.out 3).trans rfl, (blk_cell BK142.out 4).trans rfl, (blk_cell BK142.out 5).trans rfl⟩ (fun hHeld => ?_)
               clear hK K
               refine norm_ (a' := ?_) ?_ ?_
               rotate_left
               ·show Act.put _ (some 13) _ = _
                simp only [Act.put, List.setIfInBounds_toArray, List.set_cons_zero, List.set_cons_succ, i64_w, i32_w]
                rfl
               exact norm_ B4x1_ (hJ6_7_17 (v151, v155) _ ⟨hHeld, B4x5_, B4x6_, B4x2_, B4x0_⟩)
              ·skip
               refine goes_ Try.func118 B4x17_ rfl #[.int .i64 a0_2] (by rfl) rfl rfl B4x7_ ?_
               with_reducible refine (spec_l11Two.calls a0_2 t153 _ A17.out).mono ?_
               rintro e w28 ⟨rfl, hb⟩
               refine ⟨_, rfl, ?_⟩
               replace HO152 := Aside0.mk (Kd.R_below B4x5_ hb)
               replace HO156 := Aside0.mk (Kd.R_below B4x6_ hb)
               replace BK142 := Aside0.mk (blk_below (g := gb142) (o := .cells #[.int .i64 a0_0, .int .i64 a0_1, .int .i64 a0_2, .int .i64 a0_3, .bool false, .string a0_5] 62 (0, 0)) B4x2_ hb)
               replace HB := Aside0.mk (below_step B4x0_ hb)
               (try clear hb)
               (try clear hb2)
               (try clear hk)
               (try clear hi)
               refine hK.out _ _ ⟨(blk_cell BK142.out 0).trans rfl, (blk_cell BK142.out 1).trans rfl, (blk_cell BK142.out 2).trans rfl, (blk_cell BK142.out 3).trans rfl, (blk_cell BK142.out 4).trans rfl, (blk_cell BK142.out 5).trans rfl⟩ (fun hHeld => ?_)
               clear hK K
               refine norm_ (a' := ?_) ?_ ?_
               rotate_left
               ·show Act.put _ (some 16) _ = _
                simp only [Act.put, List.setIfInBounds_toArray, List.set_cons_zero, List.set_cons_succ, i64_w, i32_w]
                rfl
               exact norm_ B4x1_ (hJ6_10_17 (v151, v155) _ ⟨hHeld, B4x5_, B4x6_, B4x2_, B4x0_⟩)
              ·skip
               have hcv28 := own_string (P := Try.prog) Try.underlying59 Try.underlying5 Try.underlying9 (Kd.own_of_R HO156.out)
               refine value_ (w1 := ?_) (v := ?_) (by rfl) rfl ?_ ?_
               rotate_left 2
               ·go_simp
                constructor
                ·rfl
                ·rfl
               clear hcv28
               refine hK.out _ _ ⟨(blk_cell BK142.out 0).trans rfl, (blk_cell BK142.out 1).trans rfl, (blk_cell BK142.out 2).trans rfl, (blk_cell BK142.out 3).trans rfl, (blk_cell BK142.out 4).trans rfl, (blk_cell BK142.out 5).trans rfl⟩ (fun hHeld => ?_)
               clear hK K
               refine norm_ (a' := ?_) ?_ ?_
               rotate_left
               ·show Act.put _ (some 24) _ = _
                simp only [Act.put, List.setIfInBounds_toArray, List.set_cons_zero, List.set_cons_succ, i64_w, i32_w]
                rfl
               exact norm_ B4x1_ (hJ6_17_18 (v151, v155) _ ⟨hHeld, B4x5_, B4x6_, B4x2_, B4x0_⟩)
            ·skip
             rintro v151 w26 ⟨hS_, h0_, h1_, h2_⟩
             have n0_ : Aside0 (Kd.R (Kd.int .u8) 5 w26 w.heap.size (fun _ => True) v151 y150) := ⟨h0_⟩
             have n1_ : Aside0 (w26.heap[gb142]? = some (.cells #[.int .i64 a0_0, .int .i64 a0_1, .int .i64 a0_2, .int .i64 a0_3, .bool false, .string a0_5] 62 (0, 0))) := ⟨h1_⟩
             have n2_ : Aside0 (Below w.heap.size w w26) := ⟨h2_⟩
             clear BK142
             clear HB
             clear h0_ h1_ h2_
             have HO152 := n0_
             have BK142 := n1_
             have HB := n2_
             clear n0_ n1_ n2_
             have hHeld : w26.cell? ⟨gb142, 0, none⟩ = some (.int .i64 a0_0) ∧ w26.cell? ⟨gb142, 1, none⟩ = some (.int .i64 a0_1) ∧ w26.cell? ⟨gb142, 2, none⟩ = some (.int .i64 a0_2) ∧ w26.cell? ⟨gb142, 3, none⟩ = some (.int .i64 a0_3) ∧ w26.cell? ⟨gb142, 4, none⟩ = some (.bool false) ∧ w26.cell? ⟨gb142, 5, none⟩ = some (.string a0_5) := hS_
             refine norm_ (a' := ?_) ?_ ?_
             rotate_left
             ·simp only [putAll, Act.put, List.setIfInBounds_toArray, List.set_cons_zero, List.set_cons_succ]
              rfl
             refine two_ (i := 7) (j := 17) (Ni := some 13) (Nj := some 23) #[true, true, true, true, true, true, true, true, true, true, true, false, true, true, true, true, true, false, false, false, false] #[true, true, true, true, true, true, true, false, true, true, true, false, true, true, true, true, true, true, false, false, false] rfl rfl rfl rfl (two_of HT_.out B4x17_) (by decide) (by decide) (fun K hK => ?_) (fun K hK => ?_)
             ·skip
              have hcv27 := own_string (P := Try.prog) Try.underlying59 Try.underlying5 Try.underlying9 (Kd.own_of_R HO152.out)
              refine value_ (w1 := ?_) (v := ?_) (by rfl) rfl ?_ ?_
              rotate_left 2
              ·go_simp
               constructor
               ·rfl
               ·rfl
              clear hcv27
              refine hK.out _ _ ⟨(blk_cell BK142.out 0).trans rfl, (blk_cell BK142.out 1).trans rfl, (blk_cell BK142.out 2).trans rfl, (blk_cell BK142.out 3).trans rfl, (blk_cell BK142.out 4).trans rfl, (blk_cell BK142.out 5).trans rfl⟩ (fun hHeld => ?_)
              clear hK K
              refine norm_ (a' := ?_) ?_ ?_
              rotate_left
              ·show Act.put _ (some 13) _ = _
               simp only [Act.put, List.setIfInBounds_toArray, List.set_cons_zero, List.set_cons_succ, i64_w, i32_w]
               rfl
              refine pu_ 11 17 HT_ ?_
              exact norm_ B4x1_ (hJ6_7_10 (v151) _ ⟨hHeld, B4x5_, B4x2_, B4x0_⟩)
             ·skip
              refine Kd.R_lit_step (Kd.int .u8) _ 5 ?hg (N := 23) ?hd (xs := ([(wrap64 (Int.tdiv a0_3 8)) % 256, 0] : List Int)) (inner := [.int .u8 ((wrap64 (Int.tdiv a0_3 8)) % 256), .int .u8 0]) (ok := fun _ => True) (okp := fun _ => True) ?hr ?hp (fun _ hk => hk) trivial (Below.refl _ _) (Nat.le_refl _) (by simp) ?_; (case hd => rfl); (case hg => rfl); (case hr => exact B4x11_); (case hp => exact B4x9_)
              intro v155 w27 ho28 hb hg_ hnew_
              clear hg_ hnew_
              (first | rw [← Ny154.out] at ho28 | (simp only [Int.reduceToNat] at ho28; rw [← Ny154.out] at ho28))
              have HO156 := Aside0.mk (Kd.R_lower (Kd.R_new' ho28 (Kd.R_lt B4x5_)) (below_size B4x0_))
              replace HO152 := Aside0.mk (Kd.R_elder' B4x5_ (Kd.R_base ho28) hb)
              replace BK142 := Aside0.mk (blk_below (g := gb142) (o := .cells #[.int .i64 a0_0, .int .i64 a0_1, .int .i64 a0_2, .int .i64 a0_3, .bool false, .string a0_5] 62 (0, 0)) B4x2_ hb)
              replace HB := Aside0.mk (below_step B4x0_ hb)
              clear hb ho28
              refine hK.out _ _ ⟨(blk_cell BK142.out 0).trans rfl, (blk_cell BK142.out 1).trans rfl, (blk_cell BK142.out 2).trans rfl, (blk_cell BK142.out 3).trans rfl, (blk_cell BK142.out 4).trans rfl, (blk_cell BK142.out 5).trans rfl⟩ (fun hHeld => ?_)
              clear hK K
              refine norm_ (a' := ?_) ?_ ?_
              rotate_left
              ·show Act.put _ (some 23) _ = _
               simp only [Act.put, List.setIfInBounds_toArray, List.set_cons_zero, List.set_cons_succ, i64_w, i32_w]
               rfl
              exact norm_ B4x1_ (hJ6_10_17 (v151, v155) _ ⟨hHeld, B4x14_, B4x15_, B4x2_, B4x0_⟩)
           ·skip
            rintro v151 w26 ⟨hS_, h0_, h1_, h2_⟩
            have n0_ : Aside0 (Kd.R (Kd.int .u8) 5 w26 w.heap.size (fun _ => True) v151 y150) := ⟨h0_⟩
            have n1_ : Aside0 (w26.heap[gb142]? = some (.cells #[.int .i64 a0_0, .int .i64 a0_1, .int .i64 a0_2, .int .i64 a0_3, .bool false, .string a0_5] 62 (0, 0))) := ⟨h1_⟩
            have n2_ : Aside0 (Below w.heap.size w w26) := ⟨h2_⟩
            clear BK142
            clear HB
            clear h0_ h1_ h2_
            have HO152 := n0_
            have BK142 := n1_
            have HB := n2_
            clear n0_ n1_ n2_
            have hHeld : w26.cell? ⟨gb142, 0, none⟩ = some (.int .i64 a0_0) ∧ w26.cell? ⟨gb142, 1, none⟩ = some (.int .i64 a0_1) ∧ w26.cell? ⟨gb142, 2, none⟩ = some (.int .i64 a0_2) ∧ w26.cell? ⟨gb142, 3, none⟩ = some (.int .i64 a0_3) ∧ w26.cell? ⟨gb142, 4, none⟩ = some (.bool false) ∧ w26.cell? ⟨gb142, 5, none⟩ = some (.string a0_5) := hS_
            refine norm_ (a' := ?_) ?_ ?_
            rotate_left
            ·simp only [putAll, Act.put, List.setIfInBounds_toArray, List.set_cons_zero, List.set_cons_succ]
             rfl
            refine two_ (i := 10) (j := 17) (Ni := some 16) (Nj := some 23) #[true, true, true, true, true, true, true, true, true, true, true, false, true, true, true, true, true, false, false, false, false] #[true, true, true, true, true, true, true, true, true, true, false, false, true, true, true, true, true, true, false, false, false] rfl rfl rfl rfl (two_of HT_.out B4x17_) (by decide) (by decide) (fun K hK => ?_) (fun K hK => ?_)
            ·skip
             refine goes_ Try.func118 B4x17_ rfl #[.int .i64 a0_2] (by rfl) rfl rfl B4x7_ ?_
             with_reducible refine (spec_l11Two.calls a0_2 t153 _ A17.out).mono ?_
             rintro e w27 ⟨rfl, hb⟩
             refine ⟨_, rfl, ?_⟩
             replace HO152 := Aside0.mk (Kd.R_below B4x5_ hb)
             replace BK142 := Aside0.mk (blk_below (g := gb142) (o := .cells #[.int .i64 a0_0, .int .i64 a0_1, .int .i64 a0_2, .int .i64 a0_3, .bool false, .string a0_5] 62 (0, 0)) B4x2_ hb)
             replace HB := Aside0.mk (below_step B4x0_ hb)
             (try clear hb)
             (try clear hb2)
             (try clear hk)
             (try clear hi)
             refine hK.out _ _ ⟨(blk_cell BK142.out 0).trans rfl, (blk_cell BK142.out 1).trans rfl, (blk_cell BK142.out 2).trans rfl, (blk_cell BK142.out 3).trans rfl, (blk_cell BK142.out 4).trans rfl, (blk_cell BK142.out 5).trans rfl⟩ (fun hHeld => ?_)
             clear hK K
             refine norm_ (a' := ?_) ?_ ?_
             rotate_left
             ·show Act.put _ (some 16) _ = _
              simp only [Act.put, List.setIfInBounds_toArray, List.set_cons_zero, List.set_cons_succ, i64_w, i32_w]
              rfl
             refine pu_ 11 17 HT_ ?_
             exact norm_ B4x1_ (hJ6_7_10 (v151) _ ⟨hHeld, B4x5_, B4x2_, B4x0_⟩)
            ·skip
             refine Kd.R_lit_step (Kd.int .u8) _ 5 ?hg (N := 23) ?hd (xs := ([(wrap64 (Int.tdiv a0_3 8)) % 256, 0] : List Int)) (inner := [.int .u8 ((wrap64 (Int.tdiv a0_3 8)) % 256), .int .u8 0]) (ok := fun _ => True) (okp := fun _ => True) ?hr ?hp (fun _ hk => hk) trivial (Below.refl _ _) (Nat.le_refl _) (by simp) ?_; (case hd => rfl); (case hg => rfl); (case hr => exact B4x11_); (case hp => exact B4x9_)
             intro v155 w27 ho28 hb hg_ hnew_
             clear hg_ hnew_
             (first | rw [← Ny154.out] at ho28 | (simp only [Int.reduceToNat] at ho28; rw [← Ny154.out] at ho28))
             have HO156 := Aside0.mk (Kd.R_lower (Kd.R_new' ho28 (Kd.R_lt B4x5_)) (below_size B4x0_))
             replace HO152 := Aside0.mk (Kd.R_elder' B4x5_ (Kd.R_base ho28) hb)
             replace BK142 := Aside0.mk (blk_below (g := gb142) (o := .cells #[.int .i64 a0_0, .int .i64 a0_1, .int .i64 a0_2, .int .i64 a0_3, .bool false, .string a0_5] 62 (0, 0)) B4x2_ hb)
             replace HB := Aside0.mk (below_step B4x0_ hb)
             clear hb ho28
             refine hK.out _ _ ⟨(blk_cell BK142.out 0).trans rfl, (blk_cell BK142.out 1).trans rfl, (blk_cell BK142.out 2).trans rfl, (blk_cell BK142.out 3).trans rfl, (blk_cell BK142.out 4).trans rfl, (blk_cell BK142.out 5).trans rfl⟩ (fun hHeld => ?_)
             clear hK K
             refine norm_ (a' := ?_) ?_ ?_
             rotate_left
             ·show Act.put _ (some 23) _ = _
              simp only [Act.put, List.setIfInBounds_toArray, List.set_cons_zero, List.set_cons_succ, i64_w, i32_w]
              rfl
             exact norm_ B4x1_ (hJ6_7_17 (v151, v155) _ ⟨hHeld, B4x14_, B4x15_, B4x2_, B4x0_⟩)
          ·skip
           rintro v155 w27 ⟨hS_, h0_, h1_, h2_⟩
           have n0_ : Aside0 (Kd.R (Kd.int .u8) 5 w27 w.heap.size (fun _ => True) v155 y154) := ⟨h0_⟩
           have n1_ : Aside0 (w27.heap[gb142]? = some (.cells #[.int .i64 a0_0, .int .i64 a0_1, .int .i64 a0_2, .int .i64 a0_3, .bool false, .string a0_5] 62 (0, 0))) := ⟨h1_⟩
           have n2_ : Aside0 (Below w.heap.size w w27) := ⟨h2_⟩
           clear BK142
           clear HB
           clear h0_ h1_ h2_
           have HO156 := n0_
           have BK142 := n1_
           have HB := n2_
           clear n0_ n1_ n2_
           have hHeld : w27.cell? ⟨gb142, 0, none⟩ = some (.int .i64 a0_0) ∧ w27.cell? ⟨gb142, 1, none⟩ = some (.int .i64 a0_1) ∧ w27.cell? ⟨gb142, 2, none⟩ = some (.int .i64 a0_2) ∧ w27.cell? ⟨gb142, 3, none⟩ = some (.int .i64 a0_3) ∧ w27.cell? ⟨gb142, 4, none⟩ = some (.bool false) ∧ w27.cell? ⟨gb142, 5, none⟩ = some (.string a0_5) := hS_
           refine norm_ (a' := ?_) ?_ ?_
           rotate_left
           ·simp only [putAll, Act.put, List.setIfInBounds_toArray, List.set_cons_zero, List.set_cons_succ]
            rfl
           refine one_ (i := 6) (N := some 12) #[true, true, true, true, true, true, true, false, true, true, true, false, true, true, true, true, true, true, true, false, false] rfl rfl (one_of HT_.out B4x17_) (by decide) (fun K hK => ?_)
           refine Kd.R_lit_step (Kd.int .u8) _ 5 ?hg (N := 12) ?hd (xs := ([(a0_0) % 256, (a0_1) % 256] : List Int)) (inner := [.int .u8 ((a0_0) % 256), .int .u8 ((a0_1) % 256)]) (ok := fun _ => True) (okp := fun _ => True) ?hr ?hp (fun _ hk => hk) trivial (Below.refl _ _) (Nat.le_refl _) (by simp) ?_; (case hd => rfl); (case hg => rfl); (case hr => exact B4x11_); (case hp => exact B4x8_)
           intro v151 w28 ho29 hb hg_ hnew_
           clear hg_ hnew_
           (first | rw [← Ny150.out] at ho29 | (simp only [Int.reduceToNat] at ho29; rw [← Ny150.out] at ho29))
           have HO152 := Aside0.mk (Kd.R_lower (Kd.R_new' ho29 (Kd.R_lt B4x6_)) (below_size B4x0_))
           replace HO156 := Aside0.mk (Kd.R_elder' B4x6_ (Kd.R_base ho29) hb)
           replace BK142 := Aside0.mk (blk_below (g := gb142) (o := .cells #[.int .i64 a0_0, .int .i64 a0_1, .int .i64 a0_2, .int .i64 a0_3, .bool false, .string a0_5] 62 (0, 0)) B4x2_ hb)
           replace HB := Aside0.mk (below_step B4x0_ hb)
           clear hb ho29
           refine hK.out _ _ ⟨(blk_cell BK142.out 0).trans rfl, (blk_cell BK142.out 1).trans rfl, (blk_cell BK142.out 2).trans rfl, (blk_cell BK142.out 3).trans rfl, (blk_cell BK142.out 4).trans rfl, (blk_cell BK142.out 5).trans rfl⟩ (fun hHeld => ?_)
           clear hK K
           refine norm_ (a' := ?_) ?_ ?_
           rotate_left
           ·show Act.put _ (some 12) _ = _
            simp only [Act.put, List.setIfInBounds_toArray, List.set_cons_zero, List.set_cons_succ, i64_w, i32_w]
            rfl
           exact norm_ B4x1_ (hJ6_10_17_18 (v151, v155) _ ⟨hHeld, B4x14_, B4x15_, B4x2_, B4x0_⟩)
         ·skip
          rintro ⟨v151, v155⟩ w28 ⟨hS_, h0_, h1_, h2_, h3_⟩
          have n0_ : Aside0 (Kd.R (Kd.int .u8) 5 w28 w.heap.size (fun k_ => some k_ ≠ (v155 : Value).ownBlock) v151 y150) := ⟨h0_⟩
          have n1_ : Aside0 (Kd.R (Kd.int .u8) 5 w28 w.heap.size (fun k_ => some k_ ≠ (v151 : Value).ownBlock) v155 y154) := ⟨h1_⟩
          have n2_ : Aside0 (w28.heap[gb142]? = some (.cells #[.int .i64 a0_0, .int .i64 a0_1, .int .i64 a0_2, .int .i64 a0_3, .bool false, .string a0_5] 62 (0, 0))) := ⟨h2_⟩
          have n3_ : Aside0 (Below w.heap.size w w28) := ⟨h3_⟩
          clear BK142
          clear HB
          clear h0_ h1_ h2_ h3_
          have HO152 := n0_
          have HO156 := n1_
          have BK142 := n2_
          have HB := n3_
          clear n0_ n1_ n2_ n3_
          have hHeld : w28.cell? ⟨gb142, 0, none⟩ = some (.int .i64 a0_0) ∧ w28.cell? ⟨gb142, 1, none⟩ = some (.int .i64 a0_1) ∧ w28.cell? ⟨gb142, 2, none⟩ = some (.int .i64 a0_2) ∧ w28.cell? ⟨gb142, 3, none⟩ = some (.int .i64 a0_3) ∧ w28.cell? ⟨gb142, 4, none⟩ = some (.bool false) ∧ w28.cell? ⟨gb142, 5, none⟩ = some (.string a0_5) := hS_
          refine norm_ (a' := ?_) ?_ ?_
          rotate_left
          ·simp only [putAll, Act.put, List.setIfInBounds_toArray, List.set_cons_zero, List.set_cons_succ]
           rfl
          refine two_ (i := 7) (j := 10) (Ni := some 13) (Nj := some 16) #[true, true, true, true, true, true, true, true, true, true, false, false, true, true, true, true, true, true, true, false, false] #[true, true, true, true, true, true, true, false, true, true, true, false, true, true, true, true, true, true, true, false, false] rfl rfl rfl rfl (two_of HT_.out B4x17_) (by decide) (by decide) (fun K hK => ?_) (fun K hK => ?_)
          ·skip
           have hcv29 := own_string (P := Try.prog) Try.underlying59 Try.underlying5 Try.underlying9 (Kd.own_of_R HO152.out)
           refine value_ (w1 := ?_) (v := ?_) (by rfl) rfl ?_ ?_
           rotate_left 2
           ·go_simp
            constructor
            ·rfl
            ·rfl
           clear hcv29
           refine hK.out _ _ ⟨(blk_cell BK142.out 0).trans rfl, (blk_cell BK142.out 1).trans rfl, (blk_cell BK142.out 2).trans rfl, (blk_cell BK142.out 3).trans rfl, (blk_cell BK142.out 4).trans rfl, (blk_cell BK142.out 5).trans rfl⟩ (fun hHeld => ?_)
           clear hK K
           refine norm_ (a' := ?_) ?_ ?_
           rotate_left
           ·show Act.put _ (some 13) _ = _
            simp only [Act.put, List.setIfInBounds_toArray, List.set_cons_zero, List.set_cons_succ, i64_w, i32_w]
            rfl
           exact norm_ B4x1_ (hJ6_7_17_18 (v151, v155) _ ⟨hHeld, B4x5_, B4x6_, B4x2_, B4x0_⟩)
          ·skip
           refine goes_ Try.func118 B4x17_ rfl #[.int .i64 a0_2] (by rfl) rfl rfl B4x7_ ?_
           with_reducible refine (spec_l11Two.calls a0_2 t153 _ A17.out).mono ?_
           rintro e w29 ⟨rfl, hb⟩
           refine ⟨_, rfl, ?_⟩
           replace HO152 := Aside0.mk (Kd.R_below B4x5_ hb)
           replace HO156 := Aside0.mk (Kd.R_below B4x6_ hb)
           replace BK142 := Aside0.mk (blk_below (g := gb142) (o := .cells #[.int .i64 a0_0, .int .i64 a0_1, .int .i64 a0_2, .int .i64 a0_3, .bool false, .string a0_5] 62 (0, 0)) B4x2_ hb)
           replace HB := Aside0.mk (below_step B4x0_ hb)
           (try clear hb)
           (try clear hb2)
           (try clear hk)
           (try clear hi)
           refine hK.out _ _ ⟨(blk_cell BK142.out 0).trans rfl, (blk_cell BK142.out 1).trans rfl, (blk_cell BK142.out 2).trans rfl, (blk_cell BK142.out 3).trans rfl, (blk_cell BK142.out 4).trans rfl, (blk_cell BK142.out 5).trans rfl⟩ (fun hHeld => ?_)
           clear hK K
           refine norm_ (a' := ?_) ?_ ?_
           rotate_left
           ·show Act.put _ (some 16) _ = _
            simp only [Act.put, List.setIfInBounds_toArray, List.set_cons_zero, List.set_cons_succ, i64_w, i32_w]
            rfl
           exact norm_ B4x1_ (hJ6_10_17_18 (v151, v155) _ ⟨hHeld, B4x5_, B4x6_, B4x2_, B4x0_⟩)
        ·skip
         rintro ⟨v151, v155⟩ w28 ⟨hS_, h0_, h1_, h2_, h3_⟩
         have n0_ : Aside0 (Kd.R (Kd.int .u8) 5 w28 w.heap.size (fun k_ => some k_ ≠ (v155 : Value).ownBlock) v151 y150) := ⟨h0_⟩
         have n1_ : Aside0 (Kd.R (Kd.int .u8) 5 w28 w.heap.size (fun k_ => some k_ ≠ (v151 : Value).ownBlock) v155 y154) := ⟨h1_⟩
         have n2_ : Aside0 (w28.heap[gb142]? = some (.cells #[.int .i64 a0_0, .int .i64 a0_1, .int .i64 a0_2, .int .i64 a0_3, .bool false, .string a0_5] 62 (0, 0))) := ⟨h2_⟩
         have n3_ : Aside0 (Below w.heap.size w w28) := ⟨h3_⟩
         clear BK142
         clear HB
         clear h0_ h1_ h2_ h3_
         have HO152 := n0_
         have HO156 := n1_
         have BK142 := n2_
         have HB := n3_
         clear n0_ n1_ n2_ n3_
         have hHeld : w28.cell? ⟨gb142, 0, none⟩ = some (.int .i64 a0_0) ∧ w28.cell? ⟨gb142, 1, none⟩ = some (.int .i64 a0_1) ∧ w28.cell? ⟨gb142, 2, none⟩ = some (.int .i64 a0_2) ∧ w28.cell? ⟨gb142, 3, none⟩ = some (.int .i64 a0_3) ∧ w28.cell? ⟨gb142, 4, none⟩ = some (.bool false) ∧ w28.cell? ⟨gb142, 5, none⟩ = some (.string a0_5) := hS_
         refine norm_ (a' := ?_) ?_ ?_
         rotate_left
         ·simp only [putAll, Act.put, List.setIfInBounds_toArray, List.set_cons_zero, List.set_cons_succ]
          rfl
         refine two_ (i := 7) (j := 18) (Ni := some 13) (Nj := some 24) #[true, true, true, true, true, true, true, true, true, true, true, false, true, true, true, true, true, true, false, false, false] #[true, true, true, true, true, true, true, false, true, true, true, false, true, true, true, true, true, true, true, false, false] rfl rfl rfl rfl (two_of HT_.out B4x17_) (by decide) (by decide) (fun K hK => ?_) (fun K hK => ?_)
         ·skip
          have hcv29 := own_string (P := Try.prog) Try.underlying59 Try.underlying5 Try.underlying9 (Kd.own_of_R HO152.out)
          refine value_ (w1 := ?_) (v := ?_) (by rfl) rfl ?_ ?_
          rotate_left 2
          ·go_simp
           constructor
           ·rfl
           ·rfl
          clear hcv29
          refine hK.out _ _ ⟨(blk_cell BK142.out 0).trans rfl, (blk_cell BK142.out 1).trans rfl, (blk_cell BK142.out 2).trans rfl, (blk_cell BK142.out 3).trans rfl, (blk_cell BK142.out 4).trans rfl, (blk_cell BK142.out 5).trans rfl⟩ (fun hHeld => ?_)
          clear hK K
          refine norm_ (a' := ?_) ?_ ?_
          rotate_left
          ·show Act.put _ (some 13) _ = _
           simp only [Act.put, List.setIfInBounds_toArray, List.set_cons_zero, List.set_cons_succ, i64_w, i32_w]
           rfl
          refine pu_ 11 17 HT_ ?_
          exact norm_ B4x1_ (hJ6_7_10_17 (v151, v155) _ ⟨hHeld, B4x5_, B4x6_, B4x2_, B4x0_⟩)
         ·skip
          have hcv29 := own_string (P := Try.prog) Try.underlying59 Try.underlying5 Try.underlying9 (Kd.own_of_R HO156.out)
          refine value_ (w1 := ?_) (v := ?_) (by rfl) rfl ?_ ?_
          rotate_left 2
          ·go_simp
           constructor
           ·rfl
           ·rfl
          clear hcv29
          refine hK.out _ _ ⟨(blk_cell BK142.out 0).trans rfl, (blk_cell BK142.out 1).trans rfl, (blk_cell BK142.out 2).trans rfl, (blk_cell BK142.out 3).trans rfl, (blk_cell BK142.out 4).trans rfl, (blk_cell BK142.out 5).trans rfl⟩ (fun hHeld => ?_)
          clear hK K
          refine norm_ (a' := ?_) ?_ ?_
          rotate_left
          ·show Act.put _ (some 24) _ = _
           simp only [Act.put, List.setIfInBounds_toArray, List.set_cons_zero, List.set_cons_succ, i64_w, i32_w]
           rfl
          exact norm_ B4x1_ (hJ6_10_17_18 (v151, v155) _ ⟨hHeld, B4x5_, B4x6_, B4x2_, B4x0_⟩)
       ·skip
        rintro ⟨v151, v155⟩ w28 ⟨hS_, h0_, h1_, h2_, h3_⟩
        have n0_ : Aside0 (Kd.R (Kd.int .u8) 5 w28 w.heap.size (fun k_ => some k_ ≠ (v155 : Value).ownBlock) v151 y150) := ⟨h0_⟩
        have n1_ : Aside0 (Kd.R (Kd.int .u8) 5 w28 w.heap.size (fun k_ => some k_ ≠ (v151 : Value).ownBlock) v155 y154) := ⟨h1_⟩
        have n2_ : Aside0 (w28.heap[gb142]? = some (.cells #[.int .i64 a0_0, .int .i64 a0_1, .int .i64 a0_2, .int .i64 a0_3, .bool false, .string a0_5] 62 (0, 0))) := ⟨h2_⟩
        have n3_ : Aside0 (Below w.heap.size w w28) := ⟨h3_⟩
        clear BK142
        clear HB
        clear h0_ h1_ h2_ h3_
        have HO152 := n0_
        have HO156 := n1_
        have BK142 := n2_
        have HB := n3_
        clear n0_ n1_ n2_ n3_
        have hHeld : w28.cell? ⟨gb142, 0, none⟩ = some (.int .i64 a0_0) ∧ w28.cell? ⟨gb142, 1, none⟩ = some (.int .i64 a0_1) ∧ w28.cell? ⟨gb142, 2, none⟩ = some (.int .i64 a0_2) ∧ w28.cell? ⟨gb142, 3, none⟩ = some (.int .i64 a0_3) ∧ w28.cell? ⟨gb142, 4, none⟩ = some (.bool false) ∧ w28.cell? ⟨gb142, 5, none⟩ = some (.string a0_5) := hS_
        refine norm_ (a' := ?_) ?_ ?_
        rotate_left
        ·simp only [putAll, Act.put, List.setIfInBounds_toArray, List.set_cons_zero, List.set_cons_succ]
         rfl
        refine two_ (i := 10) (j := 18) (Ni := some 16) (Nj := some 24) #[true, true, true, true, true, true, true, true, true, true, true, false, true, true, true, true, true, true, false, false, false] #[true, true, true, true, true, true, true, true, true, true, false, false, true, true, true, true, true, true, true, false, false] rfl rfl rfl rfl (two_of HT_.out B4x17_) (by decide) (by decide) (fun K hK => ?_) (fun K hK => ?_)
        ·skip
         refine goes_ Try.func118 B4x17_ rfl #[.int .i64 a0_2] (by rfl) rfl rfl B4x7_ ?_
         with_reducible refine (spec_l11Two.calls a0_2 t153 _ A17.out).mono ?_
         rintro e w29 ⟨rfl, hb⟩
         refine ⟨_, rfl, ?_⟩
         replace HO152 := Aside0.mk (Kd.R_below B4x5_ hb)
         replace HO156 := Aside0.mk (Kd.R_below B4x6_ hb)
         replace BK142 := Aside0.mk (blk_below (g := gb142) (o := .cells #[.int .i64 a0_0, .int .i64 a0_1, .int .i64 a0_2, .int .i64 a0_3, .bool false, .string a0_5] 62 (0, 0)) B4x2_ hb)
         replace HB := Aside0.mk (below_step B4x0_ hb)
         (try clear hb)
         (try clear hb2)
         (try clear hk)
         (try clear hi)
         refine hK.out _ _ ⟨(blk_cell BK142.out 0).trans rfl, (blk_cell BK142.out 1).trans rfl, (blk_cell BK142.out 2).trans rfl, (blk_cell BK142.out 3).trans rfl, (blk_cell BK142.out 4).trans rfl, (blk_cell BK142.out 5).trans rfl⟩ (fun hHeld => ?_)
         clear hK K
         refine norm_ (a' := ?_) ?_ ?_
         rotate_left
         ·show Act.put _ (some 16) _ = _
          simp only [Act.put, List.setIfInBounds_toArray, List.set_cons_zero, List.set_cons_succ, i64_w, i32_w]
          rfl
         refine pu_ 11 17 HT_ ?_
         exact norm_ B4x1_ (hJ6_7_10_17 (v151, v155) _ ⟨hHeld, B4x5_, B4x6_, B4x2_, B4x0_⟩)
        ·skip
         have hcv29 := own_string (P := Try.prog) Try.underlying59 Try.underlying5 Try.underlying9 (Kd.own_of_R HO156.out)
         refine value_ (w1 := ?_) (v := ?_) (by rfl) rfl ?_ ?_
         rotate_left 2
         ·go_simp
          constructor
          ·rfl
          ·rfl
         clear hcv29
         refine hK.out _ _ ⟨(blk_cell BK142.out 0).trans rfl, (blk_cell BK142.out 1).trans rfl, (blk_cell BK142.out 2).trans rfl, (blk_cell BK142.out 3).trans rfl, (blk_cell BK142.out 4).trans rfl, (blk_cell BK142.out 5).trans rfl⟩ (fun hHeld => ?_)
         clear hK K
         refine norm_ (a' := ?_) ?_ ?_
         rotate_left
         ·show Act.put _ (some 24) _ = _
          simp only [Act.put, List.setIfInBounds_toArray, List.set_cons_zero, List.set_cons_succ, i64_w, i32_w]
          rfl
         exact norm_ B4x1_ (hJ6_7_17_18 (v151, v155) _ ⟨hHeld, B4x5_, B4x6_, B4x2_, B4x0_⟩)
      ·skip
       rintro v151 w27 ⟨hS_, h0_, h1_, h2_⟩
       have n0_ : Aside0 (Kd.R (Kd.int .u8) 5 w27 w.heap.size (fun _ => True) v151 y150) := ⟨h0_⟩
       have n1_ : Aside0 (w27.heap[gb142]? = some (.cells #[.int .i64 a0_0, .int .i64 a0_1, .int .i64 a0_2, .int .i64 a0_3, .bool false, .string a0_5] 62 (0, 0))) := ⟨h1_⟩
       have n2_ : Aside0 (Below w.heap.size w w27) := ⟨h2_⟩
       clear BK142
       clear HB
       clear h0_ h1_ h2_
       have HO152 := n0_
       have BK142 := n1_
       have HB := n2_
       clear n0_ n1_ n2_
       have hHeld : w27.cell? ⟨gb142, 0, none⟩ = some (.int .i64 a0_0) ∧ w27.cell? ⟨gb142, 1, none⟩ = some (.int .i64 a0_1) ∧ w27.cell? ⟨gb142, 2, none⟩ = some (.int .i64 a0_2) ∧ w27.cell? ⟨gb142, 3, none⟩ = some (.int .i64 a0_3) ∧ w27.cell? ⟨gb142, 4, none⟩ = some (.bool false) ∧ w27.cell? ⟨gb142, 5, none⟩ = some (.string a0_5) := hS_
       refine norm_ (a' := ?_) ?_ ?_
       rotate_left
       ·simp only [putAll, Act.put, List.setIfInBounds_toArray, List.set_cons_zero, List.set_cons_succ]
        rfl
       refine one_ (i := 17) (N := some 23) #[true, true, true, true, true, true, true, true, true, true, true, true, true, true, true, true, true, true, false, false, false] rfl rfl (one_of HT_.out B4x17_) (by decide) (fun K hK => ?_)
       refine Kd.R_lit_step (Kd.int .u8) _ 5 ?hg (N := 23) ?hd (xs := ([(wrap64 (Int.tdiv a0_3 8)) % 256, 0] : List Int)) (inner := [.int .u8 ((wrap64 (Int.tdiv a0_3 8)) % 256), .int .u8 0]) (ok := fun _ => True) (okp := fun _ => True) ?hr ?hp (fun _ hk => hk) trivial (Below.refl _ _) (Nat.le_refl _) (by simp) ?_; (case hd => rfl); (case hg => rfl); (case hr => exact B4x11_); (case hp => exact B4x9_)
       intro v155 w28 ho29 hb hg_ hnew_
       clear hg_ hnew_
       (first | rw [← Ny154.out] at ho29 | (simp only [Int.reduceToNat] at ho29; rw [← Ny154.out] at ho29))
       have HO156 := Aside0.mk (Kd.R_lower (Kd.R_new' ho29 (Kd.R_lt B4x5_)) (below_size B4x0_))
       replace HO152 := Aside0.mk (Kd.R_elder' B4x5_ (Kd.R_base ho29) hb)
       replace BK142 := Aside0.mk (blk_below (g := gb142) (o := .cells #[.int .i64 a0_0, .int .i64 a0_1, .int .i64 a0_2, .int .i64 a0_3, .bool false, .string a0_5] 62 (0, 0)) B4x2_ hb)
       replace HB := Aside0.mk (below_step B4x0_ hb)
       clear hb ho29
       refine hK.out _ _ ⟨(blk_cell BK142.out 0).trans rfl, (blk_cell BK142.out 1).trans rfl, (blk_cell BK142.out 2).trans rfl, (blk_cell BK142.out 3).trans rfl, (blk_cell BK142.out 4).trans rfl, (blk_cell BK142.out 5).trans rfl⟩ (fun hHeld => ?_)
       clear hK K
       refine norm_ (a' := ?_) ?_ ?_
       rotate_left
       ·show Act.put _ (some 23) _ = _
        simp only [Act.put, List.setIfInBounds_toArray, List.set_cons_zero, List.set_cons_succ, i64_w, i32_w]
        rfl
       exact norm_ B4x1_ (hJ6_7_10_17 (v151, v155) _ ⟨hHeld, B4x14_, B4x15_, B4x2_, B4x0_⟩)
     ·skip
      rintro ⟨v151, v155⟩ w29 ⟨hS_, h0_, h1_, h2_, h3_⟩
      have n0_ : Aside0 (Kd.R (Kd.int .u8) 5 w29 w.heap.size (fun k_ => some k_ ≠ (v155 : Value).ownBlock) v151 y150) := ⟨h0_⟩
      have n1_ : Aside0 (Kd.R (Kd.int .u8) 5 w29 w.heap.size (fun k_ => some k_ ≠ (v151 : Value).ownBlock) v155 y154) := ⟨h1_⟩
      have n2_ : Aside0 (w29.heap[gb142]? = some (.cells #[.int .i64 a0_0, .int .i64 a0_1, .int .i64 a0_2, .int .i64 a0_3, .bool false, .string a0_5] 62 (0, 0))) := ⟨h2_⟩
      have n3_ : Aside0 (Below w.heap.size w w29) := ⟨h3_⟩
      clear BK142
      clear HB
      clear h0_ h1_ h2_ h3_
      have HO152 := n0_
      have HO156 := n1_
      have BK142 := n2_
      have HB := n3_
      clear n0_ n1_ n2_ n3_
      have hHeld : w29.cell? ⟨gb142, 0, none⟩ = some (.int .i64 a0_0) ∧ w29.cell? ⟨gb142, 1, none⟩ = some (.int .i64 a0_1) ∧ w29.cell? ⟨gb142, 2, none⟩ = some (.int .i64 a0_2) ∧ w29.cell? ⟨gb142, 3, none⟩ = some (.int .i64 a0_3) ∧ w29.cell? ⟨gb142, 4, none⟩ = some (.bool false) ∧ w29.cell? ⟨gb142, 5, none⟩ = some (.string a0_5) := hS_
      refine norm_ (a' := ?_) ?_ ?_
      rotate_left
      ·simp only [putAll, Act.put, List.setIfInBounds_toArray, List.set_cons_zero, List.set_cons_succ]
       rfl
      refine one_ (i := 7) (N := some 13) #[true, true, true, true, true, true, true, true, true, true, true, false, true, true, true, true, true, true, true, false, false] rfl rfl (one_of HT_.out B4x17_) (by decide) (fun K hK => ?_)
      have hcv30 := own_string (P := Try.prog) Try.underlying59 Try.underlying5 Try.underlying9 (Kd.own_of_R HO152.out)
      refine value_ (w1 := ?_) (v := ?_) (by rfl) rfl ?_ ?_
      rotate_left 2
      ·go_simp
       constructor
       ·rfl
       ·rfl
      clear hcv30
      refine hK.out _ _ ⟨(blk_cell BK142.out 0).trans rfl, (blk_cell BK142.out 1).trans rfl, (blk_cell BK142.out 2).trans rfl, (blk_cell BK142.out 3).trans rfl, (blk_cell BK142.out 4).trans rfl, (blk_cell BK142.out 5).trans rfl⟩ (fun hHeld => ?_)
      clear hK K
      refine norm_ (a' := ?_) ?_ ?_
      rotate_left
      ·show Act.put _ (some 13) _ = _
       simp only [Act.put, List.setIfInBounds_toArray, List.set_cons_zero, List.set_cons_succ, i64_w, i32_w]
       rfl
      refine pu_ 11 17 HT_ ?_
      exact norm_ B4x1_ (hJ6_7_10_17_18 (v151, v155) _ ⟨hHeld, B4x5_, B4x6_, B4x2_, B4x0_⟩)
    ·skip
     rintro ⟨v151, v155⟩ w29 ⟨hS_, h0_, h1_, h2_, h3_⟩
     have n0_ : Aside0 (Kd.R (Kd.int .u8) 5 w29 w.heap.size (fun k_ => some k_ ≠ (v155 : Value).ownBlock) v151 y150) := ⟨h0_⟩
     have n1_ : Aside0 (Kd.R (Kd.int .u8) 5 w29 w.heap.size (fun k_ => some k_ ≠ (v151 : Value).ownBlock) v155 y154) := ⟨h1_⟩
     have n2_ : Aside0 (w29.heap[gb142]? = some (.cells #[.int .i64 a0_0, .int .i64 a0_1, .int .i64 a0_2, .int .i64 a0_3, .bool false, .string a0_5] 62 (0, 0))) := ⟨h2_⟩
     have n3_ : Aside0 (Below w.heap.size w w29) := ⟨h3_⟩
     clear BK142
     clear HB
     clear h0_ h1_ h2_ h3_
     have HO152 := n0_
     have HO156 := n1_
     have BK142 := n2_
     have HB := n3_
     clear n0_ n1_ n2_ n3_
     have hHeld : w29.cell? ⟨gb142, 0, none⟩ = some (.int .i64 a0_0) ∧ w29.cell? ⟨gb142, 1, none⟩ = some (.int .i64 a0_1) ∧ w29.cell? ⟨gb142, 2, none⟩ = some (.int .i64 a0_2) ∧ w29.cell? ⟨gb142, 3, none⟩ = some (.int .i64 a0_3) ∧ w29.cell? ⟨gb142, 4, none⟩ = some (.bool false) ∧ w29.cell? ⟨gb142, 5, none⟩ = some (.string a0_5) := hS_
     refine norm_ (a' := ?_) ?_ ?_
     rotate_left
     ·simp only [putAll, Act.put, List.setIfInBounds_toArray, List.set_cons_zero, List.set_cons_succ]
      rfl
     refine one_ (i := 10) (N := some 16) #[true, true, true, true, true, true, true, true, true, true, true, false, true, true, true, true, true, true, true, false, false] rfl rfl (one_of HT_.out B4x17_) (by decide) (fun K hK => ?_)
     refine goes_ Try.func118 B4x17_ rfl #[.int .i64 a0_2] (by rfl) rfl rfl B4x7_ ?_
     with_reducible refine (spec_l11Two.calls a0_2 t153 _ A17.out).mono ?_
     rintro e w30 ⟨rfl, hb⟩
     refine ⟨_, rfl, ?_⟩
     replace HO152 := Aside0.mk (Kd.R_below B4x5_ hb)
     replace HO156 := Aside0.mk (Kd.R_below B4x6_ hb)
     replace BK142 := Aside0.mk (blk_below (g := gb142) (o := .cells #[.int .i64 a0_0, .int .i64 a0_1, .int .i64 a0_2, .int .i64 a0_3, .bool false, .string a0_5] 62 (0, 0)) B4x2_ hb)
     replace HB := Aside0.mk (below_step B4x0_ hb)
     (try clear hb)
     (try clear hb2)
     (try clear hk)
     (try clear hi)
     refine hK.out _ _ ⟨(blk_cell BK142.out 0).trans rfl, (blk_cell BK142.out 1).trans rfl, (blk_cell BK142.out 2).trans rfl, (blk_cell BK142.out 3).trans rfl, (blk_cell BK142.out 4).trans rfl, (blk_cell BK142.out 5).trans rfl⟩ (fun hHeld => ?_)
     clear hK K
     refine norm_ (a' := ?_) ?_ ?_
     rotate_left
     ·show Act.put _ (some 16) _ = _
      simp only [Act.put, List.setIfInBounds_toArray, List.set_cons_zero, List.set_cons_succ, i64_w, i32_w]
      rfl
     refine pu_ 11 17 HT_ ?_
     exact norm_ B4x1_ (hJ6_7_10_17_18 (v151, v155) _ ⟨hHeld, B4x5_, B4x6_, B4x2_, B4x0_⟩)
   ·skip
    rintro ⟨v151, v155⟩ w29 ⟨hS_, h0_, h1_, h2_, h3_⟩
    have n0_ : Aside0 (Kd.R (Kd.int .u8) 5 w29 w.heap.size (fun k_ => some k_ ≠ (v155 : Value).ownBlock) v151 y150) := ⟨h0_⟩
    have n1_ : Aside0 (Kd.R (Kd.int .u8) 5 w29 w.heap.size (fun k_ => some k_ ≠ (v151 : Value).ownBlock) v155 y154) := ⟨h1_⟩
    have n2_ : Aside0 (w29.heap[gb142]? = some (.cells #[.int .i64 a0_0, .int .i64 a0_1, .int .i64 a0_2, .int .i64 a0_3, .bool false, .string a0_5] 62 (0, 0))) := ⟨h2_⟩
    have n3_ : Aside0 (Below w.heap.size w w29) := ⟨h3_⟩
    clear BK142
    clear HB
    clear h0_ h1_ h2_ h3_
    have HO152 := n0_
    have HO156 := n1_
    have BK142 := n2_
    have HB := n3_
    clear n0_ n1_ n2_ n3_
    have hHeld : w29.cell? ⟨gb142, 0, none⟩ = some (.int .i64 a0_0) ∧ w29.cell? ⟨gb142, 1, none⟩ = some (.int .i64 a0_1) ∧ w29.cell? ⟨gb142, 2, none⟩ = some (.int .i64 a0_2) ∧ w29.cell? ⟨gb142, 3, none⟩ = some (.int .i64 a0_3) ∧ w29.cell? ⟨gb142, 4, none⟩ = some (.bool false) ∧ w29.cell? ⟨gb142, 5, none⟩ = some (.string a0_5) := hS_
    refine norm_ (a' := ?_) ?_ ?_
    rotate_left
    ·simp only [putAll, Act.put, List.setIfInBounds_toArray, List.set_cons_zero, List.set_cons_succ]
     rfl
    refine one_ (i := 18) (N := some 24) #[true, true, true, true, true, true, true, true, true, true, true, true, true, true, true, true, true, true, true, false, false] rfl rfl (one_of HT_.out B4x17_) (by decide) (fun K hK => ?_)
    have hcv30 := own_string (P := Try.prog) Try.underlying59 Try.underlying5 Try.underlying9 (Kd.own_of_R HO156.out)
    refine value_ (w1 := ?_) (v := ?_) (by rfl) rfl ?_ ?_
    rotate_left 2
    ·go_simp
     constructor
     ·rfl
     ·rfl
    clear hcv30
    refine hK.out _ _ ⟨(blk_cell BK142.out 0).trans rfl, (blk_cell BK142.out 1).trans rfl, (blk_cell BK142.out 2).trans rfl, (blk_cell BK142.out 3).trans rfl, (blk_cell BK142.out 4).trans rfl, (blk_cell BK142.out 5).trans rfl⟩ (fun hHeld => ?_)
    clear hK K
    refine norm_ (a' := ?_) ?_ ?_
    rotate_left
    ·show Act.put _ (some 24) _ = _
     simp only [Act.put, List.setIfInBounds_toArray, List.set_cons_zero, List.set_cons_succ, i64_w, i32_w]
     rfl
    exact norm_ B4x1_ (hJ6_7_10_17_18 (v151, v155) _ ⟨hHeld, B4x5_, B4x6_, B4x2_, B4x0_⟩)
  rintro ⟨v151, v155⟩ w30 ⟨hS_, h0_, h1_, h2_, h3_⟩
  have n0_ : Aside0 (Kd.R (Kd.int .u8) 5 w30 w.heap.size (fun k_ => some k_ ≠ (v155 : Value).ownBlock) v151 y150) := ⟨h0_⟩
  have n1_ : Aside0 (Kd.R (Kd.int .u8) 5 w30 w.heap.size (fun k_ => some k_ ≠ (v151 : Value).ownBlock) v155 y154) := ⟨h1_⟩
  have n2_ : Aside0 (w30.heap[gb142]? = some (.cells #[.int .i64 a0_0, .int .i64 a0_1, .int .i64 a0_2, .int .i64 a0_3, .bool false, .string a0_5] 62 (0, 0))) := ⟨h2_⟩
  have n3_ : Aside0 (Below w.heap.size w w30) := ⟨h3_⟩
  clear BK142
  clear HB
  clear h0_ h1_ h2_ h3_
  have HO152 := n0_
  have HO156 := n1_
  have BK142 := n2_
  have HB := n3_
  clear n0_ n1_ n2_ n3_
  have hHeld : w30.cell? ⟨gb142, 0, none⟩ = some (.int .i64 a0_0) ∧ w30.cell? ⟨gb142, 1, none⟩ = some (.int .i64 a0_1) ∧ w30.cell? ⟨gb142, 2, none⟩ = some (.int .i64 a0_2) ∧ w30.cell? ⟨gb142, 3, none⟩ = some (.int .i64 a0_3) ∧ w30.cell? ⟨gb142, 4, none⟩ = some (.bool false) ∧ w30.cell? ⟨gb142, 5, none⟩ = some (.string a0_5) := hS_
  refine norm_ (a' := ?_) ?_ ?_
  rotate_left
  ·simp only [putAll, Act.put, List.setIfInBounds_toArray, List.set_cons_zero, List.set_cons_succ]
   rfl
  refine pu_ 19 25 HT_ ?_
  refine pu_ 20 2 HT_ ?_
  refine done_ (done_of HT_.out B4x17_) ?_
  try go_wp2
  go_ret
  exact ⟨B4x18_, B4x0_⟩

end Go.Proofs.Ytmknnoeggkgkgaa.QFnExactWrap
