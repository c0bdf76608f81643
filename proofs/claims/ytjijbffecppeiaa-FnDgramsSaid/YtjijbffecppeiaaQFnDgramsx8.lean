/- Functions that a law reaches, as functions of Lean, and the walks that show that the calls come to their answers: written by a program of this project out of the translation. No condition. -/
import Derived.Test.YtjijbffecppeiaaQFnDgramsx0
import Derived.Test.YtjijbffecppeiaaQFnDgramsx7
import Derived.Test.YtjijbffecppeiaaVFnDgramsShort3
import Derived.Test.YtjijbffecppeiaaVFnDgramsShort2
import Derived.Test.YtjijbffecppeiaaVFnDgramsShort
namespace Go.Proofs.Ytjijbffecppeiaa.QFnDgrams
open Go.RowKit Go.Proofs.YtjijbffecppeiaaW.PrintWords Go.Proofs.YtjijbffecppeiaaW.PrintLast Go.Proofs.YtjijbffecppeiaaW.PrintMore Go.Proofs.Ytjijbffecppeiaa.Short
attribute [local go_sem] max2_int min2_int max_two min_two max_three min_three max_four min_four   -- for this text's walks alone
set_option linter.unusedVariables false
set_option linter.unusedSimpArgs false

theorem B8x0_ {p : Prop} (h : p := by (with_reducible repeat (first | refine blk_drewN ?_ _ | refine blk_drew ?_ | refine blk_alloc ?_ _)); refine blk_put (cs := #[.int .i64 (wrap64 (bt a0 0)), .int .i64 (wrap64 (bt a0 1)), .int .i64 (wrap64 ((wrap64 (256 * (wrap64 (bt a0 2)))) + (wrap64 (bt a0 3)))), .int .i64 (wrap64 (8 * (wrap64 (bt a0 4)))), .bool ((bt a0 5) == 1), .string (⟨#[]⟩ : ByteArray)]) ?_ 5 _ rfl; (with_reducible repeat (first | refine blk_drewN ?_ _ | refine blk_drew ?_ | refine blk_alloc ?_ _)); refine blk_put (cs := #[.int .i64 (wrap64 (bt a0 0)), .int .i64 (wrap64 (bt a0 1)), .int .i64 (wrap64 ((wrap64 (256 * (wrap64 (bt a0 2)))) + (wrap64 (bt a0 3)))), .int .i64 (wrap64 (8 * (wrap64 (bt a0 4)))), .bool false, .string (⟨#[]⟩ : ByteArray)]) ?_ 4 _ rfl; (with_reducible repeat (first | refine blk_drewN ?_ _ | refine blk_drew ?_ | refine blk_alloc ?_ _)); refine blk_put (cs := #[.int .i64 (wrap64 (bt a0 0)), .int .i64 (wrap64 (bt a0 1)), .int .i64 (wrap64 ((wrap64 (256 * (wrap64 (bt a0 2)))) + (wrap64 (bt a0 3)))), .int .i64 0, .bool false, .string (⟨#[]⟩ : ByteArray)]) ?_ 3 _ rfl; (with_reducible repeat (first | refine blk_drewN ?_ _ | refine blk_drew ?_ | refine blk_alloc ?_ _)); refine blk_put (cs := #[.int .i64 (wrap64 (bt a0 0)), .int .i64 (wrap64 (bt a0 1)), .int .i64 0, .int .i64 0, .bool false, .string (⟨#[]⟩ : ByteArray)]) ?_ 2 _ rfl; (with_reducible repeat (first | refine blk_drewN ?_ _ | refine blk_drew ?_ | refine blk_alloc ?_ _)); refine blk_put (cs := #[.int .i64 (wrap64 (bt a0 0)), .int .i64 0, .int .i64 0, .int .i64 0, .bool false, .string (⟨#[]⟩ : ByteArray)]) ?_ 1 _ rfl; (with_reducible repeat (first | refine blk_drewN ?_ _ | refine blk_drew ?_ | refine blk_alloc ?_ _)); refine blk_put (cs := #[.int .i64 0, .int .i64 0, .int .i64 0, .int .i64 0, .bool false, .string (⟨#[]⟩ : ByteArray)]) ?_ 0 _ rfl; (with_reducible repeat (first | refine blk_drewN ?_ _ | refine blk_drew ?_ | refine blk_alloc ?_ _)); exact BK367.out) : p := h
theorem B8x1_ {p : Prop} (h : p := by (with_reducible repeat (first | refine blk_drewN ?_ _ | refine blk_drew ?_ | refine blk_alloc ?_ _)); refine blk_put (cs := #[.int .i64 0, .int .i64 0, .int .i64 0, .int .i64 0, .bool false, .string (⟨#[]⟩ : ByteArray)]) ?_ 5 _ rfl; (with_reducible repeat (first | refine blk_drewN ?_ _ | refine blk_drew ?_ | refine blk_alloc ?_ _)); refine blk_put (cs := #[.int .i64 0, .int .i64 0, .int .i64 0, .int .i64 0, .bool false, .string (⟨#[]⟩ : ByteArray)]) ?_ 4 _ rfl; (with_reducible repeat (first | refine blk_drewN ?_ _ | refine blk_drew ?_ | refine blk_alloc ?_ _)); refine blk_put (cs := #[.int .i64 0, .int .i64 0, .int .i64 0, .int .i64 0, .bool false, .string (⟨#[]⟩ : ByteArray)]) ?_ 3 _ rfl; (with_reducible repeat (first | refine blk_drewN ?_ _ | refine blk_drew ?_ | refine blk_alloc ?_ _)); refine blk_put (cs := #[.int .i64 0, .int .i64 0, .int .i64 0, .int .i64 0, .bool false, .string (⟨#[]⟩ : ByteArray)]) ?_ 2 _ rfl; (with_reducible repeat (first | refine blk_drewN ?_ _ | refine blk_drew ?_ | refine blk_alloc ?_ _)); refine blk_put (cs := #[.int .i64 0, .int .i64 0, .int .i64 0, .int .i64 0, .bool false, .string (⟨#[]⟩ : ByteArray)]) ?_ 1 _ rfl; (with_reducible repeat (first | refine blk_drewN ?_ _ | refine blk_drew ?_ | refine blk_alloc ?_ _)); refine blk_put (cs := #[.int .i64 0, .int .i64 0, .int .i64 0, .int .i64 0, .bool false, .string (⟨#[]⟩ : ByteArray)]) ?_ 0 _ rfl; (with_reducible repeat (first | refine blk_drewN ?_ _ | refine blk_drew ?_ | refine blk_alloc ?_ _)); exact BK366.out) : p := h
theorem B8x2_ {p : Prop} (h : p := by (with_reducible repeat (first | refine blk_drewN ?_ _ | refine blk_drew ?_ | refine blk_alloc ?_ _)); refine blk_far ?_ NB366_367.out _; (with_reducible repeat (first | refine blk_drewN ?_ _ | refine blk_drew ?_ | refine blk_alloc ?_ _)); refine blk_far ?_ NB366_367.out _; (with_reducible repeat (first | refine blk_drewN ?_ _ | refine blk_drew ?_ | refine blk_alloc ?_ _)); refine blk_far ?_ NB366_367.out _; (with_reducible repeat (first | refine blk_drewN ?_ _ | refine blk_drew ?_ | refine blk_alloc ?_ _)); refine blk_far ?_ NB366_367.out _; (with_reducible repeat (first | refine blk_drewN ?_ _ | refine blk_drew ?_ | refine blk_alloc ?_ _)); refine blk_far ?_ NB366_367.out _; (with_reducible repeat (first | refine blk_drewN ?_ _ | refine blk_drew ?_ | refine blk_alloc ?_ _)); refine blk_far ?_ NB366_367.out _; (with_reducible repeat (first | refine blk_drewN ?_ _ | refine blk_drew ?_ | refine blk_alloc ?_ _)); exact BK366.out) : p := h
theorem B8x3_ {p : Prop} (h : p := by first | (with_reducible assumption) | assumption) : p := h
theorem B8x4_ {p : Prop} (h : p := by repeat (first | (with_reducible first | exact HB.out | apply below_alloc | apply pw_below_drewN | apply below_drew1 | refine below_set ?_ GE366.out) | exact HB.out)) : p := h
theorem B8x5_ {p : Prop} (h : p := by (with_reducible repeat (first | refine blk_drewN ?_ _ | refine blk_drew ?_ | refine blk_alloc ?_ _)); exact BK366.out) : p := h
theorem B8x6_ {p : Prop} (h : p := by kernel_rfl) : p := h
theorem B8x7_ {p : Prop} (h : p := by repeat (first | (with_reducible first | exact HB.out | apply below_alloc | apply pw_below_drewN | apply below_drew1 | refine below_set ?_ GE366.out | refine below_set ?_ GE367.out) | exact HB.out)) : p := h
theorem B8x8_ {p : Prop} (h : p := by (try simp only [List.map_toArray, List.map_cons, List.map_nil]); first | done | rfl | (simp only [List.length_drop, List.length_take]; rfl)) : p := h
theorem B8x9_ {p : Prop} (h : p := by repeat (first | (with_reducible first | exact HB.out | apply below_alloc | apply pw_below_drewN | apply below_drew1) | exact HB.out)) : p := h
/-! ### spec_ReadDgram: function 60 -/
def spec_ReadDgram.j0 : Nat → ByteArray → Bool → Option (Int × Int × Int × Int × Bool × ByteArray × Bool)
 | 0, _, _ => none
 | k + 1, x0, x14 => if x14 = true then (some (0, 0, 0, 0, false, (⟨#[]⟩ : ByteArray), false)) else (if 0 < (x0.size : Int) then (if 1 < (x0.size : Int) then (if 2 < (x0.size : Int) then (if 3 < (x0.size : Int) then (if 4 < (x0.size : Int) then (if 5 < (x0.size : Int) then (if 8 ≤ (x0.size : Int) then ((spec_DgramText.f k (wrap64 (bt x0 0)) (wrap64 (bt x0 1)) (wrap64 ((wrap64 (256 * (wrap64 (bt x0 2)))) + (wrap64 (bt x0 3)))) (wrap64 (8 * (wrap64 (bt x0 4)))) ((bt x0 5) == 1) (x0.extract 8 x0.size)).bind fun bt368 => (if bt368.2 = true then (if bt368.1.toList = x0.toList then (some (wrap64 (bt x0 0), wrap64 (bt x0 1), wrap64 ((wrap64 (256 * (wrap64 (bt x0 2)))) + (wrap64 (bt x0 3))), wrap64 (8 * (wrap64 (bt x0 4))), ((bt x0 5) == 1), x0.extract 8 x0.size, true)) else (some (0, 0, 0, 0, false, (⟨#[]⟩ : ByteArray), false))) else (some (0, 0, 0, 0, false, (⟨#[]⟩ : ByteArray), false)))) else (none)) else (none)) else (none)) else (none)) else (none)) else (none)) else (none))
def spec_ReadDgram.f (k : Nat) (a0 : ByteArray) : Option (Int × Int × Int × Int × Bool × ByteArray × Bool) := if (a0.size : Int) < 9 then (spec_ReadDgram.j0 k a0 true) else (if 5 < (a0.size : Int) then (spec_ReadDgram.j0 k a0 (decide ((bt a0 5) > 1))) else (none))
theorem spec_ReadDgram.mono_l : ∀ k, (∀ y0 y1, LeO (spec_ReadDgram.j0 k y0 y1) (spec_ReadDgram.j0 (k + 1) y0 y1))
 | 0 => fun _ _ r h => by simp [spec_ReadDgram.j0] at h
 | k + 1 => by
  have ih0 := spec_ReadDgram.mono_l k
  ·intro y0 y1
   unfold spec_ReadDgram.j0
   repeat' first
   | (with_reducible exact ih0 _ _)
   | (with_reducible exact spec_DgramText.mono _ _ _ _ _ _ _)
   | (with_reducible exact LeO.refl _)
   | (with_reducible exact LeO.none _)
   | (with_reducible refine LeO.ite ?_ ?_)
   | (with_reducible refine LeO.bind ?_ (fun _ => ?_))
   | exact ih0 _ _
   | exact spec_DgramText.mono _ _ _ _ _ _ _
   | exact LeO.none _
   | refine LeO.ite ?_ ?_
   | refine LeO.bind ?_ (fun _ => ?_)
theorem spec_ReadDgram.mono : ∀ a0 k, LeO (spec_ReadDgram.f k a0) (spec_ReadDgram.f (k + 1) a0) := by
 intro a0 k
 have ih0 := spec_ReadDgram.mono_l k
 unfold spec_ReadDgram.f
 repeat' first
   | (with_reducible exact ih0 _ _)
   | (with_reducible exact spec_DgramText.mono _ _ _ _ _ _ _)
   | (with_reducible exact LeO.refl _)
   | (with_reducible exact LeO.none _)
   | (with_reducible refine LeO.ite ?_ ?_)
   | (with_reducible refine LeO.bind ?_ (fun _ => ?_))
   | exact ih0 _ _
   | exact spec_DgramText.mono _ _ _ _ _ _ _
   | exact LeO.none _
   | refine LeO.ite ?_ ?_
   | refine LeO.bind ?_ (fun _ => ?_)
def spec_ReadDgram.T3 : Bool × List (List Nat × List Nat) := (true, [([], []), ([0], [0]), ([1], [1]), ([], []), ([3], [3]), ([4], [4]), ([], []), ([6], [6]), ([7], [7]), ([8], [8]), ([], []), ([10], [10]), ([11], [11]), ([9, 12], [9, 12]), ([], []), ([14], [14]), ([15], [15]), ([16], [16]), ([], []), ([18], [18]), ([19], [19]), ([], []), ([21], [21]), ([2, 5, 13, 17, 20, 22], [2, 5, 13, 17, 20, 22]), ([], []), ([24, 23, 0, 1, 2, 3, 4, 5, 6, 7, 8, 9, 10, 11, 12, 13, 14, 15, 16, 17, 18, 19, 20, 21, 22, 23, 24], [23, 24])])
def spec_ReadDgram.B3 : List Nat := [0, 1, 3, 0, 8, 24, 0, 64, 192, 448, 0, 1024, 3072, 8128, 0, 16384, 49152, 114688, 0, 262144, 786432, 0, 2097152, 8388607, 0, 33554431]
theorem spec_ReadDgram.tab3 : rtab .any (opsOf Try.f60 3) = spec_ReadDgram.T3 := by kernel_rfl
theorem spec_ReadDgram.bits3 : waitsOk spec_ReadDgram.T3.2 spec_ReadDgram.B3 = true := by kernel_rfl
set_option maxHeartbeats 8000000 in
set_option maxRecDepth 100000 in
theorem spec_ReadDgram.calls (k : Nat) (a0 : ByteArray) (r1 : Int) (r2 : Int) (r3 : Int) (r4 : Int) (r5 : Bool) (r6 : ByteArray) (r7 : Bool) (w : World) (h : spec_ReadDgram.f k a0 = some (r1, r2, r3, r4, r5, r6, r7)) :
  Calls Try.prog 60 #[.string a0] w fun e w' => e = .returned (.tuple #[.agg #[.int .i64 r1, .int .i64 r2, .int .i64 r3, .int .i64 r4, .bool r5, .string r6], .bool r7]) ∧ Below w.heap.size w w' := by
 have hu85 := Try.underlying85
 have HB := Aside0.mk (Below.refl w.heap.size w)
 have H : (if (a0.size : Int) < 9 then (spec_ReadDgram.j0 k a0 true) else (if 5 < (a0.size : Int) then (spec_ReadDgram.j0 k a0 (decide ((bt a0 5) > 1))) else (none))) = some (r1, r2, r3, r4, r5, r6, r7) := h
 clear h
 have HC2 := Aside0.mk H
 clear H
 go_enter Try.func60, Try.ntmps60
 go_upto_region 1 with (first | ((with_reducible refine gate_dst (N := 2) rfl ?_); refine box_event ?hg (N := 2) ?hd (cs := #[.int .i64 0, .int .i64 0, .int .i64 0, .int .i64 0, .bool false, .string (⟨#[]⟩ : ByteArray)]) (t := 85) ?hr ?_; (case hd => rfl); (case hg => rfl); (case hr => first | (go_simp; done) | (go_simp; rfl)); intro gb366 hg w3 hbox hb; have n0_ := Aside0.mk (below_step B8x9_ hb); have n1_ := Aside0.mk (hbox); have n2_ := Aside0.mk ((by rw [hg]; exact (below_size B8x9_) : w.heap.size ≤ gb366)); have n3_ := Aside0.mk ((by rw [hg]; exact (below_size B8x9_) : w.heap.size ≤ gb366)); clear HB; have HB := n0_; have BK366 := n1_; have GW366 := n2_; have GE366 := n3_; clear n0_ n1_ n2_ n3_; clear hb hbox hg))
 (try simp only [Act.put, List.setIfInBounds_toArray, List.set_cons_zero, List.set_cons_succ])
 go_cut [14] (fun v14 wc => ∃ (kq : Nat) (x14_1 : Bool), v14 = .bool x14_1 ∧ Aside0 (spec_ReadDgram.j0 kq a0 x14_1 = some (r1, r2, r3, r4, r5, r6, r7)) ∧ Aside0 (kq ≤ k) ∧ Aside0 (wc.heap[gb366]? = some (.cells #[.int .i64 0, .int .i64 0, .int .i64 0, .int .i64 0, .bool false, .string (⟨#[]⟩ : ByteArray)] 85 (0, 0))) ∧ Aside0 (Below w.heap.size w wc))
 case first =>
  have H := HC2.out
  clear HC2
  by_cases c4 : (a0.size : Int) < 9
  ·rw [if_pos c4] at H
   have c4b0 : decide ((a0.size : Int) < 9) = true := decide_eq_true c4
   have c4b1 : decide (a0.size < 9) = true := decide_eq_true (by omega)
   clear c4
   (first | rw [c4b0] | (simp only [i64_w, i32_w]; rw [c4b0]) | skip)
   have H' := Aside0.mk H
   clear H
   go_wp2
   go_meet
   case rel => exact ⟨_, (true), (be_), H', ⟨by first | omega | exact Nat.le_refl _⟩, ⟨by (with_reducible repeat (first | refine blk_drewN ?_ _ | refine blk_drew ?_ | refine blk_alloc ?_ _)); exact BK366.out⟩, ⟨by repeat (first | (with_reducible first | exact HB.out | apply below_alloc | apply pw_below_drewN | apply below_drew1 | refine below_set ?_ GE366.out) | exact HB.out)⟩⟩
  ·rw [if_neg c4] at H
   have c4b0 : decide ((a0.size : Int) < 9) = false := decide_eq_false c4
   have c4b1 : decide (a0.size < 9) = false := decide_eq_false (by omega)
   clear c4
   (first | rw [c4b0] | (simp only [i64_w, i32_w]; rw [c4b0]) | skip)
   by_cases c5 : 5 < (a0.size : Int)
   ·rw [if_pos c5] at H
    have c5b0 : decide (5 < (a0.size : Int)) = true := decide_eq_true c5
    have c5b1 : decide (5 < a0.size) = true := decide_eq_true (by omega)
    clear c5
    have H' := Aside0.mk H
    clear H
    have p6 : 0 ≤ (5 : Int) := (by omega)
    have q6 : 5 < a0.size := (by have : (5 : Int) < (a0.size : Int) := of_decide_eq_true B8x3_; omega)
    have hx6 : ∀ h : 5 < a0.size, ((a0[5]'h).toNat : Int) = bt a0 5 := bt_at a0 5
    clear p6
    have qi6 : (5 < (a0.size : Int)) = True := eq_true (of_decide_eq_true B8x3_)
    replace q6 := eq_true q6
    go_wp2
    go_meet
    case rel => exact ⟨_, (decide ((bt a0 5) > 1)), (be_), H', ⟨by first | omega | exact Nat.le_refl _⟩, ⟨by (with_reducible repeat (first | refine blk_drewN ?_ _ | refine blk_drew ?_ | refine blk_alloc ?_ _)); exact BK366.out⟩, ⟨by repeat (first | (with_reducible first | exact HB.out | apply below_alloc | apply pw_below_drewN | apply below_drew1 | refine below_set ?_ GE366.out) | exact HB.out)⟩⟩
   ·rw [if_neg c5] at H
    exact absurd H (by simp)
 case rest =>
  clear HC2
  try clear p2
  try clear c4
  try clear c4b0
  try clear c4b1
  try clear c5
  try clear c5b0
  try clear c5b1
  try clear c6
  try clear p6
  try clear q6
  try clear hx6
  try clear qi6
  try clear p6
  try clear q6
  obtain ⟨kq, x14_1, rfl, HA, HJ1, BK366, HB⟩ := hcut
  cases kq with
  | zero => exact absurd HA.out (by simp [spec_ReadDgram.j0])
  | succ kj1 =>
   have H := HA.out
   clear HA
   simp only [spec_ReadDgram.j0] at H
   by_cases c7 : x14_1 = true
   ·subst c7
    rw [if_pos rfl] at H
    simp only [Option.some.injEq, Prod.mk.injEq] at H
    obtain ⟨rfl, rfl, rfl, rfl, rfl, rfl, rfl⟩ := H
    obtain ⟨hcz8_0, hcz8_1, hcz8_2, hcz8_3, hcz8_4, hcz8_5⟩ := cl6 BK366.out
    obtain ⟨hfz8_0, hfz8_1, hfz8_2, hfz8_3, hfz8_4, hfz8_5⟩ := fr6 BK366.out
    go_wp2
    refine bodyPost_ret (results_ct rfl _ _ gb366 85 #[.int .i64 0, .int .i64 0, .int .i64 0, .int .i64 0, .bool false, .string (⟨#[]⟩ : ByteArray)] (0, 0) _ rfl B8x1_ Try.underlying85 rfl B8x6_) rfl ?_
    exact ⟨by first | rfl | (simp [errW_none, errW_some] <;> rfl) | (simp [*, errW_none, errW_some] <;> rfl), by repeat (first | (with_reducible first | exact HB.out | apply below_alloc | apply pw_below_drewN | apply below_drew1 | refine below_set ?_ GE366.out) | exact HB.out)⟩
   ·replace c7 := Bool.eq_false_iff.mpr c7
    subst c7
    rw [if_neg (show ¬ (false = true) by decide)] at H
    by_cases c9 : 0 < (a0.size : Int)
    ·rw [if_pos c9] at H
     have c9b0 : decide (0 < (a0.size : Int)) = true := decide_eq_true c9
     have c9b1 : decide (0 < a0.size) = true := decide_eq_true (by omega)
     clear c9
     by_cases c11 : 1 < (a0.size : Int)
     ·rw [if_pos c11] at H
      have c11b0 : decide (1 < (a0.size : Int)) = true := decide_eq_true c11
      have c11b1 : decide (1 < a0.size) = true := decide_eq_true (by omega)
      clear c11
      by_cases c13 : 2 < (a0.size : Int)
      ·rw [if_pos c13] at H
       have c13b0 : decide (2 < (a0.size : Int)) = true := decide_eq_true c13
       have c13b1 : decide (2 < a0.size) = true := decide_eq_true (by omega)
       clear c13
       by_cases c15 : 3 < (a0.size : Int)
       ·rw [if_pos c15] at H
        have c15b0 : decide (3 < (a0.size : Int)) = true := decide_eq_true c15
        have c15b1 : decide (3 < a0.size) = true := decide_eq_true (by omega)
        clear c15
        by_cases c17 : 4 < (a0.size : Int)
        ·rw [if_pos c17] at H
         have c17b0 : decide (4 < (a0.size : Int)) = true := decide_eq_true c17
         have c17b1 : decide (4 < a0.size) = true := decide_eq_true (by omega)
         clear c17
         by_cases c19 : 5 < (a0.size : Int)
         ·rw [if_pos c19] at H
          have c19b0 : decide (5 < (a0.size : Int)) = true := decide_eq_true c19
          have c19b1 : decide (5 < a0.size) = true := decide_eq_true (by omega)
          clear c19
          by_cases c21 : 8 ≤ (a0.size : Int)
          ·rw [if_pos c21] at H
           have c21b0 := eq_true c21
           have c21b1 : decide (8 ≤ (a0.size : Int)) = true := decide_eq_true c21
           clear c21
           replace H := Option.bind_eq_some_iff.mp H
           obtain ⟨⟨t368, t369⟩, A220, H⟩ := H
           (try dsimp only at H)
           have A22 := Aside0.mk A220
           clear A220
           by_cases c23 : t369 = true
           ·subst c23
            rw [if_pos rfl] at H
            by_cases c24 : t368.toList = a0.toList
            ·rw [if_pos c24] at H
             have c24b0 : (t368.toList == a0.toList) = true := beq_iff_eq.mpr c24
             have c24b1 : (t368.toList != a0.toList) = false := bne_eq_false_iff_eq.mpr c24
             clear c24
             simp only [Option.some.injEq, Prod.mk.injEq] at H
             obtain ⟨rfl, rfl, rfl, rfl, rfl, rfl, rfl⟩ := H
             try go_wp2
             have n0_ := Aside0.mk (blk_drew BK366.out)
             have n1_ := Aside0.mk (below_drew1 HB.out)
             clear BK366
             clear HB
             have BK366 := n0_
             have HB := n1_
             clear n0_ n1_
             have p10 : 0 ≤ (0 : Int) := (by omega)
             have q10 : 0 < a0.size := (by have : (0 : Int) < (a0.size : Int) := of_decide_eq_true B8x3_; omega)
             have hx10 : ∀ h : 0 < a0.size, ((a0[0]'h).toNat : Int) = bt a0 0 := bt_at a0 0
             clear p10
             have qi10 : (0 < (a0.size : Int)) = True := eq_true (of_decide_eq_true B8x3_)
             replace q10 := eq_true q10
             have p12 : 0 ≤ (1 : Int) := (by omega)
             have q12 : 1 < a0.size := (by have : (1 : Int) < (a0.size : Int) := of_decide_eq_true B8x3_; omega)
             have hx12 : ∀ h : 1 < a0.size, ((a0[1]'h).toNat : Int) = bt a0 1 := bt_at a0 1
             clear p12
             have qi12 : (1 < (a0.size : Int)) = True := eq_true (of_decide_eq_true B8x3_)
             replace q12 := eq_true q12
             have p14 : 0 ≤ (2 : Int) := (by omega)
             have q14 : 2 < a0.size := (by have : (2 : Int) < (a0.size : Int) := of_decide_eq_true B8x3_; omega)
             have hx14 : ∀ h : 2 < a0.size, ((a0[2]'h).toNat : Int) = bt a0 2 := bt_at a0 2
             clear p14
             have qi14 : (2 < (a0.size : Int)) = True := eq_true (of_decide_eq_true B8x3_)
             replace q14 := eq_true q14
             have p16 : 0 ≤ (3 : Int) := (by omega)
             have q16 : 3 < a0.size := (by have : (3 : Int) < (a0.size : Int) := of_decide_eq_true B8x3_; omega)
             have hx16 : ∀ h : 3 < a0.size, ((a0[3]'h).toNat : Int) = bt a0 3 := bt_at a0 3
             clear p16
             have qi16 : (3 < (a0.size : Int)) = True := eq_true (of_decide_eq_true B8x3_)
             replace q16 := eq_true q16
             have p18 : 0 ≤ (4 : Int) := (by omega)
             have q18 : 4 < a0.size := (by have : (4 : Int) < (a0.size : Int) := of_decide_eq_true B8x3_; omega)
             have hx18 : ∀ h : 4 < a0.size, ((a0[4]'h).toNat : Int) = bt a0 4 := bt_at a0 4
             clear p18
             have qi18 : (4 < (a0.size : Int)) = True := eq_true (of_decide_eq_true B8x3_)
             replace q18 := eq_true q18
             have p20 : 0 ≤ (5 : Int) := (by omega)
             have q20 : 5 < a0.size := (by have : (5 : Int) < (a0.size : Int) := of_decide_eq_true B8x3_; omega)
             have hx20 : ∀ h : 5 < a0.size, ((a0[5]'h).toNat : Int) = bt a0 5 := bt_at a0 5
             clear p20
             have qi20 : (5 < (a0.size : Int)) = True := eq_true (of_decide_eq_true B8x3_)
             replace q20 := eq_true q20
             refine start_ (n := 26) (S := fun w' => True) (ds := []) #[false, false, false, false, false, false, false, false, false, false, false, false, false, false, false, false, false, false, false, false, false, false, false, false, false, false] B8x6_ rfl rfl trivial (fun hHeld => ?_); refine with_tabW spec_ReadDgram.tab3 spec_ReadDgram.bits3 (fun HT_ HW_ => ?_)
             generalize wc.drew = w25 at BK366 HB hHeld ⊢
             refine pu_ 0 16 HT_ ?_
             refine pu_ 3 19 HT_ ?_
             refine pu_ 6 22 HT_ ?_
             refine pu_ 10 26 HT_ ?_
             refine pu_ 14 30 HT_ ?_
             refine pu_ 18 34 HT_ ?_
             refine pu_ 21 37 HT_ ?_
             refine pu_ 22 38 HT_ ?_
             refine take_ (i := 1) (N := some 17) (v := ?_) (a' := ?_) #[true, true, false, true, false, false, true, false, false, false, true, false, false, false, true, false, false, false, true, false, false, true, true, false, false, false] rfl rfl (take_ofW HT_.out HW_.out B8x6_) (fun _ _ _ h => h) (Or.inl ⟨by rfl, ?_⟩) hHeld ?_ ?_
             rotate_left
             ·intro w' _
              go_simp
              with_reducible rfl
             rotate_left
             ·simp only [Act.put, List.setIfInBounds_toArray, List.set_cons_zero, List.set_cons_succ, i64_w, i32_w]
              rfl
             refine pu_ 2 18 HT_ ?_
             refine take_ (i := 4) (N := some 20) (v := ?_) (a' := ?_) #[true, true, true, true, true, false, true, false, false, false, true, false, false, false, true, false, false, false, true, false, false, true, true, false, false, false] rfl rfl (take_ofW HT_.out HW_.out B8x6_) (fun _ _ _ h => h) (Or.inl ⟨by rfl, ?_⟩) hHeld ?_ ?_
             rotate_left
             ·intro w' _
              go_simp
              with_reducible rfl
             rotate_left
             ·simp only [Act.put, List.setIfInBounds_toArray, List.set_cons_zero, List.set_cons_succ, i64_w, i32_w]
              rfl
             refine pu_ 5 21 HT_ ?_
             refine take_ (i := 7) (N := some 23) (v := ?_) (a' := ?_) #[true, true, true, true, true, true, true, true, false, false, true, false, false, false, true, false, false, false, true, false, false, true, true, false, false, false] rfl rfl (take_ofW HT_.out HW_.out B8x6_) (fun _ _ _ h => h) (Or.inl ⟨by rfl, ?_⟩) hHeld ?_ ?_
             rotate_left
             ·intro w' _
              go_simp
              with_reducible rfl
             rotate_left
             ·simp only [Act.put, List.setIfInBounds_toArray, List.set_cons_zero, List.set_cons_succ, i64_w, i32_w]
              rfl
             refine pu_ 8 24 HT_ ?_
             refine pu_ 9 25 HT_ ?_
             refine take_ (i := 11) (N := some 27) (v := ?_) (a' := ?_) #[true, true, true, true, true, true, true, true, true, true, true, true, false, false, true, false, false, false, true, false, false, true, true, false, false, false] rfl rfl (take_ofW HT_.out HW_.out B8x6_) (fun _ _ _ h => h) (Or.inl ⟨by rfl, ?_⟩) hHeld ?_ ?_
             rotate_left
             ·intro w' _
              go_simp
              with_reducible rfl
             rotate_left
             ·simp only [Act.put, List.setIfInBounds_toArray, List.set_cons_zero, List.set_cons_succ, i64_w, i32_w]
              rfl
             refine pu_ 12 28 HT_ ?_
             refine pu_ 13 29 HT_ ?_
             refine take_ (i := 15) (N := some 31) (v := ?_) (a' := ?_) #[true, true, true, true, true, true, true, true, true, true, true, true, true, true, true, true, false, false, true, false, false, true, true, false, false, false] rfl rfl (take_ofW HT_.out HW_.out B8x6_) (fun _ _ _ h => h) (Or.inl ⟨by rfl, ?_⟩) hHeld ?_ ?_
             rotate_left
             ·intro w' _
              go_simp
              with_reducible rfl
             rotate_left
             ·simp only [Act.put, List.setIfInBounds_toArray, List.set_cons_zero, List.set_cons_succ, i64_w, i32_w]
              rfl
             refine pu_ 16 32 HT_ ?_
             refine pu_ 17 33 HT_ ?_
             refine take_ (i := 19) (N := some 35) (v := ?_) (a' := ?_) #[true, true, true, true, true, true, true, true, true, true, true, true, true, true, true, true, true, true, true, true, false, true, true, false, false, false] rfl rfl (take_ofW HT_.out HW_.out B8x6_) (fun _ _ _ h => h) (Or.inl ⟨by rfl, ?_⟩) hHeld ?_ ?_
             rotate_left
             ·intro w' _
              go_simp
              with_reducible rfl
             rotate_left
             ·simp only [Act.put, List.setIfInBounds_toArray, List.set_cons_zero, List.set_cons_succ, i64_w, i32_w]
              rfl
             refine pu_ 20 36 HT_ ?_
             refine pu_ 23 39 HT_ ?_
             refine one_ (i := 24) (N := some 4) #[true, true, true, true, true, true, true, true, true, true, true, true, true, true, true, true, true, true, true, true, true, true, true, true, true, false] rfl rfl (one_of HT_.out B8x6_) (by decide) (fun K hK => ?_)
             refine box_step ?hg (N := 4) ?hd (cs := #[.int .i64 0, .int .i64 0, .int .i64 0, .int .i64 0, .bool false, .string (⟨#[]⟩ : ByteArray)]) (t := 85) ?hr ?_; (case hd => rfl); (case hg => rfl); (case hr => first | (go_simp; done) | (go_simp; rfl))
             intro gb367 hg w26 hbox hb
             have n0_ := Aside0.mk (blk_below (g := gb366) (o := .cells #[.int .i64 0, .int .i64 0, .int .i64 0, .int .i64 0, .bool false, .string (⟨#[]⟩ : ByteArray)] 85 (0, 0)) B8x5_ hb)
             have n1_ := Aside0.mk (below_step B8x4_ hb)
             have n2_ := Aside0.mk (hbox)
             have n3_ := Aside0.mk ((by rw [hg]; exact (below_size B8x4_) : w.heap.size ≤ gb367))
             have n4_ := Aside0.mk ((by rw [hg]; exact (below_size B8x4_) : w.heap.size ≤ gb367))
             have n5_ := Aside0.mk ((by rw [hg]; exact Nat.ne_of_lt (blk_lt (g := gb366) (o := .cells #[.int .i64 0, .int .i64 0, .int .i64 0, .int .i64 0, .bool false, .string (⟨#[]⟩ : ByteArray)] 85 (0, 0)) B8x5_) : gb366 ≠ gb367))
             have n6_ := Aside0.mk ((by rw [hg]; exact Nat.ne_of_gt (blk_lt (g := gb366) (o := .cells #[.int .i64 0, .int .i64 0, .int .i64 0, .int .i64 0, .bool false, .string (⟨#[]⟩ : ByteArray)] 85 (0, 0)) B8x5_) : gb367 ≠ gb366))
             clear BK366
             clear HB
             have BK366 := n0_
             have HB := n1_
             have BK367 := n2_
             have GW367 := n3_
             have GE367 := n4_
             have NB366_367 := n5_
             have NB367_366 := n6_
             clear n0_ n1_ n2_ n3_ n4_ n5_ n6_
             clear hb hbox hg
             refine hK.out _ _ trivial (fun hHeld => ?_)
             clear hK K
             refine norm_ (a' := ?_) ?_ ?_
             rotate_left
             ·show Act.put _ (some 4) _ = _
              simp only [Act.put, List.setIfInBounds_toArray, List.set_cons_zero, List.set_cons_succ, i64_w, i32_w]
              rfl
             refine one_ (i := 25) (N := none) #[true, true, true, true, true, true, true, true, true, true, true, true, true, true, true, true, true, true, true, true, true, true, true, true, true, true] rfl rfl (one_of HT_.out B8x6_) (by decide) (fun K hK => ?_)
             have hs27 : w26.cell? ⟨gb367, 0, none⟩ = some (.int .i64 0) := (blk_cell BK367.out 0).trans rfl
             have hfs27 := blk_frozen BK367.out 0
             have hns27_0 := NB366_367.out
             have hms27_0 := NB367_366.out
             have hs28 : w26.cell? ⟨gb367, 1, none⟩ = some (.int .i64 0) := (blk_cell BK367.out 1).trans rfl
             have hfs28 := blk_frozen BK367.out 1
             have hns28_0 := NB366_367.out
             have hms28_0 := NB367_366.out
             have hs29 : w26.cell? ⟨gb367, 2, none⟩ = some (.int .i64 0) := (blk_cell BK367.out 2).trans rfl
             have hfs29 := blk_frozen BK367.out 2
             have hns29_0 := NB366_367.out
             have hms29_0 := NB367_366.out
             have hs30 : w26.cell? ⟨gb367, 3, none⟩ = some (.int .i64 0) := (blk_cell BK367.out 3).trans rfl
             have hfs30 := blk_frozen BK367.out 3
             have hns30_0 := NB366_367.out
             have hms30_0 := NB367_366.out
             have hs31 : w26.cell? ⟨gb367, 4, none⟩ = some (.bool false) := (blk_cell BK367.out 4).trans rfl
             have hfs31 := blk_frozen BK367.out 4
             have hns31_0 := NB366_367.out
             have hms31_0 := NB367_366.out
             have hs32 : w26.cell? ⟨gb367, 5, none⟩ = some (.string (⟨#[]⟩ : ByteArray)) := (blk_cell BK367.out 5).trans rfl
             have hfs32 := blk_frozen BK367.out 5
             have hns32_0 := NB366_367.out
             have hms32_0 := NB367_366.out
             refine skip_ (w1 := ?_) (by rfl) rfl ?_ ?_
             rotate_left
             ·go_simp
              rfl
             refine hK.out _ _ trivial (fun hHeld => ?_)
             clear hK K
             refine done_ (done_of HT_.out B8x6_) ?_
             have hnb33 := NB367_366.out
             have hnc33 := NB366_367.out
             obtain ⟨hcz34_0, hcz34_1, hcz34_2, hcz34_3, hcz34_4, hcz34_5⟩ := cl6 BK367.out
             obtain ⟨hfz34_0, hfz34_1, hfz34_2, hfz34_3, hfz34_4, hfz34_5⟩ := fr6 BK367.out
             try go_wp2_with (first | ((with_reducible refine gate_callee (f := 131) rfl ?_); refine goesL_ (some 42) rfl rfl Try.func131 B8x6_ rfl #[.agg #[.int .i64 (wrap64 (bt a0 0)), .int .i64 (wrap64 (bt a0 1)), .int .i64 (wrap64 ((wrap64 (256 * (wrap64 (bt a0 2)))) + (wrap64 (bt a0 3)))), .int .i64 (wrap64 (8 * (wrap64 (bt a0 4)))), .bool ((bt a0 5) == 1), .string (a0.extract 8 a0.size)]] rfl B8x8_ ?_; (with_reducible refine (spec_DgramText.calls kj1 (wrap64 (bt a0 0)) (wrap64 (bt a0 1)) (wrap64 ((wrap64 (256 * (wrap64 (bt a0 2)))) + (wrap64 (bt a0 3)))) (wrap64 (8 * (wrap64 (bt a0 4)))) ((bt a0 5) == 1) (a0.extract 8 a0.size) t368 true _ A22.out).mono ?_); rintro e w35 ⟨rfl, hb⟩; refine ⟨_, rfl, ?_⟩; have n0_ := Aside0.mk (blk_below (g := gb366) (o := .cells #[.int .i64 0, .int .i64 0, .int .i64 0, .int .i64 0, .bool false, .string (⟨#[]⟩ : ByteArray)] 85 (0, 0)) B8x2_ hb); have n1_ := Aside0.mk (blk_below (g := gb367) (o := .cells #[.int .i64 (wrap64 (bt a0 0)), .int .i64 (wrap64 (bt a0 1)), .int .i64 (wrap64 ((wrap64 (256 * (wrap64 (bt a0 2)))) + (wrap64 (bt a0 3)))), .int .i64 (wrap64 (8 * (wrap64 (bt a0 4)))), .bool ((bt a0 5) == 1), .string (a0.extract 8 a0.size)] 85 (0, 0)) B8x0_ hb); have n2_ := Aside0.mk (below_step B8x7_ hb); clear BK366; clear BK367; clear HB; have BK366 := n0_; have BK367 := n1_; have HB := n2_; clear n0_ n1_ n2_; (try clear hb); (try clear hb2); (try clear hk); (try clear hi); obtain ⟨hcz36_0, hcz36_1, hcz36_2, hcz36_3, hcz36_4, hcz36_5⟩ := cl6 BK367.out; obtain ⟨hfz36_0, hfz36_1, hfz36_2, hfz36_3, hfz36_4, hfz36_5⟩ := fr6 BK367.out; obtain ⟨hcz37_0, hcz37_1, hcz37_2, hcz37_3, hcz37_4, hcz37_5⟩ := cl6 BK366.out; obtain ⟨hfz37_0, hfz37_1, hfz37_2, hfz37_3, hfz37_4, hfz37_5⟩ := fr6 BK366.out))
             refine bodyPost_ret (results_ct rfl _ _ gb366 85 #[.int .i64 (wrap64 (bt a0 0)), .int .i64 (wrap64 (bt a0 1)), .int .i64 (wrap64 ((wrap64 (256 * (wrap64 (bt a0 2)))) + (wrap64 (bt a0 3)))), .int .i64 (wrap64 (8 * (wrap64 (bt a0 4)))), .bool ((bt a0 5) == 1), .string (a0.extract 8 a0.size)] (0, 0) _ rfl (by (with_reducible repeat (first | refine blk_drewN ?_ _ | refine blk_drew ?_ | refine blk_alloc ?_ _)); refine blk_put (cs := #[.int .i64 (wrap64 (bt a0 0)), .int .i64 (wrap64 (bt a0 1)), .int .i64 (wrap64 ((wrap64 (256 * (wrap64 (bt a0 2)))) + (wrap64 (bt a0 3)))), .int .i64 (wrap64 (8 * (wrap64 (bt a0 4)))), .bool ((bt a0 5) == 1), .string (⟨#[]⟩ : ByteArray)]) ?_ 5 _ rfl; (with_reducible repeat (first | refine blk_drewN ?_ _ | refine blk_drew ?_ | refine blk_alloc ?_ _)); refine blk_put (cs := #[.int .i64 (wrap64 (bt a0 0)), .int .i64 (wrap64 (bt a0 1)), .int .i64 (wrap64 ((wrap64 (256 * (wrap64 (bt a0 2)))) + (wrap64 (bt a0 3)))), .int .i64 (wrap64 (8 * (wrap64 (bt a0 4)))), .bool false, .string (⟨#[]⟩ : ByteArray)]) ?_ 4 _ rfl; (with_reducible repeat (first | refine blk_drewN ?_ _ | refine blk_drew ?_ | refine blk_alloc ?_ _)); refine blk_put (cs := #[.int .i64 (wrap64 (bt a0 0)), .int .i64 (wrap64 (bt a0 1)), .int .i64 (wrap64 ((wrap64 (256 * (wrap64 (bt a0 2)))) + (wrap64 (bt a0 3)))), .int .i64 0, .bool false, .string (⟨#[]⟩ : ByteArray)]) ?_ 3 _ rfl; (with_reducible repeat (first | refine blk_drewN ?_ _ | refine blk_drew ?_ | refine blk_alloc ?_ _)); refine blk_put (cs := #[.int .i64 (wrap64 (bt a0 0)), .int .i64 (wrap64 (bt a0 1)), .int .i64 0, .int .i64 0, .bool false, .string (⟨#[]⟩ : ByteArray)]) ?_ 2 _ rfl; (with_reducible repeat (first | refine blk_drewN ?_ _ | refine blk_drew ?_ | refine blk_alloc ?_ _)); refine blk_put (cs := #[.int .i64 (wrap64 (bt a0 0)), .int .i64 0, .int .i64 0, .int .i64 0, .bool false, .string (⟨#[]⟩ : ByteArray)]) ?_ 1 _ rfl; (with_reducible repeat (first | refine blk_drewN ?_ _ | refine blk_drew ?_ | refine blk_alloc ?_ _)); refine blk_put (cs := #[.int .i64 0, .int .i64 0, .int .i64 0, .int .i64 0, .bool false, .string (⟨#[]⟩ : ByteArray)]) ?_ 0 _ rfl; (with_reducible repeat (first | refine blk_drewN ?_ _ | refine blk_drew ?_ | refine blk_alloc ?_ _)); exact BK366.out) Try.underlying85 rfl B8x6_) rfl ?_
             exact ⟨by first | rfl | (simp [errW_none, errW_some] <;> rfl) | (simp [*, errW_none, errW_some] <;> rfl), by repeat (first | (with_reducible first | exact HB.out | apply below_alloc | apply pw_below_drewN | apply below_drew1 | refine below_set ?_ GE366.out | refine below_set ?_ GE367.out) | exact HB.out)⟩
            ·rw [if_neg c24] at H
             have c24b0 : (t368.toList == a0.toList) = false := beq_eq_false_iff_ne.mpr c24
             have c24b1 : (t368.toList != a0.toList) = true := bne_iff_ne.mpr c24
             simp only [Option.some.injEq, Prod.mk.injEq] at H
             obtain ⟨rfl, rfl, rfl, rfl, rfl, rfl, rfl⟩ := H
             try go_wp2
             have n0_ := Aside0.mk (blk_drew BK366.out)
             have n1_ := Aside0.mk (below_drew1 HB.out)
             clear BK366
             clear HB
             have BK366 := n0_
             have HB := n1_
             clear n0_ n1_
             have p10 : 0 ≤ (0 : Int) := (by omega)
             have q10 : 0 < a0.size := (by have : (0 : Int) < (a0.size : Int) := of_decide_eq_true B8x3_; omega)
             have hx10 : ∀ h : 0 < a0.size, ((a0[0]'h).toNat : Int) = bt a0 0 := bt_at a0 0
             clear p10
             have qi10 : (0 < (a0.size : Int)) = True := eq_true (of_decide_eq_true B8x3_)
             replace q10 := eq_true q10
             have p12 : 0 ≤ (1 : Int) := (by omega)
             have q12 : 1 < a0.size := (by have : (1 : Int) < (a0.size : Int) := of_decide_eq_true B8x3_; omega)
             have hx12 : ∀ h : 1 < a0.size, ((a0[1]'h).toNat : Int) = bt a0 1 := bt_at a0 1
             clear p12
             have qi12 : (1 < (a0.size : Int)) = True := eq_true (of_decide_eq_true B8x3_)
             replace q12 := eq_true q12
             have p14 : 0 ≤ (2 : Int) := (by omega)
             have q14 : 2 < a0.size := (by have : (2 : Int) < (a0.size : Int) := of_decide_eq_true B8x3_; omega)
             have hx14 : ∀ h : 2 < a0.size, ((a0[2]'h).toNat : Int) = bt a0 2 := bt_at a0 2
             clear p14
             have qi14 : (2 < (a0.size : Int)) = True := eq_true (of_decide_eq_true B8x3_)
             replace q14 := eq_true q14
             have p16 : 0 ≤ (3 : Int) := (by omega)
             have q16 : 3 < a0.size := (by have : (3 : Int) < (a0.size : Int) := of_decide_eq_true B8x3_; omega)
             have hx16 : ∀ h : 3 < a0.size, ((a0[3]'h).toNat : Int) = bt a0 3 := bt_at a0 3
             clear p16
             have qi16 : (3 < (a0.size : Int)) = True := eq_true (of_decide_eq_true B8x3_)
             replace q16 := eq_true q16
             have p18 : 0 ≤ (4 : Int) := (by omega)
             have q18 : 4 < a0.size := (by have : (4 : Int) < (a0.size : Int) := of_decide_eq_true B8x3_; omega)
             have hx18 : ∀ h : 4 < a0.size, ((a0[4]'h).toNat : Int) = bt a0 4 := bt_at a0 4
             clear p18
             have qi18 : (4 < (a0.size : Int)) = True := eq_true (of_decide_eq_true B8x3_)
             replace q18 := eq_true q18
             have p20 : 0 ≤ (5 : Int) := (by omega)
             have q20 : 5 < a0.size := (by have : (5 : Int) < (a0.size : Int) := of_decide_eq_true B8x3_; omega)
             have hx20 : ∀ h : 5 < a0.size, ((a0[5]'h).toNat : Int) = bt a0 5 := bt_at a0 5
             clear p20
             have qi20 : (5 < (a0.size : Int)) = True := eq_true (of_decide_eq_true B8x3_)
             replace q20 := eq_true q20
             refine start_ (n := 26) (S := fun w' => True) (ds := []) #[false, false, false, false, false, false, false, false, false, false, false, false, false, false, false, false, false, false, false, false, false, false, false, false, false, false] B8x6_ rfl rfl trivial (fun hHeld => ?_); refine with_tabW spec_ReadDgram.tab3 spec_ReadDgram.bits3 (fun HT_ HW_ => ?_)
             generalize wc.drew = w38 at BK366 HB hHeld ⊢
             refine pu_ 0 16 HT_ ?_
             refine pu_ 3 19 HT_ ?_
             refine pu_ 6 22 HT_ ?_
             refine pu_ 10 26 HT_ ?_
             refine pu_ 14 30 HT_ ?_
             refine pu_ 18 34 HT_ ?_
             refine pu_ 21 37 HT_ ?_
             refine pu_ 22 38 HT_ ?_
             refine take_ (i := 1) (N := some 17) (v := ?_) (a' := ?_) #[true, true, false, true, false, false, true, false, false, false, true, false, false, false, true, false, false, false, true, false, false, true, true, false, false, false] rfl rfl (take_ofW HT_.out HW_.out B8x6_) (fun _ _ _ h => h) (Or.inl ⟨by rfl, ?_⟩) hHeld ?_ ?_
             rotate_left
             ·intro w' _
              go_simp
              with_reducible rfl
             rotate_left
             ·simp only [Act.put, List.setIfInBounds_toArray, List.set_cons_zero, List.set_cons_succ, i64_w, i32_w]
              rfl
             refine pu_ 2 18 HT_ ?_
             refine take_ (i := 4) (N := some 20) (v := ?_) (a' := ?_) #[true, true, true, true, true, false, true, false, false, false, true, false, false, false, true, false, false, false, true, false, false, true, true, false, false, false] rfl rfl (take_ofW HT_.out HW_.out B8x6_) (fun _ _ _ h => h) (Or.inl ⟨by rfl, ?_⟩) hHeld ?_ ?_
             rotate_left
             ·intro w' _
              go_simp
              with_reducible rfl
             rotate_left
             ·simp only [Act.put, List.setIfInBounds_toArray, List.set_cons_zero, List.set_cons_succ, i64_w, i32_w]
              rfl
             refine pu_ 5 21 HT_ ?_
             refine take_ (i := 7) (N := some 23) (v := ?_) (a' := ?_) #[true, true, true, true, true, true, true, true, false, false, true, false, false, false, true, false, false, false, true, false, false, true, true, false, false, false] rfl rfl (take_ofW HT_.out HW_.out B8x6_) (fun _ _ _ h => h) (Or.inl ⟨by rfl, ?_⟩) hHeld ?_ ?_
             rotate_left
             ·intro w' _
              go_simp
              with_reducible rfl
             rotate_left
             ·simp only [Act.put, List.setIfInBounds_toArray, List.set_cons_zero, List.set_cons_succ, i64_w, i32_w]
              rfl
             refine pu_ 8 24 HT_ ?_
             refine pu_ 9 25 HT_ ?_
             refine take_ (i := 11) (N := some 27) (v := ?_) (a' := ?_) #[true, true, true, true, true, true, true, true, true, true, true, true, false, false, true, false, false, false, true, false, false, true, true, false, false, false] rfl rfl (take_ofW HT_.out HW_.out B8x6_) (fun _ _ _ h => h) (Or.inl ⟨by rfl, ?_⟩) hHeld ?_ ?_
             rotate_left
             ·intro w' _
              go_simp
              with_reducible rfl
             rotate_left
             ·simp only [Act.put, List.setIfInBounds_toArray, List.set_cons_zero, List.set_cons_succ, i64_w, i32_w]
              rfl
             refine pu_ 12 28 HT_ ?_
             refine pu_ 13 29 HT_ ?_
             refine take_ (i := 15) (N := some 31) (v := ?_) (a' := ?_) #[true, true, true, true, true, true, true, true, true, true, true, true, true, true, true, true, false, false, true, false, false, true, true, false, false, false] rfl rfl (take_ofW HT_.out HW_.out B8x6_) (fun _ _ _ h => h) (Or.inl ⟨by rfl, ?_⟩) hHeld ?_ ?_
             rotate_left
             ·intro w' _
              go_simp
              with_reducible rfl
             rotate_left
             ·simp only [Act.put, List.setIfInBounds_toArray, List.set_cons_zero, List.set_cons_succ, i64_w, i32_w]
              rfl
             refine pu_ 16 32 HT_ ?_
             refine pu_ 17 33 HT_ ?_
             refine take_ (i := 19) (N := some 35) (v := ?_) (a' := ?_) #[true, true, true, true, true, true, true, true, true, true, true, true, true, true, true, true, true, true, true, true, false, true, true, false, false, false] rfl rfl (take_ofW HT_.out HW_.out B8x6_) (fun _ _ _ h => h) (Or.inl ⟨by rfl, ?_⟩) hHeld ?_ ?_
             rotate_left
             ·intro w' _
              go_simp
              with_reducible rfl
             rotate_left
             ·simp only [Act.put, List.setIfInBounds_toArray, List.set_cons_zero, List.set_cons_succ, i64_w, i32_w]
              rfl
             refine pu_ 20 36 HT_ ?_
             refine pu_ 23 39 HT_ ?_
             refine one_ (i := 24) (N := some 4) #[true, true, true, true, true, true, true, true, true, true, true, true, true, true, true, true, true, true, true, true, true, true, true, true, true, false] rfl rfl (one_of HT_.out B8x6_) (by decide) (fun K hK => ?_)
             refine box_step ?hg (N := 4) ?hd (cs := #[.int .i64 0, .int .i64 0, .int .i64 0, .int .i64 0, .bool false, .string (⟨#[]⟩ : ByteArray)]) (t := 85) ?hr ?_; (case hd => rfl); (case hg => rfl); (case hr => first | (go_simp; done) | (go_simp; rfl))
             intro gb367 hg w39 hbox hb
             have n0_ := Aside0.mk (blk_below (g := gb366) (o := .cells #[.int .i64 0, .int .i64 0, .int .i64 0, .int .i64 0, .bool false, .string (⟨#[]⟩ : ByteArray)] 85 (0, 0)) B8x5_ hb)
             have n1_ := Aside0.mk (below_step B8x4_ hb)
             have n2_ := Aside0.mk (hbox)
             have n3_ := Aside0.mk ((by rw [hg]; exact (below_size B8x4_) : w.heap.size ≤ gb367))
             have n4_ := Aside0.mk ((by rw [hg]; exact (below_size B8x4_) : w.heap.size ≤ gb367))
             have n5_ := Aside0.mk ((by rw [hg]; exact Nat.ne_of_lt (blk_lt (g := gb366) (o := .cells #[.int .i64 0, .int .i64 0, .int .i64 0, .int .i64 0, .bool false, .string (⟨#[]⟩ : ByteArray)] 85 (0, 0)) B8x5_) : gb366 ≠ gb367))
             have n6_ := Aside0.mk ((by rw [hg]; exact Nat.ne_of_gt (blk_lt (g := gb366) (o := .cells #[.int .i64 0, .int .i64 0, .int .i64 0, .int .i64 0, .bool false, .string (⟨#[]⟩ : ByteArray)] 85 (0, 0)) B8x5_) : gb367 ≠ gb366))
             clear BK366
             clear HB
             have BK366 := n0_
             have HB := n1_
             have BK367 := n2_
             have GW367 := n3_
             have GE367 := n4_
             have NB366_367 := n5_
             have NB367_366 := n6_
             clear n0_ n1_ n2_ n3_ n4_ n5_ n6_
             clear hb hbox hg
             refine hK.out _ _ trivial (fun hHeld => ?_)
             clear hK K
             refine norm_ (a' := ?_) ?_ ?_
             rotate_left
             ·show Act.put _ (some 4) _ = _
              simp only [Act.put, List.setIfInBounds_toArray, List.set_cons_zero, List.set_cons_succ, i64_w, i32_w]
              rfl
             refine one_ (i := 25) (N := none) #[true, true, true, true, true, true, true, true, true, true, true, true, true, true, true, true, true, true, true, true, true, true, true, true, true, true] rfl rfl (one_of HT_.out B8x6_) (by decide) (fun K hK => ?_)
             have hs40 : w39.cell? ⟨gb367, 0, none⟩ = some (.int .i64 0) := (blk_cell BK367.out 0).trans rfl
             have hfs40 := blk_frozen BK367.out 0
             have hns40_0 := NB366_367.out
             have hms40_0 := NB367_366.out
             have hs41 : w39.cell? ⟨gb367, 1, none⟩ = some (.int .i64 0) := (blk_cell BK367.out 1).trans rfl
             have hfs41 := blk_frozen BK367.out 1
             have hns41_0 := NB366_367.out
             have hms41_0 := NB367_366.out
             have hs42 : w39.cell? ⟨gb367, 2, none⟩ = some (.int .i64 0) := (blk_cell BK367.out 2).trans rfl
             have hfs42 := blk_frozen BK367.out 2
             have hns42_0 := NB366_367.out
             have hms42_0 := NB367_366.out
             have hs43 : w39.cell? ⟨gb367, 3, none⟩ = some (.int .i64 0) := (blk_cell BK367.out 3).trans rfl
             have hfs43 := blk_frozen BK367.out 3
             have hns43_0 := NB366_367.out
             have hms43_0 := NB367_366.out
             have hs44 : w39.cell? ⟨gb367, 4, none⟩ = some (.bool false) := (blk_cell BK367.out 4).trans rfl
             have hfs44 := blk_frozen BK367.out 4
             have hns44_0 := NB366_367.out
             have hms44_0 := NB367_366.out
             have hs45 : w39.cell? ⟨gb367, 5, none⟩ = some (.string (⟨#[]⟩ : ByteArray)) := (blk_cell BK367.out 5).trans rfl
             have hfs45 := blk_frozen BK367.out 5
             have hns45_0 := NB366_367.out
             have hms45_0 := NB367_366.out
             refine skip_ (w1 := ?_) (by rfl) rfl ?_ ?_
             rotate_left
             ·go_simp
              rfl
             refine hK.out _ _ trivial (fun hHeld => ?_)
             clear hK K
             refine done_ (done_of HT_.out B8x6_) ?_
             have hnb46 := NB367_366.out
             have hnc46 := NB366_367.out
             obtain ⟨hcz47_0, hcz47_1, hcz47_2, hcz47_3, hcz47_4, hcz47_5⟩ := cl6 BK367.out
             obtain ⟨hfz47_0, hfz47_1, hfz47_2, hfz47_3, hfz47_4, hfz47_5⟩ := fr6 BK367.out
             try go_wp2_with (first | ((with_reducible refine gate_callee (f := 131) rfl ?_); refine goesL_ (some 42) rfl rfl Try.func131 B8x6_ rfl #[.agg #[.int .i64 (wrap64 (bt a0 0)), .int .i64 (wrap64 (bt a0 1)), .int .i64 (wrap64 ((wrap64 (256 * (wrap64 (bt a0 2)))) + (wrap64 (bt a0 3)))), .int .i64 (wrap64 (8 * (wrap64 (bt a0 4)))), .bool ((bt a0 5) == 1), .string (a0.extract 8 a0.size)]] rfl B8x8_ ?_; (with_reducible refine (spec_DgramText.calls kj1 (wrap64 (bt a0 0)) (wrap64 (bt a0 1)) (wrap64 ((wrap64 (256 * (wrap64 (bt a0 2)))) + (wrap64 (bt a0 3)))) (wrap64 (8 * (wrap64 (bt a0 4)))) ((bt a0 5) == 1) (a0.extract 8 a0.size) t368 true _ A22.out).mono ?_); rintro e w48 ⟨rfl, hb⟩; refine ⟨_, rfl, ?_⟩; have n0_ := Aside0.mk (blk_below (g := gb366) (o := .cells #[.int .i64 0, .int .i64 0, .int .i64 0, .int .i64 0, .bool false, .string (⟨#[]⟩ : ByteArray)] 85 (0, 0)) B8x2_ hb); have n1_ := Aside0.mk (blk_below (g := gb367) (o := .cells #[.int .i64 (wrap64 (bt a0 0)), .int .i64 (wrap64 (bt a0 1)), .int .i64 (wrap64 ((wrap64 (256 * (wrap64 (bt a0 2)))) + (wrap64 (bt a0 3)))), .int .i64 (wrap64 (8 * (wrap64 (bt a0 4)))), .bool ((bt a0 5) == 1), .string (a0.extract 8 a0.size)] 85 (0, 0)) B8x0_ hb); have n2_ := Aside0.mk (below_step B8x7_ hb); clear BK366; clear BK367; clear HB; have BK366 := n0_; have BK367 := n1_; have HB := n2_; clear n0_ n1_ n2_; (try clear hb); (try clear hb2); (try clear hk); (try clear hi); obtain ⟨hcz49_0, hcz49_1, hcz49_2, hcz49_3, hcz49_4, hcz49_5⟩ := cl6 BK366.out; obtain ⟨hfz49_0, hfz49_1, hfz49_2, hfz49_3, hfz49_4, hfz49_5⟩ := fr6 BK366.out))
             refine bodyPost_ret (results_ct rfl _ _ gb366 85 #[.int .i64 0, .int .i64 0, .int .i64 0, .int .i64 0, .bool false, .string (⟨#[]⟩ : ByteArray)] (0, 0) _ rfl B8x1_ Try.underlying85 rfl B8x6_) rfl ?_
             exact ⟨by first | rfl | (simp [errW_none, errW_some] <;> rfl) | (simp [*, errW_none, errW_some] <;> rfl), by repeat (first | (with_reducible first | exact HB.out | apply below_alloc | apply pw_below_drewN | apply below_drew1 | refine below_set ?_ GE366.out | refine below_set ?_ GE367.out) | exact HB.out)⟩
           ·replace c23 := Bool.eq_false_iff.mpr c23
            subst c23
            rw [if_neg (show ¬ (false = true) by decide)] at H
            simp only [Option.some.injEq, Prod.mk.injEq] at H
            obtain ⟨rfl, rfl, rfl, rfl, rfl, rfl, rfl⟩ := H
            try go_wp2
            have n0_ := Aside0.mk (blk_drew BK366.out)
            have n1_ := Aside0.mk (below_drew1 HB.out)
            clear BK366
            clear HB
            have BK366 := n0_
            have HB := n1_
            clear n0_ n1_
            have p10 : 0 ≤ (0 : Int) := (by omega)
            have q10 : 0 < a0.size := (by have : (0 : Int) < (a0.size : Int) := of_decide_eq_true B8x3_; omega)
            have hx10 : ∀ h : 0 < a0.size, ((a0[0]'h).toNat : Int) = bt a0 0 := bt_at a0 0
            clear p10
            have qi10 : (0 < (a0.size : Int)) = True := eq_true (of_decide_eq_true B8x3_)
            replace q10 := eq_true q10
            have p12 : 0 ≤ (1 : Int) := (by omega)
            have q12 : 1 < a0.size := (by have : (1 : Int) < (a0.size : Int) := of_decide_eq_true B8x3_; omega)
            have hx12 : ∀ h : 1 < a0.size, ((a0[1]'h).toNat : Int) = bt a0 1 := bt_at a0 1
            clear p12
            have qi12 : (1 < (a0.size : Int)) = True := eq_true (of_decide_eq_true B8x3_)
            replace q12 := eq_true q12
            have p14 : 0 ≤ (2 : Int) := (by omega)
            have q14 : 2 < a0.size := (by have : (2 : Int) < (a0.size : Int) := of_decide_eq_true B8x3_; omega)
            have hx14 : ∀ h : 2 < a0.size, ((a0[2]'h).toNat : Int) = bt a0 2 := bt_at a0 2
            clear p14
            have qi14 : (2 < (a0.size : Int)) = True := eq_true (of_decide_eq_true B8x3_)
            replace q14 := eq_true q14
            have p16 : 0 ≤ (3 : Int) := (by omega)
            have q16 : 3 < a0.size := (by have : (3 : Int) < (a0.size : Int) := of_decide_eq_true B8x3_; omega)
            have hx16 : ∀ h : 3 < a0.size, ((a0[3]'h).toNat : Int) = bt a0 3 := bt_at a0 3
            clear p16
            have qi16 : (3 < (a0.size : Int)) = True := eq_true (of_decide_eq_true B8x3_)
            replace q16 := eq_true q16
            have p18 : 0 ≤ (4 : Int) := (by omega)
            have q18 : 4 < a0.size := (by have : (4 : Int) < (a0.size : Int) := of_decide_eq_true B8x3_; omega)
            have hx18 : ∀ h : 4 < a0.size, ((a0[4]'h).toNat : Int) = bt a0 4 := bt_at a0 4
            clear p18
            have qi18 : (4 < (a0.size : Int)) = True := eq_true (of_decide_eq_true B8x3_)
            replace q18 := eq_true q18
            have p20 : 0 ≤ (5 : Int) := (by omega)
            have q20 : 5 < a0.size := (by have : (5 : Int) < (a0.size : Int) := of_decide_eq_true B8x3_; omega)
            have hx20 : ∀ h : 5 < a0.size, ((a0[5]'h).toNat : Int) = bt a0 5 := bt_at a0 5
            clear p20
            have qi20 : (5 < (a0.size : Int)) = True := eq_true (of_decide_eq_true B8x3_)
            replace q20 := eq_true q20
            refine start_ (n := 26) (S := fun w' => True) (ds := []) #[false, false, false, false, false, false, false, false, false, false, false, false, false, false, false, false, false, false, false, false, false, false, false, false, false, false] B8x6_ rfl rfl trivial (fun hHeld => ?_); refine with_tabW spec_ReadDgram.tab3 spec_ReadDgram.bits3 (fun HT_ HW_ => ?_)
            generalize wc.drew = w50 at BK366 HB hHeld ⊢
            refine pu_ 0 16 HT_ ?_
            refine pu_ 3 19 HT_ ?_
            refine pu_ 6 22 HT_ ?_
            refine pu_ 10 26 HT_ ?_
            refine pu_ 14 30 HT_ ?_
            refine pu_ 18 34 HT_ ?_
            refine pu_ 21 37 HT_ ?_
            refine pu_ 22 38 HT_ ?_
            refine take_ (i := 1) (N := some 17) (v := ?_) (a' := ?_) #[true, true, false, true, false, false, true, false, false, false, true, false, false, false, true, false, false, false, true, false, false, true, true, false, false, false] rfl rfl (take_ofW HT_.out HW_.out B8x6_) (fun _ _ _ h => h) (Or.inl ⟨by rfl, ?_⟩) hHeld ?_ ?_
            rotate_left
            ·intro w' _
             go_simp
             with_reducible rfl
            rotate_left
            ·simp only [Act.put, List.setIfInBounds_toArray, List.set_cons_zero, List.set_cons_succ, i64_w, i32_w]
             rfl
            refine pu_ 2 18 HT_ ?_
            refine take_ (i := 4) (N := some 20) (v := ?_) (a' := ?_) #[true, true, true, true, true, false, true, false, false, false, true, false, false, false, true, false, false, false, true, false, false, true, true, false, false, false] rfl rfl (take_ofW HT_.out HW_.out B8x6_) (fun _ _ _ h => h) (Or.inl ⟨by rfl, ?_⟩) hHeld ?_ ?_
            rotate_left
            ·intro w' _
             go_simp
             with_reducible rfl
            rotate_left
            ·simp only [Act.put, List.setIfInBounds_toArray, List.set_cons_zero, List.set_cons_succ, i64_w, i32_w]
             rfl
            refine pu_ 5 21 HT_ ?_
            refine take_ (i := 7) (N := some 23) (v := ?_) (a' := ?_) #[true, true, true, true, true, true, true, true, false, false, true, false, false, false, true, false, false, false, true, false, false, true, true, false, false, false] rfl rfl (take_ofW HT_.out HW_.out B8x6_) (fun _ _ _ h => h) (Or.inl ⟨by rfl, ?_⟩) hHeld ?_ ?_
            rotate_left
            ·intro w' _
             go_simp
             with_reducible rfl
            rotate_left
            ·simp only [Act.put, List.setIfInBounds_toArray, List.set_cons_zero, List.set_cons_succ, i64_w, i32_w]
             rfl
            refine pu_ 8 24 HT_ ?_
            refine pu_ 9 25 HT_ ?_
            refine take_ (i := 11) (N := some 27) (v := ?_) (a' := ?_) #[true, true, true, true, true, true, true, true, true, true, true, true, false, false, true, false, false, false, true, false, false, true, true, false, false, false] rfl rfl (take_ofW HT_.out HW_.out B8x6_) (fun _ _ _ h => h) (Or.inl ⟨by rfl, ?_⟩) hHeld ?_ ?_
            rotate_left
            ·intro w' _
             go_simp
             with_reducible rfl
            rotate_left
            ·simp only [Act.put, List.setIfInBounds_toArray, List.set_cons_zero, List.set_cons_succ, i64_w, i32_w]
             rfl
            refine pu_ 12 28 HT_ ?_
            refine pu_ 13 29 HT_ ?_
            refine take_ (i := 15) (N := some 31) (v := ?_) (a' := ?_) #[true, true, true, true, true, true, true, true, true, true, true, true, true, true, true, true, false, false, true, false, false, true, true, false, false, false] rfl rfl (take_ofW HT_.out HW_.out B8x6_) (fun _ _ _ h => h) (Or.inl ⟨by rfl, ?_⟩) hHeld ?_ ?_
            rotate_left
            ·intro w' _
             go_simp
             with_reducible rfl
            rotate_left
            ·simp only [Act.put, List.setIfInBounds_toArray, List.set_cons_zero, List.set_cons_succ, i64_w, i32_w]
             rfl
            refine pu_ 16 32 HT_ ?_
            refine pu_ 17 33 HT_ ?_
            refine take_ (i := 19) (N := some 35) (v := ?_) (a' := ?_) #[true, true, true, true, true, true, true, true, true, true, true, true, true, true, true, true, true, true, true, true, false, true, true, false, false, false] rfl rfl (take_ofW HT_.out HW_.out B8x6_) (fun _ _ _ h => h) (Or.inl ⟨by rfl, ?_⟩) hHeld ?_ ?_
            rotate_left
            ·intro w' _
             go_simp
             with_reducible rfl
            rotate_left
            ·simp only [Act.put, List.setIfInBounds_toArray, List.set_cons_zero, List.set_cons_succ, i64_w, i32_w]
             rfl
            refine pu_ 20 36 HT_ ?_
            refine pu_ 23 39 HT_ ?_
            refine one_ (i := 24) (N := some 4) #[true, true, true, true, true, true, true, true, true, true, true, true, true, true, true, true, true, true, true, true, true, true, true, true, true, false] rfl rfl (one_of HT_.out B8x6_) (by decide) (fun K hK => ?_)
            refine box_step ?hg (N := 4) ?hd (cs := #[.int .i64 0, .int .i64 0, .int .i64 0, .int .i64 0, .bool false, .string (⟨#[]⟩ : ByteArray)]) (t := 85) ?hr ?_; (case hd => rfl); (case hg => rfl); (case hr => first | (go_simp; done) | (go_simp; rfl))
            intro gb367 hg w51 hbox hb
            have n0_ := Aside0.mk (blk_below (g := gb366) (o := .cells #[.int .i64 0, .int .i64 0, .int .i64 0, .int .i64 0, .bool false, .string (⟨#[]⟩ : ByteArray)] 85 (0, 0)) B8x5_ hb)
            have n1_ := Aside0.mk (below_step B8x4_ hb)
            have n2_ := Aside0.mk (hbox)
            have n3_ := Aside0.mk ((by rw [hg]; exact (below_size B8x4_) : w.heap.size ≤ gb367))
            have n4_ := Aside0.mk ((by rw [hg]; exact (below_size B8x4_) : w.heap.size ≤ gb367))
            have n5_ := Aside0.mk ((by rw [hg]; exact Nat.ne_of_lt (blk_lt (g := gb366) (o := .cells #[.int .i64 0, .int .i64 0, .int .i64 0, .int .i64 0, .bool false, .string (⟨#[]⟩ : ByteArray)] 85 (0, 0)) B8x5_) : gb366 ≠ gb367))
            have n6_ := Aside0.mk ((by rw [hg]; exact Nat.ne_of_gt (blk_lt (g := gb366) (o := .cells #[.int .i64 0, .int .i64 0, .int .i64 0, .int .i64 0, .bool false, .string (⟨#[]⟩ : ByteArray)] 85 (0, 0)) B8x5_) : gb367 ≠ gb366))
            clear BK366
            clear HB
            have BK366 := n0_
            have HB := n1_
            have BK367 := n2_
            have GW367 := n3_
            have GE367 := n4_
            have NB366_367 := n5_
            have NB367_366 := n6_
            clear n0_ n1_ n2_ n3_ n4_ n5_ n6_
            clear hb hbox hg
            refine hK.out _ _ trivial (fun hHeld => ?_)
            clear hK K
            refine norm_ (a' := ?_) ?_ ?_
            rotate_left
            ·show Act.put _ (some 4) _ = _
             simp only [Act.put, List.setIfInBounds_toArray, List.set_cons_zero, List.set_cons_succ, i64_w, i32_w]
             rfl
            refine one_ (i := 25) (N := none) #[true, true, true, true, true, true, true, true, true, true, true, true, true, true, true, true, true, true, true, true, true, true, true, true, true, true] rfl rfl (one_of HT_.out B8x6_) (by decide) (fun K hK => ?_)
            have hs52 : w51.cell? ⟨gb367, 0, none⟩ = some (.int .i64 0) := (blk_cell BK367.out 0).trans rfl
            have hfs52 := blk_frozen BK367.out 0
            have hns52_0 := NB366_367.out
            have hms52_0 := NB367_366.out
            have hs53 : w51.cell? ⟨gb367, 1, none⟩ = some (.int .i64 0) := (blk_cell BK367.out 1).trans rfl
            have hfs53 := blk_frozen BK367.out 1
            have hns53_0 := NB366_367.out
            have hms53_0 := NB367_366.out
            have hs54 : w51.cell? ⟨gb367, 2, none⟩ = some (.int .i64 0) := (blk_cell BK367.out 2).trans rfl
            have hfs54 := blk_frozen BK367.out 2
            have hns54_0 := NB366_367.out
            have hms54_0 := NB367_366.out
            have hs55 : w51.cell? ⟨gb367, 3, none⟩ = some (.int .i64 0) := (blk_cell BK367.out 3).trans rfl
            have hfs55 := blk_frozen BK367.out 3
            have hns55_0 := NB366_367.out
            have hms55_0 := NB367_366.out
            have hs56 : w51.cell? ⟨gb367, 4, none⟩ = some (.bool false) := (blk_cell BK367.out 4).trans rfl
            have hfs56 := blk_frozen BK367.out 4
            have hns56_0 := NB366_367.out
            have hms56_0 := NB367_366.out
            have hs57 : w51.cell? ⟨gb367, 5, none⟩ = some (.string (⟨#[]⟩ : ByteArray)) := (blk_cell BK367.out 5).trans rfl
            have hfs57 := blk_frozen BK367.out 5
            have hns57_0 := NB366_367.out
            have hms57_0 := NB367_366.out
            refine skip_ (w1 := ?_) (by rfl) rfl ?_ ?_
            rotate_left
            ·go_simp
             rfl
            refine hK.out _ _ trivial (fun hHeld => ?_)
            clear hK K
            refine done_ (done_of HT_.out B8x6_) ?_
            have hnb58 := NB367_366.out
            have hnc58 := NB366_367.out
            obtain ⟨hcz59_0, hcz59_1, hcz59_2, hcz59_3, hcz59_4, hcz59_5⟩ := cl6 BK367.out
            obtain ⟨hfz59_0, hfz59_1, hfz59_2, hfz59_3, hfz59_4, hfz59_5⟩ := fr6 BK367.out
            try go_wp2_with (first | ((with_reducible refine gate_callee (f := 131) rfl ?_); refine goesL_ (some 42) rfl rfl Try.func131 B8x6_ rfl #[.agg #[.int .i64 (wrap64 (bt a0 0)), .int .i64 (wrap64 (bt a0 1)), .int .i64 (wrap64 ((wrap64 (256 * (wrap64 (bt a0 2)))) + (wrap64 (bt a0 3)))), .int .i64 (wrap64 (8 * (wrap64 (bt a0 4)))), .bool ((bt a0 5) == 1), .string (a0.extract 8 a0.size)]] rfl B8x8_ ?_; (with_reducible refine (spec_DgramText.calls kj1 (wrap64 (bt a0 0)) (wrap64 (bt a0 1)) (wrap64 ((wrap64 (256 * (wrap64 (bt a0 2)))) + (wrap64 (bt a0 3)))) (wrap64 (8 * (wrap64 (bt a0 4)))) ((bt a0 5) == 1) (a0.extract 8 a0.size) t368 false _ A22.out).mono ?_); rintro e w60 ⟨rfl, hb⟩; refine ⟨_, rfl, ?_⟩; have n0_ := Aside0.mk (blk_below (g := gb366) (o := .cells #[.int .i64 0, .int .i64 0, .int .i64 0, .int .i64 0, .bool false, .string (⟨#[]⟩ : ByteArray)] 85 (0, 0)) B8x2_ hb); have n1_ := Aside0.mk (blk_below (g := gb367) (o := .cells #[.int .i64 (wrap64 (bt a0 0)), .int .i64 (wrap64 (bt a0 1)), .int .i64 (wrap64 ((wrap64 (256 * (wrap64 (bt a0 2)))) + (wrap64 (bt a0 3)))), .int .i64 (wrap64 (8 * (wrap64 (bt a0 4)))), .bool ((bt a0 5) == 1), .string (a0.extract 8 a0.size)] 85 (0, 0)) B8x0_ hb); have n2_ := Aside0.mk (below_step B8x7_ hb); clear BK366; clear BK367; clear HB; have BK366 := n0_; have BK367 := n1_; have HB := n2_; clear n0_ n1_ n2_; (try clear hb); (try clear hb2); (try clear hk); (try clear hi); obtain ⟨hcz61_0, hcz61_1, hcz61_2, hcz61_3, hcz61_4, hcz61_5⟩ := cl6 BK366.out; obtain ⟨hfz61_0, hfz61_1, hfz61_2, hfz61_3, hfz61_4, hfz61_5⟩ := fr6 BK366.out))
            refine bodyPost_ret (results_ct rfl _ _ gb366 85 #[.int .i64 0, .int .i64 0, .int .i64 0, .int .i64 0, .bool false, .string (⟨#[]⟩ : ByteArray)] (0, 0) _ rfl B8x1_ Try.underlying85 rfl B8x6_) rfl ?_
            exact ⟨by first | rfl | (simp [errW_none, errW_some] <;> rfl) | (simp [*, errW_none, errW_some] <;> rfl), by repeat (first | (with_reducible first | exact HB.out | apply below_alloc | apply pw_below_drewN | apply below_drew1 | refine below_set ?_ GE366.out | refine below_set ?_ GE367.out) | exact HB.out)⟩
          ·rw [if_neg c21] at H
           exact absurd H (by simp)
         ·rw [if_neg c19] at H
          exact absurd H (by simp)
        ·rw [if_neg c17] at H
         exact absurd H (by simp)
       ·rw [if_neg c15] at H
        exact absurd H (by simp)
      ·rw [if_neg c13] at H
       exact absurd H (by simp)
     ·rw [if_neg c11] at H
      exact absurd H (by simp)
    ·rw [if_neg c9] at H
     exact absurd H (by simp)

end Go.Proofs.Ytjijbffecppeiaa.QFnDgrams
