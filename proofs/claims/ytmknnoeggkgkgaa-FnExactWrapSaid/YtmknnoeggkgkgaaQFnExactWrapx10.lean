/- Functions that a law reaches, as functions of Lean, and the walks that show that the calls come to their answers: written by a program of this project out of the translation. No condition. -/
import Derived.Test.YtmknnoeggkgkgaaQFnExactWrapx0
import Derived.Test.YtmknnoeggkgkgaaQFnExactWrapx7
import Derived.Test.YtmknnoeggkgkgaaQFnExactWrapx8
import Derived.Test.YtmknnoeggkgkgaaQFnExactWrapx9
import Derived.Test.YtmknnoeggkgkgaaVFnExactWraphort3
import Derived.Test.YtmknnoeggkgkgaaVFnExactWrapShort2
import Derived.Test.YtmknnoeggkgkgaaVFnExactWrapShort
namespace Go.Proofs.Ytmknnoeggkgkgaa.QFnExactWrap
open Go.RowKit Go.Proofs.YtmknnoeggkgkgaaW.PrintWords Go.Proofs.YtmknnoeggkgkgaaW.PrintLast Go.Proofs.YtmknnoeggkgkgaaW.PrintMore Go.Proofs.Ytmknnoeggkgkgaa.Short
attribute [local go_sem] max2_int min2_int max_two min_two max_three min_three max_four min_four   -- for this text's walks alone
set_option linter.unusedVariables false
set_option linter.unusedSimpArgs false

theorem B10x0_ {p : Prop} (h : p := by repeat (first | (with_reducible first | exact HB.out | apply below_alloc | apply pw_below_drewN | apply below_drew1) | exact HB.out)) : p := h
theorem B10x1_ {p : Prop} (h : p := by repeat (first | (with_reducible first | exact HB.out | apply below_alloc | apply pw_below_drewN | apply below_drew1 | refine below_set ?_ GE290.out) | exact HB.out)) : p := h
theorem B10x2_ {p : Prop} (h : p := by (with_reducible repeat (first | refine blk_drewN ?_ _ | refine blk_drew ?_ | refine blk_alloc ?_ _)); exact BK290.out) : p := h
theorem B10x3_ {p : Prop} (h : p := by (try simp only [List.map_toArray, List.map_cons, List.map_nil]); first | done | rfl | (simp only [List.length_drop, List.length_take]; rfl)) : p := h
theorem B10x4_ {p : Prop} (h : p := by rw [hw]; exact (by (with_reducible repeat (first | refine blk_drewN ?_ _ | refine blk_drew ?_ | refine blk_alloc ?_ _)); refine blk_put (cs := #[.int .i64 ((rd_T62 t293 x41_1).f0), .int .i64 ((rd_T62 t293 x41_1).f1), .int .i64 ((rd_T62 t293 x41_1).f2), .int .i64 ((rd_T62 t293 x41_1).f3), .bool ((rd_T62 t293 x41_1).f4), .string (⟨#[]⟩ : ByteArray)]) ?_ 5 _ rfl; (with_reducible repeat (first | refine blk_drewN ?_ _ | refine blk_drew ?_ | refine blk_alloc ?_ _)); refine blk_put (cs := #[.int .i64 ((rd_T62 t293 x41_1).f0), .int .i64 ((rd_T62 t293 x41_1).f1), .int .i64 ((rd_T62 t293 x41_1).f2), .int .i64 ((rd_T62 t293 x41_1).f3), .bool false, .string (⟨#[]⟩ : ByteArray)]) ?_ 4 _ rfl; (with_reducible repeat (first | refine blk_drewN ?_ _ | refine blk_drew ?_ | refine blk_alloc ?_ _)); refine blk_put (cs := #[.int .i64 ((rd_T62 t293 x41_1).f0), .int .i64 ((rd_T62 t293 x41_1).f1), .int .i64 ((rd_T62 t293 x41_1).f2), .int .i64 0, .bool false, .string (⟨#[]⟩ : ByteArray)]) ?_ 3 _ rfl; (with_reducible repeat (first | refine blk_drewN ?_ _ | refine blk_drew ?_ | refine blk_alloc ?_ _)); refine blk_put (cs := #[.int .i64 ((rd_T62 t293 x41_1).f0), .int .i64 ((rd_T62 t293 x41_1).f1), .int .i64 0, .int .i64 0, .bool false, .string (⟨#[]⟩ : ByteArray)]) ?_ 2 _ rfl; (with_reducible repeat (first | refine blk_drewN ?_ _ | refine blk_drew ?_ | refine blk_alloc ?_ _)); refine blk_put (cs := #[.int .i64 ((rd_T62 t293 x41_1).f0), .int .i64 0, .int .i64 0, .int .i64 0, .bool false, .string (⟨#[]⟩ : ByteArray)]) ?_ 1 _ rfl; (with_reducible repeat (first | refine blk_drewN ?_ _ | refine blk_drew ?_ | refine blk_alloc ?_ _)); refine blk_put (cs := #[.int .i64 0, .int .i64 0, .int .i64 0, .int .i64 0, .bool false, .string (⟨#[]⟩ : ByteArray)]) ?_ 0 _ rfl; (with_reducible repeat (first | refine blk_drewN ?_ _ | refine blk_drew ?_ | refine blk_alloc ?_ _)); exact BK301.out)) : p := h
theorem B10x5_ {p : Prop} (h : p := by repeat (first | (with_reducible first | exact HB.out | apply below_alloc | apply pw_below_drewN | apply below_drew1 | refine below_set ?_ GE290.out | refine below_set ?_ GE301.out) | exact HB.out)) : p := h
theorem B10x6_ {p : Prop} (h : p := by repeat (first | (with_reducible first | exact HB.out | apply below_alloc | apply pw_below_drewN | apply below_drew1 | refine below_set ?_ GE282.out) | exact HB.out)) : p := h
theorem B10x7_ {p : Prop} (h : p := by rw [hw]; exact (by (with_reducible repeat (first | refine blk_drewN ?_ _ | refine blk_drew ?_ | refine blk_alloc ?_ _)); refine blk_far ?_ NB290_301.out _; (with_reducible repeat (first | refine blk_drewN ?_ _ | refine blk_drew ?_ | refine blk_alloc ?_ _)); refine blk_far ?_ NB290_301.out _; (with_reducible repeat (first | refine blk_drewN ?_ _ | refine blk_drew ?_ | refine blk_alloc ?_ _)); refine blk_far ?_ NB290_301.out _; (with_reducible repeat (first | refine blk_drewN ?_ _ | refine blk_drew ?_ | refine blk_alloc ?_ _)); refine blk_far ?_ NB290_301.out _; (with_reducible repeat (first | refine blk_drewN ?_ _ | refine blk_drew ?_ | refine blk_alloc ?_ _)); refine blk_far ?_ NB290_301.out _; (with_reducible repeat (first | refine blk_drewN ?_ _ | refine blk_drew ?_ | refine blk_alloc ?_ _)); refine blk_far ?_ NB290_301.out _; (with_reducible repeat (first | refine blk_drewN ?_ _ | refine blk_drew ?_ | refine blk_alloc ?_ _)); exact BK290.out)) : p := h
theorem B10x8_ {p : Prop} (h : p := by rw [hw]; exact (by (with_reducible repeat (first | apply Kd.R_alloc | apply Kd.R_drewN | apply Kd.R_drew)); exact Kd.R_mono (Kd.R_far (p := ⟨gb301, 5, none⟩) (Kd.R_far (p := ⟨gb301, 4, none⟩) (Kd.R_far (p := ⟨gb301, 3, none⟩) (Kd.R_far (p := ⟨gb301, 2, none⟩) (Kd.R_far (p := ⟨gb301, 1, none⟩) (Kd.R_far (p := ⟨gb301, 0, none⟩) (Kd.R_mono HO_39.out (fun k_ hk => (⟨hk, hk.2⟩ : _ ∧ k_ ≠ gb301))) (fun _ hk => hk.2) (.int .i64 ((rd_T62 t293 x41_1).f0))) (fun _ hk => hk.2) (.int .i64 ((rd_T62 t293 x41_1).f1))) (fun _ hk => hk.2) (.int .i64 ((rd_T62 t293 x41_1).f2))) (fun _ hk => hk.2) (.int .i64 ((rd_T62 t293 x41_1).f3))) (fun _ hk => hk.2) (.bool ((rd_T62 t293 x41_1).f4))) (fun _ hk => hk.2) (.string ((rd_T62 t293 x41_1).f5))) (fun _ hk => hk.1.2))) : p := h
theorem B10x9_ {p : Prop} (h : p := by rw [hw]; exact (by (with_reducible repeat (first | apply Kd.R_alloc | apply Kd.R_drewN | apply Kd.R_drew)); exact Kd.R_mono (Kd.R_far (p := ⟨gb301, 5, none⟩) (Kd.R_far (p := ⟨gb301, 4, none⟩) (Kd.R_far (p := ⟨gb301, 3, none⟩) (Kd.R_far (p := ⟨gb301, 2, none⟩) (Kd.R_far (p := ⟨gb301, 1, none⟩) (Kd.R_far (p := ⟨gb301, 0, none⟩) (Kd.R_types HO_13.out BK301.out (by decide)) (fun _ hk => hk.2) (.int .i64 ((rd_T62 t293 x41_1).f0))) (fun _ hk => hk.2) (.int .i64 ((rd_T62 t293 x41_1).f1))) (fun _ hk => hk.2) (.int .i64 ((rd_T62 t293 x41_1).f2))) (fun _ hk => hk.2) (.int .i64 ((rd_T62 t293 x41_1).f3))) (fun _ hk => hk.2) (.bool ((rd_T62 t293 x41_1).f4))) (fun _ hk => hk.2) (.string ((rd_T62 t293 x41_1).f5))) (fun _ hk => trivial))) : p := h
theorem B10x10_ {p : Prop} (h : p := by (with_reducible repeat (first | apply Kd.R_alloc | apply Kd.R_drewN | apply Kd.R_drew)); exact HO_13.out) : p := h
theorem B10x11_ {p : Prop} (h : p := by (with_reducible repeat (first | apply Kd.R_alloc | apply Kd.R_drewN | apply Kd.R_drew)); exact HO_39.out) : p := h
theorem B10x12_ {p : Prop} (h : p := by first | (with_reducible assumption) | assumption) : p := h
theorem B10x13_ {p : Prop} (h : p := by first | rfl | (simp [errW_none, errW_some] <;> rfl) | (simp [*, errW_none, errW_some] <;> rfl)) : p := h
theorem B10x14_ {p : Prop} (h : p := by (with_reducible repeat (first | refine blk_drewN ?_ _ | refine blk_drew ?_ | refine blk_alloc ?_ _)); exact BK282.out) : p := h
theorem B10x15_ {p : Prop} (h : p := by (with_reducible repeat (first | refine blk_drewN ?_ _ | refine blk_drew ?_ | refine blk_alloc ?_ _)); exact BK301.out) : p := h
theorem B10x16_ {p : Prop} (h : p := by first | (go_simp; done) | (go_simp; rfl)) : p := h
theorem B10x17_ {p : Prop} (h : p := by kernel_rfl) : p := h
theorem B10x18_ {p : Prop} (h : p := by repeat (first | exact Drawn0.refl _ | apply Drawn0.step)) : p := h
theorem B10x19_ {p : Prop} (h : p := by first | rfl | (simp; done) | (simp [*]; done)) : p := h
theorem B10x20_ {p : Prop} (h : p := by (with_reducible repeat (first | apply Kd.R_alloc | apply Kd.R_drewN | apply Kd.R_drew)); exact HO286.out) : p := h
theorem B10x21_ {p : Prop} (h : p := by (with_reducible repeat (first | apply Kd.R_alloc | apply Kd.R_drewN | apply Kd.R_drew)); exact HO295.out) : p := h
theorem B10x22_ {p : Prop} (h : p := by have := HK1.out; omega) : p := h
/-! ### impl_SumOf: function 150 -/
def impl_SumOf.f (k : Nat) (a0 : ByteArray) : Option (Int) := (impl_SumMore.f k 4294967295 a0).bind fun t279 => (some t279)
theorem impl_SumOf.mono : ∀ a0 k, LeO (impl_SumOf.f k a0) (impl_SumOf.f (k + 1) a0) := by
 intro a0 k
 unfold impl_SumOf.f
 repeat' first
   | (with_reducible exact impl_SumMore.mono _ _ _)
   | (with_reducible exact LeO.refl _)
   | (with_reducible exact LeO.none _)
   | (with_reducible refine LeO.ite ?_ ?_)
   | (with_reducible refine LeO.bind ?_ (fun _ => ?_))
   | exact impl_SumMore.mono _ _ _
   | exact LeO.none _
   | refine LeO.ite ?_ ?_
   | refine LeO.bind ?_ (fun _ => ?_)
set_option maxHeartbeats 8000000 in
set_option maxRecDepth 100000 in
theorem impl_SumOf.calls (k : Nat) (a0 : ByteArray) (r : Int) (w : World) (h : impl_SumOf.f k a0 = some r) :
  Calls Try.prog 150 #[.string a0] w fun e w' => e = .returned (.int .u32 r) ∧ Drawn0 w w' := by
 have H : ((impl_SumMore.f k 4294967295 a0).bind fun t279 => (some t279)) = some r := h
 clear h
 replace H := Option.bind_eq_some_iff.mp H
 obtain ⟨t279, A20, H⟩ := H
 (try dsimp only at H)
 have A2 := Aside0.mk A20
 clear A20
 obtain rfl := Option.some.inj H
 go_enter Try.func150, Try.ntmps150
 go_wp2_with (first | ((with_reducible refine gate_callee (f := 155) rfl ?_); refine goesL_ (some 4) rfl rfl Try.func155 B10x17_ rfl #[.int .u32 4294967295, .string a0] rfl B10x3_ ?_; (with_reducible refine (impl_SumMore.calls k 4294967295 a0 t279 _ A2.out).mono ?_); rintro e w' ⟨rfl, ⟨nd, rfl⟩⟩; refine ⟨_, rfl, ?_⟩))
 go_ret
 exact ⟨B10x19_, B10x18_⟩

/-! ### impl_Sealed: function 129 -/
def impl_Sealed.f (k : Nat) (a0 : ByteArray) : Option (ByteArray × Bool) := if (a0.size : Int) > 20000 then (some ((⟨#[]⟩ : ByteArray), false)) else ((impl_SumOf.f k a0).bind fun t280 => ((impl_highFirst.f k (wrap64 (t280)) 4).bind fun t281 => (if a0.size + t281.size ≤ 9223372036854775807 then (some (a0 ++ t281, true)) else (none))))
theorem impl_Sealed.mono : ∀ a0 k, LeO (impl_Sealed.f k a0) (impl_Sealed.f (k + 1) a0) := by
 intro a0 k
 unfold impl_Sealed.f
 repeat' first
   | (with_reducible exact impl_SumOf.mono _ _)
   | (with_reducible exact impl_highFirst.mono _ _ _)
   | (with_reducible exact LeO.refl _)
   | (with_reducible exact LeO.none _)
   | (with_reducible refine LeO.ite ?_ ?_)
   | (with_reducible refine LeO.bind ?_ (fun _ => ?_))
   | exact impl_SumOf.mono _ _
   | exact impl_highFirst.mono _ _ _
   | exact LeO.none _
   | refine LeO.ite ?_ ?_
   | refine LeO.bind ?_ (fun _ => ?_)
set_option maxHeartbeats 8000000 in
set_option maxRecDepth 100000 in
theorem impl_Sealed.calls (k : Nat) (a0 : ByteArray) (r1 : ByteArray) (r2 : Bool) (w : World) (h : impl_Sealed.f k a0 = some (r1, r2)) :
  Calls Try.prog 129 #[.string a0] w fun e w' => e = .returned (.tuple #[.string r1, .bool r2]) ∧ Below w.heap.size w w' := by
 have HB := Aside0.mk (Below.refl w.heap.size w)
 have H : (if (a0.size : Int) > 20000 then (some ((⟨#[]⟩ : ByteArray), false)) else ((impl_SumOf.f k a0).bind fun t280 => ((impl_highFirst.f k (wrap64 (t280)) 4).bind fun t281 => (if a0.size + t281.size ≤ 9223372036854775807 then (some (a0 ++ t281, true)) else (none))))) = some (r1, r2) := h
 clear h
 by_cases c2 : (a0.size : Int) > 20000
 ·rw [if_pos c2] at H
  have c2b0 : decide (20000 < (a0.size : Int)) = true := decide_eq_true c2
  have c2b1 : decide (20000 < a0.size) = true := decide_eq_true (by omega)
  clear c2
  simp only [Option.some.injEq, Prod.mk.injEq] at H
  obtain ⟨rfl, rfl⟩ := H
  go_enter Try.func129, Try.ntmps129
  go_wp2
  go_ret2
  exact ⟨B10x13_, B10x0_⟩
 ·rw [if_neg c2] at H
  have c2b0 : decide (20000 < (a0.size : Int)) = false := decide_eq_false c2
  have c2b1 : decide (20000 < a0.size) = false := decide_eq_false (by omega)
  clear c2
  replace H := Option.bind_eq_some_iff.mp H
  obtain ⟨t280, A30, H⟩ := H
  (try dsimp only at H)
  have A3 := Aside0.mk A30
  clear A30
  replace H := Option.bind_eq_some_iff.mp H
  obtain ⟨t281, A40, H⟩ := H
  (try dsimp only at H)
  have A4 := Aside0.mk A40
  clear A40
  by_cases c5 : a0.size + t281.size ≤ 9223372036854775807
  rotate_left
  ·rw [if_neg c5] at H
   exact absurd H (by simp)
  rw [if_pos c5] at H
  have c5b0 := eq_true c5
  have c5b1 : decide (a0.size + t281.size ≤ 9223372036854775807) = true := decide_eq_true c5
  try have c5b2 : (9223372036854775807 < a0.size + t281.size) = False := eq_false (Nat.not_lt.2 c5)
  try (have c5b9 := c5b2; simp only [ByteArray.size_append] at c5b9)
  simp only [Option.some.injEq, Prod.mk.injEq] at H
  obtain ⟨rfl, rfl⟩ := H
  go_enter Try.func129, Try.ntmps129
  go_wp2_with (first | ((with_reducible refine gate_callee (f := 150) rfl ?_); refine goesL_ (some 9) rfl rfl Try.func150 B10x17_ rfl #[.string a0] rfl B10x3_ ?_; (with_reducible refine (impl_SumOf.calls k a0 t280 _ A3.out).mono ?_); rintro e w' ⟨rfl, ⟨nd, rfl⟩⟩; refine ⟨_, rfl, ?_⟩) | ((with_reducible refine gate_callee (f := 149) rfl ?_); refine goesL_ (some 11) rfl rfl Try.func149 B10x17_ rfl #[.int .i64 (wrap64 (t280)), .int .i64 4] rfl B10x3_ ?_; (with_reducible refine (impl_highFirst.calls k (wrap64 (t280)) 4 t281 _ A4.out).mono ?_); rintro e w6 ⟨rfl, hb⟩; refine ⟨_, rfl, ?_⟩; replace HB := Aside0.mk (below_step B10x0_ hb); (try clear hb); (try clear hb2); (try clear hk); (try clear hi)))
  go_ret2
  exact ⟨B10x13_, B10x0_⟩

/-! ### impl_CellText: function 64 -/
def impl_CellText.f (k : Nat) (a0_0 : Int) (a0_1 : Int) (a0_2 : Int) (a0_3 : ByteArray) : Option (ByteArray × Bool) := (impl_CellOk.f a0_0 a0_1 a0_2 a0_3).bind fun t283 => (if t283 = true then ((impl_byteTexts.f k (([a0_0, a0_1, a0_2] : List Int))).bind fun t287 => (if t287.size + a0_3.size ≤ 9223372036854775807 then ((impl_Sealed.f k (t287 ++ a0_3)).bind fun bt288 => (some (bt288.1, bt288.2))) else (none))) else (some ((⟨#[]⟩ : ByteArray), false)))
theorem impl_CellText.mono : ∀ a0 a1 a2 a3 k, LeO (impl_CellText.f k a0 a1 a2 a3) (impl_CellText.f (k + 1) a0 a1 a2 a3) := by
 intro a0 a1 a2 a3 k
 unfold impl_CellText.f
 repeat' first
   | (with_reducible exact impl_Sealed.mono _ _)
   | (with_reducible exact impl_byteTexts.mono _ _)
   | (with_reducible exact LeO.refl _)
   | (with_reducible exact LeO.none _)
   | (with_reducible refine LeO.ite ?_ ?_)
   | (with_reducible refine LeO.bind ?_ (fun _ => ?_))
   | exact impl_Sealed.mono _ _
   | exact impl_byteTexts.mono _ _
   | exact LeO.none _
   | refine LeO.ite ?_ ?_
   | refine LeO.bind ?_ (fun _ => ?_)
def impl_CellText.T3 : Bool × List (List Nat × List Nat) := (true, [([], []), ([0], [0]), ([], []), ([2], [2]), ([], []), ([4], [4]), ([1, 3, 5], [1, 3, 5]), ([6], [6]), ([], []), ([8], [8]), ([7, 9], [7, 9]), ([10, 7], [10]), ([11], [11]), ([11], [11]), ([12, 11, 0, 1, 2, 3, 4, 5, 6, 7, 8, 9, 10, 11, 12, 13], [12]), ([13, 14, 0, 1, 2, 3, 4, 5, 6, 7, 8, 9, 10, 11, 12, 13, 14], [13])])
def impl_CellText.B3 : List Nat := [0, 1, 0, 4, 0, 16, 63, 127, 0, 256, 1023, 2047, 4095, 4095, 16383, 32767]
theorem impl_CellText.tab3 : rtab .any (opsOf Try.f64 3) = impl_CellText.T3 := by kernel_rfl
theorem impl_CellText.bits3 : waitsOk impl_CellText.T3.2 impl_CellText.B3 = true := by kernel_rfl
set_option maxHeartbeats 8000000 in
set_option maxRecDepth 100000 in
theorem impl_CellText.calls (k : Nat) (a0_0 : Int) (a0_1 : Int) (a0_2 : Int) (a0_3 : ByteArray) (r1 : ByteArray) (r2 : Bool) (w : World) (h : impl_CellText.f k a0_0 a0_1 a0_2 a0_3 = some (r1, r2)) :
  Calls Try.prog 64 #[.agg #[.int .i64 a0_0, .int .i64 a0_1, .int .i64 a0_2, .string a0_3]] w fun e w' => e = .returned (.tuple #[.string r1, .bool r2]) ∧ Below w.heap.size w w' := by
 have hu100 := Try.underlying100
 have HB := Aside0.mk (Below.refl w.heap.size w)
 have H : ((impl_CellOk.f a0_0 a0_1 a0_2 a0_3).bind fun t283 => (if t283 = true then ((impl_byteTexts.f k (([a0_0, a0_1, a0_2] : List Int))).bind fun t287 => (if t287.size + a0_3.size ≤ 9223372036854775807 then ((impl_Sealed.f k (t287 ++ a0_3)).bind fun bt288 => (some (bt288.1, bt288.2))) else (none))) else (some ((⟨#[]⟩ : ByteArray), false)))) = some (r1, r2) := h
 clear h
 replace H := Option.bind_eq_some_iff.mp H
 obtain ⟨t283, A20, H⟩ := H
 (try dsimp only at H)
 have A2 := Aside0.mk A20
 clear A20
 by_cases c3 : t283 = true
 ·subst c3
  rw [if_pos rfl] at H
  obtain ⟨y284, hy284⟩ : ∃ y_ : List Int, y_ = (([a0_0, a0_1, a0_2] : List Int)) := ⟨_, rfl⟩
  replace H : ((impl_byteTexts.f k y284).bind fun t287 => (if t287.size + a0_3.size ≤ 9223372036854775807 then ((impl_Sealed.f k (t287 ++ a0_3)).bind fun bt288 => (some (bt288.1, bt288.2))) else (none))) = some (r1, r2) := by first | (rw [hy284]; with_reducible exact H) | (have H2_ := (Option.bind_some _ _).symm.trans H; rw [hy284]; with_reducible exact H2_) | (have H2_ := (Option.bind_some _ _).symm.trans H; with_reducible exact H2_) | with_reducible exact H | (rw [hy284]; exact H) | exact H
  have Ny284 := Aside0.mk hy284
  clear hy284
  replace H := Option.bind_eq_some_iff.mp H
  obtain ⟨t287, A40, H⟩ := H
  (try dsimp only at H)
  have A4 := Aside0.mk A40
  clear A40
  by_cases c5 : t287.size + a0_3.size ≤ 9223372036854775807
  rotate_left
  ·rw [if_neg c5] at H
   exact absurd H (by simp)
  rw [if_pos c5] at H
  have c5b0 := eq_true c5
  have c5b1 : decide (t287.size + a0_3.size ≤ 9223372036854775807) = true := decide_eq_true c5
  try have c5b2 : (9223372036854775807 < t287.size + a0_3.size) = False := eq_false (Nat.not_lt.2 c5)
  try (have c5b9 := c5b2; simp only [ByteArray.size_append] at c5b9)
  replace H := Option.bind_eq_some_iff.mp H
  obtain ⟨⟨t288, t289⟩, A60, H⟩ := H
  (try dsimp only at H)
  have A6 := Aside0.mk A60
  clear A60
  simp only [Option.some.injEq, Prod.mk.injEq] at H
  obtain ⟨rfl, rfl⟩ := H
  go_enter Try.func64, Try.ntmps64
  try go_wp2_with (first | ((with_reducible refine gate_dst (N := 1) rfl ?_); refine box_event ?hg (N := 1) ?hd (cs := #[.int .i64 a0_0, .int .i64 a0_1, .int .i64 a0_2, .string a0_3]) (t := 100) ?hr ?_; (case hd => rfl); (case hg => rfl); (case hr => exact B10x16_); intro gb282 hg w7 hbox hb; have BK282 := Aside0.mk (hbox); have GW282 := Aside0.mk ((by rw [hg]; exact (below_size B10x0_) : w.heap.size ≤ gb282)); have GE282 := Aside0.mk ((by rw [hg]; exact (below_size B10x0_) : w.heap.size ≤ gb282)); replace HB := Aside0.mk (below_step B10x0_ hb); clear hb hbox hg; obtain ⟨hcz8_0, hcz8_1, hcz8_2, hcz8_3⟩ := cl4 BK282.out; obtain ⟨hfz8_0, hfz8_1, hfz8_2, hfz8_3⟩ := fr4 BK282.out) | ((with_reducible refine gate_callee (f := 128) rfl ?_); refine goesL_ (some 5) rfl rfl Try.func128 B10x17_ rfl #[.agg #[.int .i64 a0_0, .int .i64 a0_1, .int .i64 a0_2, .string a0_3]] rfl B10x3_ ?_; (with_reducible refine (impl_CellOk.calls a0_0 a0_1 a0_2 a0_3 true _ A2.out).mono ?_); rintro e w9 ⟨rfl, hb⟩; refine ⟨_, rfl, ?_⟩; replace BK282 := Aside0.mk (blk_below (g := gb282) (o := .cells #[.int .i64 a0_0, .int .i64 a0_1, .int .i64 a0_2, .string a0_3] 100 (0, 0)) B10x14_ hb); replace HB := Aside0.mk (below_step B10x6_ hb); (try clear hb); (try clear hb2); (try clear hk); (try clear hi)))
  replace BK282 := Aside0.mk (blk_drew BK282.out)
  replace HB := Aside0.mk (below_drew1 HB.out)
  refine start_ (n := 16) (S := fun w' => w'.cell? ⟨gb282, 0, none⟩ = some (.int .i64 a0_0) ∧ w'.cell? ⟨gb282, 1, none⟩ = some (.int .i64 a0_1) ∧ w'.cell? ⟨gb282, 2, none⟩ = some (.int .i64 a0_2) ∧ w'.cell? ⟨gb282, 3, none⟩ = some (.string a0_3)) (ds := []) #[false, false, false, false, false, false, false, false, false, false, false, false, false, false, false, false] B10x17_ rfl rfl ⟨(blk_cell BK282.out 0).trans rfl, (blk_cell BK282.out 1).trans rfl, (blk_cell BK282.out 2).trans rfl, (blk_cell BK282.out 3).trans rfl⟩ (fun hHeld => ?_); refine with_tabW impl_CellText.tab3 impl_CellText.bits3 (fun HT_ HW_ => ?_)
  generalize w9.drew = w10 at BK282 HB hHeld ⊢
  refine pu_ 0 7 HT_ ?_
  refine pu_ 2 9 HT_ ?_
  refine pu_ 4 11 HT_ ?_
  refine pu_ 8 15 HT_ ?_
  refine ta_ 1 8 HT_ HW_ hHeld ?_
  refine ta_ 3 10 HT_ HW_ hHeld ?_
  refine ta_ 5 12 HT_ HW_ hHeld ?_
  refine ta_ 9 16 HT_ HW_ hHeld ?_
  refine one_ (i := 6) (N := some 13) #[true, true, true, true, true, true, true, false, true, true, false, false, false, false, false, false] rfl rfl (one_of HT_.out B10x17_) (by decide) (fun K hK => ?_)
  refine Kd.R_lit_step (Kd.int .i64) _ 3 ?hg (N := 13) ?hd (xs := ([a0_0, a0_1, a0_2] : List Int)) (inner := [.int .i64 a0_0, .int .i64 a0_1, .int .i64 a0_2]) (ok := fun _ => True) (okp := fun _ => True) ?hr ?hp (fun _ hk => hk) trivial (Below.refl _ _) (Nat.le_refl _) (by simp) ?_; (case hd => rfl); (case hg => rfl); (case hr => exact B10x16_); (case hp => exact (Reps.one (show Kd.M (Kd.int .i64) _ _ _ a0_0 [.int .i64 a0_0] from rfl) (Reps.one (show Kd.M (Kd.int .i64) _ _ _ a0_1 [.int .i64 a0_1] from rfl) (Reps.one (show Kd.M (Kd.int .i64) _ _ _ a0_2 [.int .i64 a0_2] from rfl) (Reps.none _ _)))))
  intro v285 w11 ho12 hb hg_ hnew_
  clear hg_ hnew_
  (first | rw [← Ny284.out] at ho12 | (simp only [Int.reduceToNat] at ho12; rw [← Ny284.out] at ho12))
  have HO286 := Aside0.mk (Kd.R_lower ho12 (below_size B10x6_))
  replace BK282 := Aside0.mk (blk_below (g := gb282) (o := .cells #[.int .i64 a0_0, .int .i64 a0_1, .int .i64 a0_2, .string a0_3] 100 (0, 0)) B10x14_ hb)
  replace HB := Aside0.mk (below_step B10x6_ hb)
  clear hb ho12
  obtain ⟨Ao13, co13, eo13⟩ := Kd.R_slice HO286.out
  (first | subst eo13 | (injection eo13 with f1_ f2_ f3_; have f4_ := f1_.symm; have f5_ := f3_.symm; clear f1_ f2_ f3_; subst f4_; subst f5_))
  refine hK.out _ _ ⟨(blk_cell BK282.out 0).trans rfl, (blk_cell BK282.out 1).trans rfl, (blk_cell BK282.out 2).trans rfl, (blk_cell BK282.out 3).trans rfl⟩ (fun hHeld => ?_)
  clear hK K
  refine norm_ (a' := ?_) ?_ ?_
  rotate_left
  ·show Act.put _ (some 13) _ = _
   simp only [Act.put, List.setIfInBounds_toArray, List.set_cons_zero, List.set_cons_succ, i64_w, i32_w]
   rfl
  refine one_ (i := 7) (N := some 14) #[true, true, true, true, true, true, true, true, true, true, false, false, false, false, false, false] rfl rfl (one_of HT_.out B10x17_) (by decide) (fun K hK => ?_)
  refine goes_ Try.func125 B10x17_ rfl #[.slice Ao13 y284.length co13] (by rfl) rfl rfl B10x3_ ?_
  with_reducible refine (impl_byteTexts.calls k _ _ y284 t287 _ ?side1 ?side2 A4.out).mono ?_
  (case side1 => repeat (first | exact (Kd.R_reads' HO286.out).2.2 | (with_reducible refine Kd.C_alloc ?_ _) | (with_reducible refine Kd.C_drewN ?_ _) | (with_reducible refine Kd.C_drew ?_)))
  (case side2 => exact (Kd.R_reads' HO286.out).2.1)
  rintro e w14 ⟨rfl, hb⟩
  refine ⟨_, rfl, ?_⟩
  replace HO286 := Aside0.mk (Kd.R_below B10x20_ hb)
  replace BK282 := Aside0.mk (blk_below (g := gb282) (o := .cells #[.int .i64 a0_0, .int .i64 a0_1, .int .i64 a0_2, .string a0_3] 100 (0, 0)) B10x14_ hb)
  replace HB := Aside0.mk (below_step B10x6_ hb)
  (try clear hb)
  (try clear hb2)
  (try clear hk)
  (try clear hi)
  refine hK.out _ _ ⟨(blk_cell BK282.out 0).trans rfl, (blk_cell BK282.out 1).trans rfl, (blk_cell BK282.out 2).trans rfl, (blk_cell BK282.out 3).trans rfl⟩ (fun hHeld => ?_)
  clear hK K
  refine norm_ (a' := ?_) ?_ ?_
  rotate_left
  ·show Act.put _ (some 14) _ = _
   simp only [Act.put, List.setIfInBounds_toArray, List.set_cons_zero, List.set_cons_succ, i64_w, i32_w]
   rfl
  refine pu_ 10 17 HT_ ?_
  refine one_ (i := 11) (N := some 18) #[true, true, true, true, true, true, true, true, true, true, true, true, false, false, false, false] rfl rfl (one_of HT_.out B10x17_) (by decide) (fun K hK => ?_)
  refine goes_ Try.func129 B10x17_ rfl #[.string (t287 ++ a0_3)] (by rfl) rfl rfl B10x3_ ?_
  with_reducible refine (impl_Sealed.calls k (t287 ++ a0_3) t288 t289 _ A6.out).mono ?_
  rintro e w15 ⟨rfl, hb⟩
  refine ⟨_, rfl, ?_⟩
  replace HO286 := Aside0.mk (Kd.R_below B10x20_ hb)
  replace BK282 := Aside0.mk (blk_below (g := gb282) (o := .cells #[.int .i64 a0_0, .int .i64 a0_1, .int .i64 a0_2, .string a0_3] 100 (0, 0)) B10x14_ hb)
  replace HB := Aside0.mk (below_step B10x6_ hb)
  (try clear hb)
  (try clear hb2)
  (try clear hk)
  (try clear hi)
  refine hK.out _ _ ⟨(blk_cell BK282.out 0).trans rfl, (blk_cell BK282.out 1).trans rfl, (blk_cell BK282.out 2).trans rfl, (blk_cell BK282.out 3).trans rfl⟩ (fun hHeld => ?_)
  clear hK K
  refine norm_ (a' := ?_) ?_ ?_
  rotate_left
  ·show Act.put _ (some 18) _ = _
   simp only [Act.put, List.setIfInBounds_toArray, List.set_cons_zero, List.set_cons_succ, i64_w, i32_w]
   rfl
  refine pu_ 12 19 HT_ ?_
  refine pu_ 13 20 HT_ ?_
  refine pu_ 14 2 HT_ ?_
  refine pu_ 15 3 HT_ ?_
  refine done_ (done_of HT_.out B10x17_) ?_
  try go_wp2
  go_ret2
  exact ⟨B10x13_, B10x6_⟩
 ·replace c3 := Bool.eq_false_iff.mpr c3
  subst c3
  rw [if_neg (show ¬ (false = true) by decide)] at H
  simp only [Option.some.injEq, Prod.mk.injEq] at H
  obtain ⟨rfl, rfl⟩ := H
  go_enter Try.func64, Try.ntmps64
  go_wp2_with (first | ((with_reducible refine gate_dst (N := 1) rfl ?_); refine box_event ?hg (N := 1) ?hd (cs := #[.int .i64 a0_0, .int .i64 a0_1, .int .i64 a0_2, .string a0_3]) (t := 100) ?hr ?_; (case hd => rfl); (case hg => rfl); (case hr => exact B10x16_); intro gb282 hg w16 hbox hb; have BK282 := Aside0.mk (hbox); have GW282 := Aside0.mk ((by rw [hg]; exact (below_size B10x0_) : w.heap.size ≤ gb282)); have GE282 := Aside0.mk ((by rw [hg]; exact (below_size B10x0_) : w.heap.size ≤ gb282)); replace HB := Aside0.mk (below_step B10x0_ hb); clear hb hbox hg; obtain ⟨hcz17_0, hcz17_1, hcz17_2, hcz17_3⟩ := cl4 BK282.out; obtain ⟨hfz17_0, hfz17_1, hfz17_2, hfz17_3⟩ := fr4 BK282.out) | ((with_reducible refine gate_callee (f := 128) rfl ?_); refine goesL_ (some 5) rfl rfl Try.func128 B10x17_ rfl #[.agg #[.int .i64 a0_0, .int .i64 a0_1, .int .i64 a0_2, .string a0_3]] rfl B10x3_ ?_; (with_reducible refine (impl_CellOk.calls a0_0 a0_1 a0_2 a0_3 false _ A2.out).mono ?_); rintro e w18 ⟨rfl, hb⟩; refine ⟨_, rfl, ?_⟩; replace BK282 := Aside0.mk (blk_below (g := gb282) (o := .cells #[.int .i64 a0_0, .int .i64 a0_1, .int .i64 a0_2, .string a0_3] 100 (0, 0)) B10x14_ hb); replace HB := Aside0.mk (below_step B10x6_ hb); (try clear hb); (try clear hb2); (try clear hk); (try clear hi)))
  go_ret2
  exact ⟨B10x13_, B10x6_⟩

/-! ### impl_Wrap: function 14 -/
def impl_Wrap.l0 : Nat → Int → Int → List ByteArray → List (S62) → Int → Int → Option (List ByteArray × Bool)
 | 0, _, _, _, _, _, _ => none
 | k + 1, x1, x2, x13, x39, x40, x41 => if x41 < x40 then (if 0 ≤ x41 then (if x41 < (x39.length : Int) then ((impl_DgramText.f k ((rd_T62 x39 x41).f0) ((rd_T62 x39 x41).f1) ((rd_T62 x39 x41).f2) ((rd_T62 x39 x41).f3) ((rd_T62 x39 x41).f4) ((rd_T62 x39 x41).f5)).bind fun bt302 => ((impl_CellText.f k x2 x1 1 bt302.1).bind fun bt304 => (if bt304.2 = true then (if x13.length < 8796093022208 then (impl_Wrap.l0 k x1 x2 (x13 ++ [bt304.1]) x39 x40 (wrap64 (x41 + 1))) else (none)) else (some (([] : List ByteArray), false))))) else (none)) else (none)) else (some (x13, true))
def impl_Wrap.f (k : Nat) (a0_0 : Int) (a0_1 : Int) (a0_2 : Int) (a0_3 : ByteArray) (a1 : Int) (a2 : Int) (a3 : Int) : Option (List ByteArray × Bool) := (impl_SegText.f k a0_0 a0_1 a0_2 a0_3).bind fun bt291 => (if bt291.2 = true then ((impl_CutDgram.f k a1 a2 a3 0 false bt291.1 8).bind fun bt293 => (if bt293.2 = true then (impl_Wrap.l0 k a1 a2 (([] : List ByteArray)) bt293.1 (bt293.1.length : Int) 0) else (some (([] : List ByteArray), false)))) else (some (([] : List ByteArray), false)))
theorem impl_Wrap.mono_l : ∀ k, (∀ y0 y1 y2 y3 y4 y5, LeO (impl_Wrap.l0 k y0 y1 y2 y3 y4 y5) (impl_Wrap.l0 (k + 1) y0 y1 y2 y3 y4 y5))
 | 0 => fun _ _ _ _ _ _ r h => by simp [impl_Wrap.l0] at h
 | k + 1 => by
  have ih0 := impl_Wrap.mono_l k
  ·intro y0 y1 y2 y3 y4 y5
   unfold impl_Wrap.l0
   repeat' first
   | (with_reducible exact ih0 _ _ _ _ _ _)
   | (with_reducible exact impl_CellText.mono _ _ _ _ _)
   | (with_reducible exact impl_CutDgram.mono _ _ _ _ _ _ _ _)
   | (with_reducible exact impl_DgramText.mono _ _ _ _ _ _ _)
   | (with_reducible exact impl_SegText.mono _ _ _ _ _)
   | (with_reducible exact LeO.refl _)
   | (with_reducible exact LeO.none _)
   | (with_reducible refine LeO.ite ?_ ?_)
   | (with_reducible refine LeO.bind ?_ (fun _ => ?_))
   | exact ih0 _ _ _ _ _ _
   | exact impl_CellText.mono _ _ _ _ _
   | exact impl_CutDgram.mono _ _ _ _ _ _ _ _
   | exact impl_DgramText.mono _ _ _ _ _ _ _
   | exact impl_SegText.mono _ _ _ _ _
   | exact LeO.none _
   | refine LeO.ite ?_ ?_
   | refine LeO.bind ?_ (fun _ => ?_)
theorem impl_Wrap.mono : ∀ a0 a1 a2 a3 a4 a5 a6 k, LeO (impl_Wrap.f k a0 a1 a2 a3 a4 a5 a6) (impl_Wrap.f (k + 1) a0 a1 a2 a3 a4 a5 a6) := by
 intro a0 a1 a2 a3 a4 a5 a6 k
 have ih0 := impl_Wrap.mono_l k
 unfold impl_Wrap.f
 repeat' first
   | (with_reducible exact ih0 _ _ _ _ _ _)
   | (with_reducible exact impl_CellText.mono _ _ _ _ _)
   | (with_reducible exact impl_CutDgram.mono _ _ _ _ _ _ _ _)
   | (with_reducible exact impl_DgramText.mono _ _ _ _ _ _ _)
   | (with_reducible exact impl_SegText.mono _ _ _ _ _)
   | (with_reducible exact LeO.refl _)
   | (with_reducible exact LeO.none _)
   | (with_reducible refine LeO.ite ?_ ?_)
   | (with_reducible refine LeO.bind ?_ (fun _ => ?_))
   | exact ih0 _ _ _ _ _ _
   | exact impl_CellText.mono _ _ _ _ _
   | exact impl_CutDgram.mono _ _ _ _ _ _ _ _
   | exact impl_DgramText.mono _ _ _ _ _ _ _
   | exact impl_SegText.mono _ _ _ _ _
   | exact LeO.none _
   | refine LeO.ite ?_ ?_
   | refine LeO.bind ?_ (fun _ => ?_)
set_option maxHeartbeats 8000000 in
set_option maxRecDepth 100000 in
theorem impl_Wrap.calls (k : Nat) (a0_0 : Int) (a0_1 : Int) (a0_2 : Int) (a0_3 : ByteArray) (a1 : Int) (a2 : Int) (a3 : Int) (r1 : List ByteArray) (r2 : Bool) (w : World) (h : impl_Wrap.f k a0_0 a0_1 a0_2 a0_3 a1 a2 a3 = some (r1, r2)) :
  Calls Try.prog 14 #[.agg #[.int .i64 a0_0, .int .i64 a0_1, .int .i64 a0_2, .string a0_3], .int .i64 a1, .int .i64 a2, .int .i64 a3] w fun e w' => ∃ v0_ : Value, e = .returned (.tuple #[v0_, .bool r2]) ∧ Kd.R Kd.string 9 w' w.heap.size (fun _ => True) v0_ r1 ∧ Below w.heap.size w w' := by
 have hu28 := Try.underlying28
 have hu62 := Try.underlying62
 have hu100 := Try.underlying100
 have HB := Aside0.mk (Below.refl w.heap.size w)
 have H : ((impl_SegText.f k a0_0 a0_1 a0_2 a0_3).bind fun bt291 => (if bt291.2 = true then ((impl_CutDgram.f k a1 a2 a3 0 false bt291.1 8).bind fun bt293 => (if bt293.2 = true then (impl_Wrap.l0 k a1 a2 (([] : List ByteArray)) bt293.1 (bt293.1.length : Int) 0) else (some (([] : List ByteArray), false)))) else (some (([] : List ByteArray), false)))) = some (r1, r2) := h
 clear h
 replace H := Option.bind_eq_some_iff.mp H
 obtain ⟨⟨t291, t292⟩, A50, H⟩ := H
 (try dsimp only at H)
 have A5 := Aside0.mk A50
 clear A50
 by_cases c6 : t292 = true
 ·subst c6
  rw [if_pos rfl] at H
  replace H := Option.bind_eq_some_iff.mp H
  obtain ⟨⟨t293, t296⟩, A70, H⟩ := H
  (try dsimp only at H)
  have A7 := Aside0.mk A70
  clear A70
  by_cases c8 : t296 = true
  ·subst c8
   rw [if_pos rfl] at H
   obtain ⟨y297, hy297⟩ : ∃ y_ : List ByteArray, y_ = (([] : List ByteArray)) := ⟨_, rfl⟩
   replace H : (impl_Wrap.l0 k a1 a2 y297 t293 (t293.length : Int) 0) = some (r1, r2) := by first | (rw [hy297]; with_reducible exact H) | (have H2_ := (Option.bind_some _ _).symm.trans H; rw [hy297]; with_reducible exact H2_) | (have H2_ := (Option.bind_some _ _).symm.trans H; with_reducible exact H2_) | with_reducible exact H | (rw [hy297]; exact H) | exact H
   have Ny297 := Aside0.mk hy297
   clear hy297
   have H' := Aside0.mk H
   clear H
   go_enter Try.func14, Try.ntmps14
   go_wp2_with (first | ((with_reducible refine gate_dst (N := 4) rfl ?_); refine box_event ?hg (N := 4) ?hd (cs := #[.int .i64 a0_0, .int .i64 a0_1, .int .i64 a0_2, .string a0_3]) (t := 28) ?hr ?_; (case hd => rfl); (case hg => rfl); (case hr => exact B10x16_); intro gb290 hg w9 hbox hb; have BK290 := Aside0.mk (hbox); have GW290 := Aside0.mk ((by rw [hg]; exact (below_size B10x0_) : w.heap.size ≤ gb290)); have GE290 := Aside0.mk ((by rw [hg]; exact (below_size B10x0_) : w.heap.size ≤ gb290)); replace HB := Aside0.mk (below_step B10x0_ hb); clear hb hbox hg; obtain ⟨hcz10_0, hcz10_1, hcz10_2, hcz10_3⟩ := cl4 BK290.out; obtain ⟨hfz10_0, hfz10_1, hfz10_2, hfz10_3⟩ := fr4 BK290.out) | ((with_reducible refine gate_callee (f := 62) rfl ?_); refine goesL_ (some 22) rfl rfl Try.func62 B10x17_ rfl #[.agg #[.int .i64 a0_0, .int .i64 a0_1, .int .i64 a0_2, .string a0_3]] rfl B10x3_ ?_; (with_reducible refine (impl_SegText.calls k a0_0 a0_1 a0_2 a0_3 t291 true _ A5.out).mono ?_); rintro e w11 ⟨rfl, hb⟩; refine ⟨_, rfl, ?_⟩; replace BK290 := Aside0.mk (blk_below (g := gb290) (o := .cells #[.int .i64 a0_0, .int .i64 a0_1, .int .i64 a0_2, .string a0_3] 28 (0, 0)) B10x2_ hb); replace HB := Aside0.mk (below_step B10x1_ hb); (try clear hb); (try clear hb2); (try clear hk); (try clear hi)) | ((with_reducible refine gate_callee (f := 36) rfl ?_); refine goesL_ (some 33) rfl rfl Try.func36 B10x17_ rfl #[.agg #[.int .i64 a1, .int .i64 a2, .int .i64 a3, .int .i64 0, .bool false, .string t291], .int .i64 8] rfl B10x3_ ?_; (with_reducible refine (impl_CutDgram.calls k a1 a2 a3 0 false t291 8 t293 true _ A7.out).mono ?_); rintro e w12 ⟨v294, rfl, ho0, hb⟩; refine ⟨_, rfl, ?_⟩; have HO295 := Aside0.mk (Kd.R_lower ho0 (below_size B10x1_)); replace BK290 := Aside0.mk (blk_below (g := gb290) (o := .cells #[.int .i64 a0_0, .int .i64 a0_1, .int .i64 a0_2, .string a0_3] 28 (0, 0)) B10x2_ hb); replace HB := Aside0.mk (below_step B10x1_ hb); (try clear hb); (try clear hb2); (try clear hk); (try clear hi); (try clear ho0)) | ((with_reducible refine gate_dst (N := 38) rfl ?_); refine Kd.R_lit Kd.string _ 9 ?hg (N := 38) ?hd (xs := ([] : List ByteArray)) (inner := []) (ok := fun _ => True) (okp := fun _ => True) ?hr ?hp (fun _ hk => hk) trivial (Below.refl _ _) (Nat.le_refl _) (by simp) ?_; (case hd => rfl); (case hg => rfl); (case hr => exact B10x16_); (case hp => exact (Reps.none _ _)); intro v298 w13 ho14 hb hg_ hnew_; clear hg_ hnew_; (first | rw [← Ny297.out] at ho14 | (simp only [Int.reduceToNat] at ho14; rw [← Ny297.out] at ho14)); replace HO295 := Aside0.mk (Kd.R_below B10x21_ hb); have HO299 := Aside0.mk (Kd.R_lower ho14 (below_size B10x1_)); replace BK290 := Aside0.mk (blk_below (g := gb290) (o := .cells #[.int .i64 a0_0, .int .i64 a0_1, .int .i64 a0_2, .string a0_3] 28 (0, 0)) B10x2_ hb); replace HB := Aside0.mk (below_step B10x1_ hb); clear hb ho14; obtain ⟨Ao15, co15, eo15⟩ := Kd.R_slice HO295.out; subst eo15))
   go_loopg [13, 41] k (fun kq v13 v41 w' => ∃ (x13_1 : List ByteArray) (x41_1 : Int), v41 = .int .i64 x41_1 ∧ Aside0 (impl_Wrap.l0 kq a1 a2 x13_1 t293 (t293.length : Int) x41_1 = some (r1, r2)) ∧ Aside0 (kq ≤ k) ∧ Aside0 (Kd.R Kd.string 9 w' w.heap.size (fun _ => True) v13 x13_1) ∧ Aside0 (Kd.R k62 62 w' w.heap.size (fun _ => True) (.slice Ao15 t293.length co15) t293) ∧ Aside0 (w'.heap[gb290]? = some (.cells #[.int .i64 a0_0, .int .i64 a0_1, .int .i64 a0_2, .string a0_3] 28 (0, 0))) ∧ Aside0 (Below w.heap.size w w'))
   case atStart => exact ⟨(y297), (0), (be_), H', ⟨Nat.le_refl _⟩, ⟨(by (with_reducible repeat (first | apply Kd.R_alloc | apply Kd.R_drewN | apply Kd.R_drew)); exact HO299.out)⟩, ⟨B10x21_⟩, ⟨B10x2_⟩, ⟨B10x1_⟩⟩
   case round =>
    clear H'
    try clear c1
    try clear p2
    try clear c3
    try clear c6
    try clear c8
    try clear c14
    try clear hcz10_0
    try clear hcz10_1
    try clear hcz10_2
    try clear hcz10_3
    try clear hfz10_0
    try clear hfz10_1
    try clear hfz10_2
    try clear hfz10_3
    obtain ⟨x13_1, x41_1, rfl, HA, HK1, HO_13, HO_39, BK290, HB⟩ := hrel
    cases gk with
    | zero => exact absurd HA.out (by simp [impl_Wrap.l0])
    | succ k1 =>
     have H := HA.out
     clear HA
     simp only [impl_Wrap.l0] at H
     by_cases c16 : x41_1 < (t293.length : Int)
     ·rw [if_pos c16] at H
      have c16b0 : decide (x41_1 < (t293.length : Int)) = true := decide_eq_true c16
      clear c16
      by_cases c17 : 0 ≤ x41_1
      rotate_left
      ·rw [if_neg c17] at H
       exact absurd H (by simp)
      rw [if_pos c17] at H
      have c17b0 : decide (0 ≤ x41_1) = true := decide_eq_true c17
      clear c17
      by_cases c18 : x41_1 < (t293.length : Int)
      rotate_left
      ·exact absurd H (by exfalso; (try have h0_ := of_decide_eq_true c16b0); (try have g0_ := c16); omega)
      rw [if_pos c18] at H
      have c18b0 : decide (x41_1 < (t293.length : Int)) = true := decide_eq_true c18
      clear c18
      replace H := Option.bind_eq_some_iff.mp H
      obtain ⟨⟨t302, t303⟩, A190, H⟩ := H
      (try dsimp only at H)
      have A19 := Aside0.mk A190
      clear A190
      replace H := Option.bind_eq_some_iff.mp H
      obtain ⟨⟨t304, t305⟩, A200, H⟩ := H
      (try dsimp only at H)
      have A20 := Aside0.mk A200
      clear A200
      by_cases c21 : t305 = true
      ·subst c21
       rw [if_pos rfl] at H
       by_cases c22 : x13_1.length < 8796093022208
       rotate_left
       ·rw [if_neg c22] at H
        exact absurd H (by simp)
       rw [if_pos c22] at H
       have LMc22 := Aside0.mk c22
       clear c22
       obtain ⟨y306, hy306⟩ : ∃ y_ : List ByteArray, y_ = (x13_1 ++ [t304]) := ⟨_, rfl⟩
       replace H : (impl_Wrap.l0 k1 a1 a2 y306 t293 (t293.length : Int) (wrap64 (x41_1 + 1))) = some (r1, r2) := by first | (rw [hy306]; with_reducible exact H) | (have H2_ := (Option.bind_some _ _).symm.trans H; rw [hy306]; with_reducible exact H2_) | (have H2_ := (Option.bind_some _ _).symm.trans H; with_reducible exact H2_) | with_reducible exact H | (rw [hy306]; exact H) | exact H
       have Ny306 := Aside0.mk hy306
       clear hy306
       have H' := Aside0.mk H
       clear H
       have p300 : 0 ≤ (x41_1 : Int) := of_decide_eq_true B10x12_
       have q300 : x41_1 < (t293.length : Int) := of_decide_eq_true B10x12_
       obtain ⟨ad300, e300, hx300_0, hx300_1, hx300_2, hx300_3, hx300_4, hx300_5⟩ := at_T62 (Kd.R_reads' HO_39.out).2.2 x41_1 p300 q300
       cases e300
       replace p300 := eq_true p300
       replace q300 := eq_true q300
       go_wp2_with (first | ((with_reducible refine gate_dst (N := 15) rfl ?_); refine box_event ?hg (N := 15) ?hd (cs := #[.int .i64 0, .int .i64 0, .int .i64 0, .int .i64 0, .bool false, .string (⟨#[]⟩ : ByteArray)]) (t := 62) ?hr ?_; (case hd => rfl); (case hg => rfl); (case hr => exact B10x16_); intro gb301 hg w23 hbox hb; replace HO_13 := Aside0.mk (Kd.R_below B10x10_ hb); replace HO_39 := Aside0.mk (Kd.R_below (Kd.R_elderB B10x11_ gb301 (Nat.le_of_eq hg.symm)) hb); have BK301 := Aside0.mk (hbox); have GW301 := Aside0.mk ((by rw [hg]; exact (below_size B10x1_) : w.heap.size ≤ gb301)); have GE301 := Aside0.mk ((by rw [hg]; exact (below_size B10x1_) : w.heap.size ≤ gb301)); replace HB := Aside0.mk (below_step B10x1_ hb); have NB290_301 := Aside0.mk ((by rw [hg]; exact Nat.ne_of_lt (blk_lt (g := gb290) (o := .cells #[.int .i64 a0_0, .int .i64 a0_1, .int .i64 a0_2, .string a0_3] 28 (0, 0)) B10x2_) : gb290 ≠ gb301)); have NB301_290 := Aside0.mk ((by rw [hg]; exact Nat.ne_of_gt (blk_lt (g := gb290) (o := .cells #[.int .i64 a0_0, .int .i64 a0_1, .int .i64 a0_2, .string a0_3] 28 (0, 0)) B10x2_) : gb301 ≠ gb290)); replace BK290 := Aside0.mk (blk_below (g := gb290) (o := .cells #[.int .i64 a0_0, .int .i64 a0_1, .int .i64 a0_2, .string a0_3] 28 (0, 0)) B10x2_ hb); clear hb hbox hg; have hnb24 := NB301_290.out; have hnc24 := NB290_301.out; obtain ⟨hcz25_0, hcz25_1, hcz25_2, hcz25_3, hcz25_4, hcz25_5⟩ := cl6 BK301.out; obtain ⟨hfz25_0, hfz25_1, hfz25_2, hfz25_3, hfz25_4, hfz25_5⟩ := fr6 BK301.out) | ((with_reducible refine gate_store (t := 62) (p := 15) rfl ?_); refine store_event (t := 62) (p := 15) (v := ?vo_w26) (w1 := ((((((w23.setCell ⟨gb301, 0, none⟩ (.int .i64 ((rd_T62 t293 x41_1).f0))).setCell ⟨gb301, 1, none⟩ (.int .i64 ((rd_T62 t293 x41_1).f1))).setCell ⟨gb301, 2, none⟩ (.int .i64 ((rd_T62 t293 x41_1).f2))).setCell ⟨gb301, 3, none⟩ (.int .i64 ((rd_T62 t293 x41_1).f3))).setCell ⟨gb301, 4, none⟩ (.bool ((rd_T62 t293 x41_1).f4))).setCell ⟨gb301, 5, none⟩ (.string ((rd_T62 t293 x41_1).f5)))) ?hg ?ho ?hn ?hr ?_; (case ho => rfl); (case hg => rfl); (case hn => rfl); (case hr => exact B10x16_); intro w26 hw; replace HO_13 : Aside0 (Kd.R Kd.string 9 w26 w.heap.size (fun _ => True) u13 x13_1) := ⟨B10x9_⟩; replace HO_39 : Aside0 (Kd.R k62 62 w26 w.heap.size (fun k_ => k_ ≠ gb301) (.slice (some ad300) t293.length co15) t293) := ⟨B10x8_⟩; replace BK290 : Aside0 (w26.heap[gb290]? = some (.cells #[.int .i64 a0_0, .int .i64 a0_1, .int .i64 a0_2, .string a0_3] 28 (0, 0))) := ⟨B10x7_⟩; replace BK301 : Aside0 (w26.heap[gb301]? = some (.cells #[.int .i64 ((rd_T62 t293 x41_1).f0), .int .i64 ((rd_T62 t293 x41_1).f1), .int .i64 ((rd_T62 t293 x41_1).f2), .int .i64 ((rd_T62 t293 x41_1).f3), .bool ((rd_T62 t293 x41_1).f4), .string ((rd_T62 t293 x41_1).f5)] 62 (0, 0))) := ⟨B10x4_⟩; replace HB : Aside0 (Below w.heap.size w w26) := ⟨(by rw [hw]; exact B10x5_)⟩; clear hw; obtain ⟨hcz27_0, hcz27_1, hcz27_2, hcz27_3, hcz27_4, hcz27_5⟩ := cl6 BK301.out; obtain ⟨hfz27_0, hfz27_1, hfz27_2, hfz27_3, hfz27_4, hfz27_5⟩ := fr6 BK301.out) | ((with_reducible refine gate_callee (f := 63) rfl ?_); refine goesL_ (some 47) rfl rfl Try.func63 B10x17_ rfl #[.agg #[.int .i64 ((rd_T62 t293 x41_1).f0), .int .i64 ((rd_T62 t293 x41_1).f1), .int .i64 ((rd_T62 t293 x41_1).f2), .int .i64 ((rd_T62 t293 x41_1).f3), .bool ((rd_T62 t293 x41_1).f4), .string ((rd_T62 t293 x41_1).f5)]] rfl B10x3_ ?_; (with_reducible refine (impl_DgramText.calls k1 ((rd_T62 t293 x41_1).f0) ((rd_T62 t293 x41_1).f1) ((rd_T62 t293 x41_1).f2) ((rd_T62 t293 x41_1).f3) ((rd_T62 t293 x41_1).f4) ((rd_T62 t293 x41_1).f5) t302 t303 _ A19.out).mono ?_); rintro e w28 ⟨rfl, hb⟩; refine ⟨_, rfl, ?_⟩; replace HO_13 := Aside0.mk (Kd.R_below B10x10_ hb); replace HO_39 := Aside0.mk (Kd.R_below B10x11_ hb); replace BK290 := Aside0.mk (blk_below (g := gb290) (o := .cells #[.int .i64 a0_0, .int .i64 a0_1, .int .i64 a0_2, .string a0_3] 28 (0, 0)) B10x2_ hb); replace BK301 := Aside0.mk (blk_below (g := gb301) (o := .cells #[.int .i64 ((rd_T62 t293 x41_1).f0), .int .i64 ((rd_T62 t293 x41_1).f1), .int .i64 ((rd_T62 t293 x41_1).f2), .int .i64 ((rd_T62 t293 x41_1).f3), .bool ((rd_T62 t293 x41_1).f4), .string ((rd_T62 t293 x41_1).f5)] 62 (0, 0)) B10x15_ hb); replace HB := Aside0.mk (below_step B10x5_ hb); (try clear hb); (try clear hb2); (try clear hk); (try clear hi)) | ((with_reducible refine gate_callee (f := 64) rfl ?_); refine goesL_ (some 55) rfl rfl Try.func64 B10x17_ rfl #[.agg #[.int .i64 a2, .int .i64 a1, .int .i64 1, .string t302]] rfl B10x3_ ?_; (with_reducible refine (impl_CellText.calls k1 a2 a1 1 t302 t304 true _ A20.out).mono ?_); rintro e w29 ⟨rfl, hb⟩; refine ⟨_, rfl, ?_⟩; replace HO_13 := Aside0.mk (Kd.R_below B10x10_ hb); replace HO_39 := Aside0.mk (Kd.R_below B10x11_ hb); replace BK290 := Aside0.mk (blk_below (g := gb290) (o := .cells #[.int .i64 a0_0, .int .i64 a0_1, .int .i64 a0_2, .string a0_3] 28 (0, 0)) B10x2_ hb); replace BK301 := Aside0.mk (blk_below (g := gb301) (o := .cells #[.int .i64 ((rd_T62 t293 x41_1).f0), .int .i64 ((rd_T62 t293 x41_1).f1), .int .i64 ((rd_T62 t293 x41_1).f2), .int .i64 ((rd_T62 t293 x41_1).f3), .bool ((rd_T62 t293 x41_1).f4), .string ((rd_T62 t293 x41_1).f5)] 62 (0, 0)) B10x15_ hb); replace HB := Aside0.mk (below_step B10x5_ hb); (try clear hb); (try clear hb2); (try clear hk); (try clear hi)) | ((with_reducible refine gate_builtin (b := .append) (xs := #[.tmp 60, .tmp 62]) rfl ?_); at_builtin; refine Kd.R_append Kd.string (w0 := w) w.heap.size rfl (.tmp 60) (.tmp 62) 25 9 (.string ⟨#[]⟩) 16 rfl Try.underlying25 info9 rfl (by decide) (by omega) u13 x13_1 t304 [.string t304] (fun _ => True) (fun _ => False) rfl rfl ?aP (fun _ hk => hk.elim) ?aF ?aO ?aB ?aS ?aL ?_; (case aP => exact rfl); (case aB => exact B10x5_); (case aF => exact (fun _ _ => trivial)); (case aO => exact B10x10_); (case aS => exact (below_size B10x5_)); (case aL => have := LMc22.out; omega); intro v307 w30 ho hb hg hat; rw [← Ny306.out] at ho; replace HO_39 := Aside0.mk (Kd.R_over' B10x11_ (Kd.R_typed B10x10_) (by decide) hg); replace BK290 := Aside0.mk (blk_grown (g := gb290) (o := .cells #[.int .i64 a0_0, .int .i64 a0_1, .int .i64 a0_2, .string a0_3] 28 (0, 0)) B10x2_ hg (Kd.R_ne HO_13.out BK290.out (by decide))); replace BK301 := Aside0.mk (blk_grown (g := gb301) (o := .cells #[.int .i64 ((rd_T62 t293 x41_1).f0), .int .i64 ((rd_T62 t293 x41_1).f1), .int .i64 ((rd_T62 t293 x41_1).f2), .int .i64 ((rd_T62 t293 x41_1).f3), .bool ((rd_T62 t293 x41_1).f4), .string ((rd_T62 t293 x41_1).f5)] 62 (0, 0)) B10x15_ hg (Kd.R_ne HO_13.out BK301.out (by decide))); replace HB := Aside0.mk (hb); have HO308 := Aside0.mk (ho); clear HO_13; clear ho hb hg hat))
       go_roundg k1
       case measure => have := HK1.out; omega
       case rel => exact ⟨(y306), (wrap64 (x41_1 + 1)), (be_), H', ⟨B10x22_⟩, ⟨(by (with_reducible repeat (first | apply Kd.R_alloc | apply Kd.R_drewN | apply Kd.R_drew)); exact HO308.out)⟩, ⟨(by (with_reducible repeat (first | apply Kd.R_alloc | apply Kd.R_drewN | apply Kd.R_drew)); exact Kd.R_mono HO_39.out (fun _ hk => trivial))⟩, ⟨B10x2_⟩, ⟨B10x5_⟩⟩
      ·replace c21 := Bool.eq_false_iff.mpr c21
       subst c21
       rw [if_neg (show ¬ (false = true) by decide)] at H
       simp only [Option.some.injEq, Prod.mk.injEq] at H
       obtain ⟨rfl, rfl⟩ := H
       have p300 : 0 ≤ (x41_1 : Int) := of_decide_eq_true B10x12_
       have q300 : x41_1 < (t293.length : Int) := of_decide_eq_true B10x12_
       obtain ⟨ad300, e300, hx300_0, hx300_1, hx300_2, hx300_3, hx300_4, hx300_5⟩ := at_T62 (Kd.R_reads' HO_39.out).2.2 x41_1 p300 q300
       cases e300
       replace p300 := eq_true p300
       replace q300 := eq_true q300
       go_wp2_with (first | ((with_reducible refine gate_dst (N := 15) rfl ?_); refine box_event ?hg (N := 15) ?hd (cs := #[.int .i64 0, .int .i64 0, .int .i64 0, .int .i64 0, .bool false, .string (⟨#[]⟩ : ByteArray)]) (t := 62) ?hr ?_; (case hd => rfl); (case hg => rfl); (case hr => exact B10x16_); intro gb301 hg w31 hbox hb; replace HO_13 := Aside0.mk (Kd.R_below B10x10_ hb); replace HO_39 := Aside0.mk (Kd.R_below (Kd.R_elderB B10x11_ gb301 (Nat.le_of_eq hg.symm)) hb); have BK301 := Aside0.mk (hbox); have GW301 := Aside0.mk ((by rw [hg]; exact (below_size B10x1_) : w.heap.size ≤ gb301)); have GE301 := Aside0.mk ((by rw [hg]; exact (below_size B10x1_) : w.heap.size ≤ gb301)); replace HB := Aside0.mk (below_step B10x1_ hb); have NB290_301 := Aside0.mk ((by rw [hg]; exact Nat.ne_of_lt (blk_lt (g := gb290) (o := .cells #[.int .i64 a0_0, .int .i64 a0_1, .int .i64 a0_2, .string a0_3] 28 (0, 0)) B10x2_) : gb290 ≠ gb301)); have NB301_290 := Aside0.mk ((by rw [hg]; exact Nat.ne_of_gt (blk_lt (g := gb290) (o := .cells #[.int .i64 a0_0, .int .i64 a0_1, .int .i64 a0_2, .string a0_3] 28 (0, 0)) B10x2_) : gb301 ≠ gb290)); replace BK290 := Aside0.mk (blk_below (g := gb290) (o := .cells #[.int .i64 a0_0, .int .i64 a0_1, .int .i64 a0_2, .string a0_3] 28 (0, 0)) B10x2_ hb); clear hb hbox hg; have hnb32 := NB301_290.out; have hnc32 := NB290_301.out; obtain ⟨hcz33_0, hcz33_1, hcz33_2, hcz33_3, hcz33_4, hcz33_5⟩ := cl6 BK301.out; obtain ⟨hfz33_0, hfz33_1, hfz33_2, hfz33_3, hfz33_4, hfz33_5⟩ := fr6 BK301.out) | ((with_reducible refine gate_store (t := 62) (p := 15) rfl ?_); refine store_event (t := 62) (p := 15) (v := ?vo_w34) (w1 := ((((((w31.setCell ⟨gb301, 0, none⟩ (.int .i64 ((rd_T62 t293 x41_1).f0))).setCell ⟨gb301, 1, none⟩ (.int .i64 ((rd_T62 t293 x41_1).f1))).setCell ⟨gb301, 2, none⟩ (.int .i64 ((rd_T62 t293 x41_1).f2))).setCell ⟨gb301, 3, none⟩ (.int .i64 ((rd_T62 t293 x41_1).f3))).setCell ⟨gb301, 4, none⟩ (.bool ((rd_T62 t293 x41_1).f4))).setCell ⟨gb301, 5, none⟩ (.string ((rd_T62 t293 x41_1).f5)))) ?hg ?ho ?hn ?hr ?_; (case ho => rfl); (case hg => rfl); (case hn => rfl); (case hr => exact B10x16_); intro w34 hw; replace HO_13 : Aside0 (Kd.R Kd.string 9 w34 w.heap.size (fun _ => True) u13 x13_1) := ⟨B10x9_⟩; replace HO_39 : Aside0 (Kd.R k62 62 w34 w.heap.size (fun k_ => k_ ≠ gb301) (.slice (some ad300) t293.length co15) t293) := ⟨B10x8_⟩; replace BK290 : Aside0 (w34.heap[gb290]? = some (.cells #[.int .i64 a0_0, .int .i64 a0_1, .int .i64 a0_2, .string a0_3] 28 (0, 0))) := ⟨B10x7_⟩; replace BK301 : Aside0 (w34.heap[gb301]? = some (.cells #[.int .i64 ((rd_T62 t293 x41_1).f0), .int .i64 ((rd_T62 t293 x41_1).f1), .int .i64 ((rd_T62 t293 x41_1).f2), .int .i64 ((rd_T62 t293 x41_1).f3), .bool ((rd_T62 t293 x41_1).f4), .string ((rd_T62 t293 x41_1).f5)] 62 (0, 0))) := ⟨B10x4_⟩; replace HB : Aside0 (Below w.heap.size w w34) := ⟨(by rw [hw]; exact B10x5_)⟩; clear hw; obtain ⟨hcz35_0, hcz35_1, hcz35_2, hcz35_3, hcz35_4, hcz35_5⟩ := cl6 BK301.out; obtain ⟨hfz35_0, hfz35_1, hfz35_2, hfz35_3, hfz35_4, hfz35_5⟩ := fr6 BK301.out) | ((with_reducible refine gate_callee (f := 63) rfl ?_); refine goesL_ (some 47) rfl rfl Try.func63 B10x17_ rfl #[.agg #[.int .i64 ((rd_T62 t293 x41_1).f0), .int .i64 ((rd_T62 t293 x41_1).f1), .int .i64 ((rd_T62 t293 x41_1).f2), .int .i64 ((rd_T62 t293 x41_1).f3), .bool ((rd_T62 t293 x41_1).f4), .string ((rd_T62 t293 x41_1).f5)]] rfl B10x3_ ?_; (with_reducible refine (impl_DgramText.calls k1 ((rd_T62 t293 x41_1).f0) ((rd_T62 t293 x41_1).f1) ((rd_T62 t293 x41_1).f2) ((rd_T62 t293 x41_1).f3) ((rd_T62 t293 x41_1).f4) ((rd_T62 t293 x41_1).f5) t302 t303 _ A19.out).mono ?_); rintro e w36 ⟨rfl, hb⟩; refine ⟨_, rfl, ?_⟩; replace HO_13 := Aside0.mk (Kd.R_below B10x10_ hb); replace HO_39 := Aside0.mk (Kd.R_below B10x11_ hb); replace BK290 := Aside0.mk (blk_below (g := gb290) (o := .cells #[.int .i64 a0_0, .int .i64 a0_1, .int .i64 a0_2, .string a0_3] 28 (0, 0)) B10x2_ hb); replace BK301 := Aside0.mk (blk_below (g := gb301) (o := .cells #[.int .i64 ((rd_T62 t293 x41_1).f0), .int .i64 ((rd_T62 t293 x41_1).f1), .int .i64 ((rd_T62 t293 x41_1).f2), .int .i64 ((rd_T62 t293 x41_1).f3), .bool ((rd_T62 t293 x41_1).f4), .string ((rd_T62 t293 x41_1).f5)] 62 (0, 0)) B10x15_ hb); replace HB := Aside0.mk (below_step B10x5_ hb); (try clear hb); (try clear hb2); (try clear hk); (try clear hi)) | ((with_reducible refine gate_callee (f := 64) rfl ?_); refine goesL_ (some 55) rfl rfl Try.func64 B10x17_ rfl #[.agg #[.int .i64 a2, .int .i64 a1, .int .i64 1, .string t302]] rfl B10x3_ ?_; (with_reducible refine (impl_CellText.calls k1 a2 a1 1 t302 t304 false _ A20.out).mono ?_); rintro e w37 ⟨rfl, hb⟩; refine ⟨_, rfl, ?_⟩; replace HO_13 := Aside0.mk (Kd.R_below B10x10_ hb); replace HO_39 := Aside0.mk (Kd.R_below B10x11_ hb); replace BK290 := Aside0.mk (blk_below (g := gb290) (o := .cells #[.int .i64 a0_0, .int .i64 a0_1, .int .i64 a0_2, .string a0_3] 28 (0, 0)) B10x2_ hb); replace BK301 := Aside0.mk (blk_below (g := gb301) (o := .cells #[.int .i64 ((rd_T62 t293 x41_1).f0), .int .i64 ((rd_T62 t293 x41_1).f1), .int .i64 ((rd_T62 t293 x41_1).f2), .int .i64 ((rd_T62 t293 x41_1).f3), .bool ((rd_T62 t293 x41_1).f4), .string ((rd_T62 t293 x41_1).f5)] 62 (0, 0)) B10x15_ hb); replace HB := Aside0.mk (below_step B10x5_ hb); (try clear hb); (try clear hb2); (try clear hk); (try clear hi)))
       go_ret2
       exact ⟨_, by first | rfl | (simp [errW_none, errW_some] <;> rfl) | (simp [*, errW_none, errW_some] <;> rfl), by first | exact Kd.R_nil _ _ _ _ _ | exact Kd.N_nil _ _ _ _ _ | exact Kd.V_nil _ _ _ _ _ | exact Kd.Q_nil _ _ _ _ _ | exact Kd.S_nil _ _ _ _ _, by repeat (first | (with_reducible first | exact HB.out | apply below_alloc | apply pw_below_drewN | apply below_drew1 | refine below_set ?_ GE290.out | refine below_set ?_ GE301.out) | exact HB.out)⟩
     ·rw [if_neg c16] at H
      have c16b0 : decide (x41_1 < (t293.length : Int)) = false := decide_eq_false c16
      clear c16
      simp only [Option.some.injEq, Prod.mk.injEq] at H
      obtain ⟨rfl, rfl⟩ := H
      go_wp2
      go_ret2
      exact ⟨_, by first | rfl | (simp [errW_none, errW_some] <;> rfl) | (simp [*, errW_none, errW_some] <;> rfl), by (with_reducible repeat (first | apply Kd.R_alloc | apply Kd.R_drewN | apply Kd.R_drew)); exact HO_13.out, by repeat (first | (with_reducible first | exact HB.out | apply below_alloc | apply pw_below_drewN | apply below_drew1 | refine below_set ?_ GE290.out) | exact HB.out)⟩
  ·replace c8 := Bool.eq_false_iff.mpr c8
   subst c8
   rw [if_neg (show ¬ (false = true) by decide)] at H
   simp only [Option.some.injEq, Prod.mk.injEq] at H
   obtain ⟨rfl, rfl⟩ := H
   go_enter Try.func14, Try.ntmps14
   go_wp2_with (first | ((with_reducible refine gate_dst (N := 4) rfl ?_); refine box_event ?hg (N := 4) ?hd (cs := #[.int .i64 a0_0, .int .i64 a0_1, .int .i64 a0_2, .string a0_3]) (t := 28) ?hr ?_; (case hd => rfl); (case hg => rfl); (case hr => exact B10x16_); intro gb290 hg w38 hbox hb; have BK290 := Aside0.mk (hbox); have GW290 := Aside0.mk ((by rw [hg]; exact (below_size B10x0_) : w.heap.size ≤ gb290)); have GE290 := Aside0.mk ((by rw [hg]; exact (below_size B10x0_) : w.heap.size ≤ gb290)); replace HB := Aside0.mk (below_step B10x0_ hb); clear hb hbox hg; obtain ⟨hcz39_0, hcz39_1, hcz39_2, hcz39_3⟩ := cl4 BK290.out; obtain ⟨hfz39_0, hfz39_1, hfz39_2, hfz39_3⟩ := fr4 BK290.out) | ((with_reducible refine gate_callee (f := 62) rfl ?_); refine goesL_ (some 22) rfl rfl Try.func62 B10x17_ rfl #[.agg #[.int .i64 a0_0, .int .i64 a0_1, .int .i64 a0_2, .string a0_3]] rfl B10x3_ ?_; (with_reducible refine (impl_SegText.calls k a0_0 a0_1 a0_2 a0_3 t291 true _ A5.out).mono ?_); rintro e w40 ⟨rfl, hb⟩; refine ⟨_, rfl, ?_⟩; replace BK290 := Aside0.mk (blk_below (g := gb290) (o := .cells #[.int .i64 a0_0, .int .i64 a0_1, .int .i64 a0_2, .string a0_3] 28 (0, 0)) B10x2_ hb); replace HB := Aside0.mk (below_step B10x1_ hb); (try clear hb); (try clear hb2); (try clear hk); (try clear hi)) | ((with_reducible refine gate_callee (f := 36) rfl ?_); refine goesL_ (some 33) rfl rfl Try.func36 B10x17_ rfl #[.agg #[.int .i64 a1, .int .i64 a2, .int .i64 a3, .int .i64 0, .bool false, .string t291], .int .i64 8] rfl B10x3_ ?_; (with_reducible refine (impl_CutDgram.calls k a1 a2 a3 0 false t291 8 t293 false _ A7.out).mono ?_); rintro e w41 ⟨v294, rfl, ho0, hb⟩; refine ⟨_, rfl, ?_⟩; have HO295 := Aside0.mk (Kd.R_lower ho0 (below_size B10x1_)); replace BK290 := Aside0.mk (blk_below (g := gb290) (o := .cells #[.int .i64 a0_0, .int .i64 a0_1, .int .i64 a0_2, .string a0_3] 28 (0, 0)) B10x2_ hb); replace HB := Aside0.mk (below_step B10x1_ hb); (try clear hb); (try clear hb2); (try clear hk); (try clear hi); (try clear ho0)))
   go_ret2
   exact ⟨_, by first | rfl | (simp [errW_none, errW_some] <;> rfl) | (simp [*, errW_none, errW_some] <;> rfl), by first | exact Kd.R_nil _ _ _ _ _ | exact Kd.N_nil _ _ _ _ _ | exact Kd.V_nil _ _ _ _ _ | exact Kd.Q_nil _ _ _ _ _ | exact Kd.S_nil _ _ _ _ _, by repeat (first | (with_reducible first | exact HB.out | apply below_alloc | apply pw_below_drewN | apply below_drew1 | refine below_set ?_ GE290.out) | exact HB.out)⟩
 ·replace c6 := Bool.eq_false_iff.mpr c6
  subst c6
  rw [if_neg (show ¬ (false = true) by decide)] at H
  simp only [Option.some.injEq, Prod.mk.injEq] at H
  obtain ⟨rfl, rfl⟩ := H
  go_enter Try.func14, Try.ntmps14
  go_wp2_with (first | ((with_reducible refine gate_dst (N := 4) rfl ?_); refine box_event ?hg (N := 4) ?hd (cs := #[.int .i64 a0_0, .int .i64 a0_1, .int .i64 a0_2, .string a0_3]) (t := 28) ?hr ?_; (case hd => rfl); (case hg => rfl); (case hr => exact B10x16_); intro gb290 hg w42 hbox hb; have BK290 := Aside0.mk (hbox); have GW290 := Aside0.mk ((by rw [hg]; exact (below_size B10x0_) : w.heap.size ≤ gb290)); have GE290 := Aside0.mk ((by rw [hg]; exact (below_size B10x0_) : w.heap.size ≤ gb290)); replace HB := Aside0.mk (below_step B10x0_ hb); clear hb hbox hg; obtain ⟨hcz43_0, hcz43_1, hcz43_2, hcz43_3⟩ := cl4 BK290.out; obtain ⟨hfz43_0, hfz43_1, hfz43_2, hfz43_3⟩ := fr4 BK290.out) | ((with_reducible refine gate_callee (f := 62) rfl ?_); refine goesL_ (some 22) rfl rfl Try.func62 B10x17_ rfl #[.agg #[.int .i64 a0_0, .int .i64 a0_1, .int .i64 a0_2, .string a0_3]] rfl B10x3_ ?_; (with_reducible refine (impl_SegText.calls k a0_0 a0_1 a0_2 a0_3 t291 false _ A5.out).mono ?_); rintro e w44 ⟨rfl, hb⟩; refine ⟨_, rfl, ?_⟩; replace BK290 := Aside0.mk (blk_below (g := gb290) (o := .cells #[.int .i64 a0_0, .int .i64 a0_1, .int .i64 a0_2, .string a0_3] 28 (0, 0)) B10x2_ hb); replace HB := Aside0.mk (below_step B10x1_ hb); (try clear hb); (try clear hb2); (try clear hk); (try clear hi)))
  go_ret2
  exact ⟨_, by first | rfl | (simp [errW_none, errW_some] <;> rfl) | (simp [*, errW_none, errW_some] <;> rfl), by first | exact Kd.R_nil _ _ _ _ _ | exact Kd.N_nil _ _ _ _ _ | exact Kd.V_nil _ _ _ _ _ | exact Kd.Q_nil _ _ _ _ _ | exact Kd.S_nil _ _ _ _ _, by repeat (first | (with_reducible first | exact HB.out | apply below_alloc | apply pw_below_drewN | apply below_drew1 | refine below_set ?_ GE290.out) | exact HB.out)⟩

/-! ### laws_eqStringS: function 15 -/
def laws_eqStringS.l0 : Nat → List ByteArray → List ByteArray → Int → Option (Bool)
 | 0, _, _, _ => none
 | k + 1, x0, x1, x5 => if x5 < (x0.length : Int) then (if 0 ≤ x5 then (if x5 < (x1.length : Int) then (if (rdOf ByteArray.empty x0 x5).toList = (rdOf ByteArray.empty x1 x5).toList then (laws_eqStringS.l0 k x0 x1 (wrap64 (x5 + 1))) else (some false)) else (none)) else (none)) else (some true)
def laws_eqStringS.f (k : Nat) (l0 : List ByteArray) (l1 : List ByteArray) : Option (Bool) := if (l0.length : Int) = (l1.length : Int) then (laws_eqStringS.l0 k l0 l1 0) else (some false)
theorem laws_eqStringS.mono_l : ∀ k, (∀ y0 y1 y2, LeO (laws_eqStringS.l0 k y0 y1 y2) (laws_eqStringS.l0 (k + 1) y0 y1 y2))
 | 0 => fun _ _ _ r h => by simp [laws_eqStringS.l0] at h
 | k + 1 => by
  have ih0 := laws_eqStringS.mono_l k
  ·intro y0 y1 y2
   unfold laws_eqStringS.l0
   repeat' first
   | (with_reducible exact ih0 _ _ _)
   | (with_reducible exact LeO.refl _)
   | (with_reducible exact LeO.none _)
   | (with_reducible refine LeO.ite ?_ ?_)
   | (with_reducible refine LeO.bind ?_ (fun _ => ?_))
   | exact ih0 _ _ _
   | exact LeO.none _
   | refine LeO.ite ?_ ?_
   | refine LeO.bind ?_ (fun _ => ?_)
theorem laws_eqStringS.mono : ∀ a0 a1 k, LeO (laws_eqStringS.f k a0 a1) (laws_eqStringS.f (k + 1) a0 a1) := by
 intro a0 a1 k
 have ih0 := laws_eqStringS.mono_l k
 unfold laws_eqStringS.f
 repeat' first
   | (with_reducible exact ih0 _ _ _)
   | (with_reducible exact LeO.refl _)
   | (with_reducible exact LeO.none _)
   | (with_reducible refine LeO.ite ?_ ?_)
   | (with_reducible refine LeO.bind ?_ (fun _ => ?_))
   | exact ih0 _ _ _
   | exact LeO.none _
   | refine LeO.ite ?_ ?_
   | refine LeO.bind ?_ (fun _ => ?_)
set_option maxHeartbeats 8000000 in
set_option maxRecDepth 100000 in
theorem laws_eqStringS.calls (k : Nat) (A0 : Option Addr) (c0 : Nat) (l0 : List ByteArray) (A1 : Option Addr) (c1 : Nat) (l1 : List ByteArray) (r : Bool) (w : World) (hr0 : Kd.C Kd.string w A0 l0.length l0) (hc0 : l0.length ≤ c0) (hr1 : Kd.C Kd.string w A1 l1.length l1) (hc1 : l1.length ≤ c1) (h : laws_eqStringS.f k l0 l1 = some r) :
  Calls Try.prog 15 #[.slice A0 l0.length c0, .slice A1 l1.length c1] w fun e w' => e = .returned (.bool r) ∧ Drawn0 w w' := by
 have HR0 := Aside0.mk hr0
 have HC0 := Aside0.mk hc0
 clear hr0 hc0
 have HR1 := Aside0.mk hr1
 have HC1 := Aside0.mk hc1
 clear hr1 hc1
 have H : (if (l0.length : Int) = (l1.length : Int) then (laws_eqStringS.l0 k l0 l1 0) else (some false)) = some r := h
 clear h
 by_cases c3 : (l0.length : Int) = (l1.length : Int)
 ·rw [if_pos c3] at H
  have c3b0 : ((l0.length : Int) == (l1.length : Int)) = true := beq_iff_eq.mpr c3
  have c3b1 : ((l0.length : Int) != (l1.length : Int)) = false := bne_eq_false_iff_eq.mpr c3
  have c3b2 : (l0.length == l1.length) = true := by first | simpa using c3 | (simp at c3 ⊢; omega)
  clear c3
  have H' := Aside0.mk H
  clear H
  go_enter Try.func15, Try.ntmps15
  go_wp2
  repeat (go_quiet (fail); try go_wp2)
  go_loopg [5] k (fun kq v5 w' => ∃ (x5_1 : Int), v5 = .int .i64 x5_1 ∧ Aside0 (laws_eqStringS.l0 kq l0 l1 x5_1 = some r) ∧ Aside0 (kq ≤ k) ∧ Drawn0 w w')
  case atStart => exact ⟨(0), (be_), H', ⟨Nat.le_refl _⟩, by repeat (first | exact Drawn0.refl _ | apply Drawn0.step)⟩
  case round =>
   clear H'
   try clear c1
   try clear p2
   try clear c3
   try clear c3b0
   try clear c3b1
   try clear c3b2
   obtain ⟨x5_1, rfl, HA, HK1, ⟨m1, rfl⟩⟩ := hrel
   cases gk with
   | zero => exact absurd HA.out (by simp [laws_eqStringS.l0])
   | succ k1 =>
    have H := HA.out
    clear HA
    simp only [laws_eqStringS.l0] at H
    by_cases c4 : x5_1 < (l0.length : Int)
    ·rw [if_pos c4] at H
     have c4b0 : decide (x5_1 < (l0.length : Int)) = true := decide_eq_true c4
     clear c4
     by_cases c5 : 0 ≤ x5_1
     rotate_left
     ·rw [if_neg c5] at H
      exact absurd H (by simp)
     rw [if_pos c5] at H
     have c5b0 : decide (0 ≤ x5_1) = true := decide_eq_true c5
     clear c5
     by_cases c6 : x5_1 < (l1.length : Int)
     rotate_left
     ·rw [if_neg c6] at H
      exact absurd H (by simp)
     rw [if_pos c6] at H
     have c6b0 : decide (x5_1 < (l1.length : Int)) = true := decide_eq_true c6
     clear c6
     by_cases c7 : (rdOf ByteArray.empty l0 x5_1).toList = (rdOf ByteArray.empty l1 x5_1).toList
     ·rw [if_pos c7] at H
      have c7b0 : ((rdOf ByteArray.empty l0 x5_1).toList == (rdOf ByteArray.empty l1 x5_1).toList) = true := beq_iff_eq.mpr c7
      have c7b1 : ((rdOf ByteArray.empty l0 x5_1).toList != (rdOf ByteArray.empty l1 x5_1).toList) = false := bne_eq_false_iff_eq.mpr c7
      clear c7
      have H' := Aside0.mk H
      clear H
      have p309 : 0 ≤ (x5_1 : Int) := of_decide_eq_true B10x12_
      have q309 : x5_1 < (l0.length : Int) := of_decide_eq_true B10x12_
      obtain ⟨ad309, e309, hx309_0⟩ := Kd.at_string HR0.out x5_1 p309 q309
      cases e309
      replace p309 := eq_true p309
      replace q309 := eq_true q309
      have p310 : 0 ≤ (x5_1 : Int) := of_decide_eq_true B10x12_
      have q310 : x5_1 < (l1.length : Int) := of_decide_eq_true B10x12_
      obtain ⟨ad310, e310, hx310_0⟩ := Kd.at_string HR1.out x5_1 p310 q310
      cases e310
      replace p310 := eq_true p310
      replace q310 := eq_true q310
      go_wp2
      repeat (go_quiet (fail); try go_wp2)
      go_roundg k1
      case measure => have := HK1.out; omega
      case rel => exact ⟨(wrap64 (x5_1 + 1)), (be_), H', ⟨B10x22_⟩, by repeat (first | exact Drawn0.refl _ | apply Drawn0.step)⟩
     ·rw [if_neg c7] at H
      have c7b0 : ((rdOf ByteArray.empty l0 x5_1).toList == (rdOf ByteArray.empty l1 x5_1).toList) = false := beq_eq_false_iff_ne.mpr c7
      have c7b1 : ((rdOf ByteArray.empty l0 x5_1).toList != (rdOf ByteArray.empty l1 x5_1).toList) = true := bne_iff_ne.mpr c7
      obtain rfl := Option.some.inj H
      have p309 : 0 ≤ (x5_1 : Int) := of_decide_eq_true B10x12_
      have q309 : x5_1 < (l0.length : Int) := of_decide_eq_true B10x12_
      obtain ⟨ad309, e309, hx309_0⟩ := Kd.at_string HR0.out x5_1 p309 q309
      cases e309
      replace p309 := eq_true p309
      replace q309 := eq_true q309
      have p310 : 0 ≤ (x5_1 : Int) := of_decide_eq_true B10x12_
      have q310 : x5_1 < (l1.length : Int) := of_decide_eq_true B10x12_
      obtain ⟨ad310, e310, hx310_0⟩ := Kd.at_string HR1.out x5_1 p310 q310
      cases e310
      replace p310 := eq_true p310
      replace q310 := eq_true q310
      go_wp2
      repeat (go_quiet (fail); try go_wp2)
      go_ret
      exact ⟨B10x19_, B10x18_⟩
    ·rw [if_neg c4] at H
     have c4b0 : decide (x5_1 < (l0.length : Int)) = false := decide_eq_false c4
     clear c4
     obtain rfl := Option.some.inj H
     go_wp2
     repeat (go_quiet (fail); try go_wp2)
     go_ret
     exact ⟨B10x19_, B10x18_⟩
 ·rw [if_neg c3] at H
  have c3b0 : ((l0.length : Int) == (l1.length : Int)) = false := beq_eq_false_iff_ne.mpr c3
  have c3b1 : ((l0.length : Int) != (l1.length : Int)) = true := bne_iff_ne.mpr c3
  have c3b2 : (l0.length == l1.length) = false := by first | simpa using c3 | (simp at c3 ⊢; omega)
  obtain rfl := Option.some.inj H
  go_enter Try.func15, Try.ntmps15
  go_wp2
  repeat (go_quiet (fail); try go_wp2)
  go_ret
  exact ⟨B10x19_, B10x18_⟩

/-! ### laws_markText: function 65 -/
def laws_markText.l0 : Nat → Int → ByteArray → Option (ByteArray)
 | 0, _, _ => none
 | k + 1, x0, x3 => if x0 > 0 then ((some (([(wrap64 (48 + (Int.tmod x0 10))) % 256] : List Int) : List Int)).bind fun y311 => (if (strOfNums y311).size + x3.size ≤ 9223372036854775807 then (laws_markText.l0 k (wrap64 (Int.tdiv x0 10)) ((strOfNums y311) ++ x3)) else (none))) else (if 1 + x3.size ≤ 9223372036854775807 then (some ((⟨#[109]⟩ : ByteArray) ++ x3)) else (none))
def laws_markText.f (k : Nat) (a0 : Int) : Option (ByteArray) := if a0 ≤ 0 then (some (⟨#[109, 48]⟩ : ByteArray)) else (laws_markText.l0 k a0 (⟨#[]⟩ : ByteArray))
theorem laws_markText.mono_l : ∀ k, (∀ y0 y1, LeO (laws_markText.l0 k y0 y1) (laws_markText.l0 (k + 1) y0 y1))
 | 0 => fun _ _ r h => by simp [laws_markText.l0] at h
 | k + 1 => by
  have ih0 := laws_markText.mono_l k
  ·intro y0 y1
   unfold laws_markText.l0
   repeat' first
   | (with_reducible exact ih0 _ _)
   | (with_reducible exact LeO.refl _)
   | (with_reducible exact LeO.none _)
   | (with_reducible refine LeO.ite ?_ ?_)
   | (with_reducible refine LeO.bind ?_ (fun _ => ?_))
   | exact ih0 _ _
   | exact LeO.none _
   | refine LeO.ite ?_ ?_
   | refine LeO.bind ?_ (fun _ => ?_)
theorem laws_markText.mono : ∀ a0 k, LeO (laws_markText.f k a0) (laws_markText.f (k + 1) a0) := by
 intro a0 k
 have ih0 := laws_markText.mono_l k
 unfold laws_markText.f
 repeat' first
   | (with_reducible exact ih0 _ _)
   | (with_reducible exact LeO.refl _)
   | (with_reducible exact LeO.none _)
   | (with_reducible refine LeO.ite ?_ ?_)
   | (with_reducible refine LeO.bind ?_ (fun _ => ?_))
   | exact ih0 _ _
   | exact LeO.none _
   | refine LeO.ite ?_ ?_
   | refine LeO.bind ?_ (fun _ => ?_)
set_option maxHeartbeats 8000000 in
set_option maxRecDepth 100000 in
theorem laws_markText.calls (k : Nat) (a0 : Int) (r : ByteArray) (w : World) (h : laws_markText.f k a0 = some r) :
  Calls Try.prog 65 #[.int .i64 a0] w fun e w' => e = .returned (.string r) ∧ Below w.heap.size w w' := by
 have HB := Aside0.mk (Below.refl w.heap.size w)
 have H : (if a0 ≤ 0 then (some (⟨#[109, 48]⟩ : ByteArray)) else (laws_markText.l0 k a0 (⟨#[]⟩ : ByteArray))) = some r := h
 clear h
 by_cases c2 : a0 ≤ 0
 ·rw [if_pos c2] at H
  have c2b0 : decide (a0 ≤ 0) = true := decide_eq_true c2
  clear c2
  obtain rfl := Option.some.inj H
  go_enter Try.func65, Try.ntmps65
  go_wp2
  go_ret
  exact ⟨B10x13_, B10x0_⟩
 ·rw [if_neg c2] at H
  have c2b0 : decide (a0 ≤ 0) = false := decide_eq_false c2
  clear c2
  have H' := Aside0.mk H
  clear H
  go_enter Try.func65, Try.ntmps65
  go_wp2
  go_loopg [0, 3] k (fun kq v0 v3 w' => ∃ (x0_1 : Int) (x3_1 : ByteArray), v0 = .int .i64 x0_1 ∧ v3 = .string x3_1 ∧ Aside0 (laws_markText.l0 kq x0_1 x3_1 = some r) ∧ Aside0 (kq ≤ k) ∧ Aside0 (Below w.heap.size w w'))
  case atStart => exact ⟨(a0), ((⟨#[]⟩ : ByteArray)), (be_), (be_), H', ⟨Nat.le_refl _⟩, ⟨B10x0_⟩⟩
  case round =>
   clear H'
   try clear c2
   try clear c2b0
   try clear p2
   obtain ⟨x0_1, x3_1, rfl, rfl, HA, HK1, HB⟩ := hrel
   cases gk with
   | zero => exact absurd HA.out (by simp [laws_markText.l0])
   | succ k1 =>
    have H := HA.out
    clear HA
    simp only [laws_markText.l0] at H
    by_cases c3 : x0_1 > 0
    ·rw [if_pos c3] at H
     have c3b0 : decide (0 < x0_1) = true := decide_eq_true c3
     clear c3
     obtain ⟨y311, hy311⟩ : ∃ y_ : List Int, y_ = (([(wrap64 (48 + (Int.tmod x0_1 10))) % 256] : List Int)) := ⟨_, rfl⟩
     replace H : (if (strOfNums y311).size + x3_1.size ≤ 9223372036854775807 then (laws_markText.l0 k1 (wrap64 (Int.tdiv x0_1 10)) ((strOfNums y311) ++ x3_1)) else (none)) = some r := by first | (rw [hy311]; with_reducible exact H) | (have H2_ := (Option.bind_some _ _).symm.trans H; rw [hy311]; with_reducible exact H2_) | (have H2_ := (Option.bind_some _ _).symm.trans H; with_reducible exact H2_) | with_reducible exact H | (rw [hy311]; exact H) | exact H
     have Ny311 := Aside0.mk hy311
     clear hy311
     by_cases c4 : (strOfNums y311).size + x3_1.size ≤ 9223372036854775807
     rotate_left
     ·rw [if_neg c4] at H
      exact absurd H (by simp)
     rw [if_pos c4] at H
     have c4b0 := eq_true c4
     have c4b1 : decide ((strOfNums y311).size + x3_1.size ≤ 9223372036854775807) = true := decide_eq_true c4
     try have c4b2 : (9223372036854775807 < (strOfNums y311).size + x3_1.size) = False := eq_false (Nat.not_lt.2 c4)
     try (have c4b9 := c4b2; simp only [ByteArray.size_append] at c4b9)
     have H' := Aside0.mk H
     clear H
     go_wp2_with (first | ((with_reducible refine gate_dst (N := 12) rfl ?_); refine Kd.R_lit (Kd.int .u8) _ 5 ?hg (N := 12) ?hd (xs := ([(wrap64 (48 + (Int.tmod x0_1 10))) % 256] : List Int)) (inner := [.int .u8 ((wrap64 (48 + (Int.tmod x0_1 10))) % 256)]) (ok := fun _ => True) (okp := fun _ => True) ?hr ?hp (fun _ hk => hk) trivial (Below.refl _ _) (Nat.le_refl _) (by simp) ?_; (case hd => rfl); (case hg => rfl); (case hr => exact B10x16_); (case hp => exact (Reps.one (show Kd.M (Kd.int .u8) _ _ _ ((wrap64 (48 + (Int.tmod x0_1 10))) % 256) [.int .u8 ((wrap64 (48 + (Int.tmod x0_1 10))) % 256)] from rfl) (Reps.none _ _))); intro v312 w5 ho6 hb hg_ hnew_; clear hg_ hnew_; (first | rw [← Ny311.out] at ho6 | (simp only [Int.reduceToNat] at ho6; rw [← Ny311.out] at ho6)); have HO313 := Aside0.mk (Kd.R_lower ho6 (below_size B10x0_)); replace HB := Aside0.mk (below_step B10x0_ hb); clear hb ho6; have hcv7 := own_string (P := Try.prog) Try.underlying59 Try.underlying5 Try.underlying9 (Kd.own_of_R HO313.out)))
     go_roundg k1
     case measure => have := HK1.out; omega
     case rel => exact ⟨(wrap64 (Int.tdiv x0_1 10)), ((strOfNums y311) ++ x3_1), (be_), (be_), H', ⟨B10x22_⟩, ⟨B10x0_⟩⟩
    ·rw [if_neg c3] at H
     have c3b0 : decide (0 < x0_1) = false := decide_eq_false c3
     clear c3
     by_cases c8 : 1 + x3_1.size ≤ 9223372036854775807
     rotate_left
     ·rw [if_neg c8] at H
      exact absurd H (by simp)
     rw [if_pos c8] at H
     have c8b0 := eq_true c8
     have c8b1 : decide (1 + x3_1.size ≤ 9223372036854775807) = true := decide_eq_true c8
     try have c8b2 : (9223372036854775807 < 1 + x3_1.size) = False := eq_false (Nat.not_lt.2 c8)
     try (have c8b9 := c8b2; simp only [ByteArray.size_append] at c8b9)
     obtain rfl := Option.some.inj H
     go_wp2
     go_ret
     exact ⟨B10x13_, B10x0_⟩

end Go.Proofs.Ytmknnoeggkgkgaa.QFnExactWrap
