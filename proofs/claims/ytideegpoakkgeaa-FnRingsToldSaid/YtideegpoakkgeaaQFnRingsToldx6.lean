/- Functions that a law reaches, as functions of Lean, and the walks that show that the calls come to their answers: written by a program of this project out of the translation. No condition. -/
import Derived.Test.YtideegpoakkgeaaQFnRingsToldx0
import Derived.Test.YtideegpoakkgeaaQFnRingsToldx1
import Derived.Test.YtideegpoakkgeaaQFnRingsToldx5
import Derived.Test.YtideegpoakkgeaaVFnRingsToldShort3
import Derived.Test.YtideegpoakkgeaaVFnRingsToldShort2
import Derived.Test.YtideegpoakkgeaaVFnRingsToldShort
namespace Go.Proofs.Ytideegpoakkgeaa.QFnRingsTold
open Go.RowKit Go.Proofs.YtideegpoakkgeaaW.PrintWords Go.Proofs.YtideegpoakkgeaaW.PrintLast Go.Proofs.YtideegpoakkgeaaW.PrintMore Go.Proofs.Ytideegpoakkgeaa.Short
attribute [local go_sem] max2_int min2_int max_two min_two max_three min_three max_four min_four   -- for this text's walks alone
set_option linter.unusedVariables false
set_option linter.unusedSimpArgs false

attribute [local go_sem high] eqA105
theorem B6x0_ {p : Prop} (h : p := by first | exact Nat.ne_of_lt (Nat.lt_of_lt_of_le (by have := World.block_lt_of_cell? _ _ hw303_0; first | rwa [add_block] at this | exact this) GW304.out) | (rw [add_block]; exact Nat.ne_of_lt (Nat.lt_of_lt_of_le (by have := World.block_lt_of_cell? _ _ hw303_0; first | rwa [add_block] at this | exact this) GW304.out)) | (show (Addr.add _ _).block ≠ _; rw [add_block]; exact Nat.ne_of_lt (Nat.lt_of_lt_of_le (by have := World.block_lt_of_cell? _ _ hw303_0; first | rwa [add_block] at this | exact this) GW304.out)) | (dsimp only; exact Nat.ne_of_lt (Nat.lt_of_lt_of_le (by have := World.block_lt_of_cell? _ _ hw303_0; first | rwa [add_block] at this | exact this) GW304.out))) : p := h
theorem B6x1_ {p : Prop} (h : p := by first | exact Nat.ne_of_lt (Nat.lt_of_lt_of_le (by have := World.block_lt_of_cell? _ _ hw303_1; first | rwa [add_block] at this | exact this) GW304.out) | (rw [add_block]; exact Nat.ne_of_lt (Nat.lt_of_lt_of_le (by have := World.block_lt_of_cell? _ _ hw303_1; first | rwa [add_block] at this | exact this) GW304.out)) | (show (Addr.add _ _).block ≠ _; rw [add_block]; exact Nat.ne_of_lt (Nat.lt_of_lt_of_le (by have := World.block_lt_of_cell? _ _ hw303_1; first | rwa [add_block] at this | exact this) GW304.out)) | (dsimp only; exact Nat.ne_of_lt (Nat.lt_of_lt_of_le (by have := World.block_lt_of_cell? _ _ hw303_1; first | rwa [add_block] at this | exact this) GW304.out))) : p := h
theorem B6x2_ {p : Prop} (h : p := by repeat (first | (with_reducible first | exact HB.out | apply below_alloc | apply pw_below_drewN | apply below_drew1 | refine below_set ?_ GE298.out) | exact HB.out)) : p := h
theorem B6x3_ {p : Prop} (h : p := by (with_reducible repeat (first | refine blk_drewN ?_ _ | refine blk_drew ?_ | refine blk_alloc ?_ _)); exact BK298.out) : p := h
theorem B6x4_ {p : Prop} (h : p := by first | (with_reducible assumption) | assumption) : p := h
theorem B6x5_ {p : Prop} (h : p := by kernel_rfl) : p := h
theorem B6x6_ {p : Prop} (h : p := by (try simp only [List.map_toArray, List.map_cons, List.map_nil]); first | done | rfl | (simp only [List.length_drop, List.length_take]; rfl)) : p := h
theorem B6x7_ {p : Prop} (h : p := by repeat (first | (with_reducible first | exact HB.out | apply below_alloc | apply pw_below_drewN | apply below_drew1) | exact HB.out)) : p := h
/-! ### impl_RingOk: function 30 -/
mutual
def impl_RingOk.j0 : Nat → Int → Bool → List (S105) → Int → Int → Option (Bool)
 | 0, _, _, _, _, _ => none
 | k + 1, x3, x29, x299000, x299001, x299002 => if x29 = true then (some false) else (if x3 = 0 then (none) else (if (Int.tmod (wrap64 ((wrap64 (x299001 - x299002)) + x3)) x3) = 0 then (if 0 ≤ x299001 then (if x299001 < (x299000.length : Int) then (impl_RingOk.j1 k x3 (Int.tmod (wrap64 ((wrap64 (x299001 - x299002)) + x3)) x3) (((rd_T105 x299000 x299001).f0) == 1) x299000 x299001 x299002) else (none)) else (none)) else (impl_RingOk.j1 k x3 (Int.tmod (wrap64 ((wrap64 (x299001 - x299002)) + x3)) x3) false x299000 x299001 x299002)))
def impl_RingOk.j1 : Nat → Int → Int → Bool → List (S105) → Int → Int → Option (Bool)
 | 0, _, _, _, _, _, _ => none
 | k + 1, x3, x4, x50, x299000, x299001, x299002 => if x50 = true then (impl_RingOk.j2 k x3 x3 x299000 x299001 x299002) else (impl_RingOk.j2 k x3 x4 x299000 x299001 x299002)
def impl_RingOk.j2 : Nat → Int → Int → List (S105) → Int → Int → Option (Bool)
 | 0, _, _, _, _, _ => none
 | k + 1, x3, x4, x299000, x299001, x299002 => impl_RingOk.l0 k x3 x4 x3 0 x299000 x299001 x299002
def impl_RingOk.l0 : Nat → Int → Int → Int → Int → List (S105) → Int → Int → Option (Bool)
 | 0, _, _, _, _, _, _, _ => none
 | k + 1, x3, x4, x52, x53, x299000, x299001, x299002 => if x53 < x52 then (if x3 = 0 then (none) else (if 0 ≤ (Int.tmod (wrap64 (x299002 + x53)) x3) then (if (Int.tmod (wrap64 (x299002 + x53)) x3) < (x299000.length : Int) then (if ((rd_T105 x299000 (Int.tmod (wrap64 (x299002 + x53)) x3)).f0) = 1 then ((impl_within.f (((rd_T105 x299000 (Int.tmod (wrap64 (x299002 + x53)) x3)).f1).size : Int) 1 100).bind fun t305 => (if x53 < x4 then (if t305 = true then (if x53 ≥ x4 then (if (!(((rd_T105 x299000 (Int.tmod (wrap64 (x299002 + x53)) x3)).f0) == 0) || (!((((rd_T105 x299000 (Int.tmod (wrap64 (x299002 + x53)) x3)).f1).toList) == ([] : List UInt8)))) = true then (some false) else (impl_RingOk.l0 k x3 x4 x52 (wrap64 (x53 + 1)) x299000 x299001 x299002)) else (impl_RingOk.l0 k x3 x4 x52 (wrap64 (x53 + 1)) x299000 x299001 x299002)) else (some false)) else (if x53 ≥ x4 then (if (!(((rd_T105 x299000 (Int.tmod (wrap64 (x299002 + x53)) x3)).f0) == 0) || (!((((rd_T105 x299000 (Int.tmod (wrap64 (x299002 + x53)) x3)).f1).toList) == ([] : List UInt8)))) = true then (some false) else (impl_RingOk.l0 k x3 x4 x52 (wrap64 (x53 + 1)) x299000 x299001 x299002)) else (impl_RingOk.l0 k x3 x4 x52 (wrap64 (x53 + 1)) x299000 x299001 x299002)))) else (if x53 < x4 then (some false) else (if x53 ≥ x4 then (if (!(((rd_T105 x299000 (Int.tmod (wrap64 (x299002 + x53)) x3)).f0) == 0) || (!((((rd_T105 x299000 (Int.tmod (wrap64 (x299002 + x53)) x3)).f1).toList) == ([] : List UInt8)))) = true then (some false) else (impl_RingOk.l0 k x3 x4 x52 (wrap64 (x53 + 1)) x299000 x299001 x299002)) else (impl_RingOk.l0 k x3 x4 x52 (wrap64 (x53 + 1)) x299000 x299001 x299002)))) else (none)) else (none))) else (some true)
end
def impl_RingOk.f (k : Nat) (l0_0 : List (S105)) (a0_1 : Int) (a0_2 : Int) : Option (Bool) := (impl_within.f (l0_0.length : Int) 1 8).bind fun t299 => (if t299 = true then ((impl_within.f a0_1 0 (wrap64 ((l0_0.length : Int) - 1))).bind fun t300 => (if t300 = true then ((impl_within.f a0_2 0 (wrap64 ((l0_0.length : Int) - 1))).bind fun t301 => (impl_RingOk.j0 k (l0_0.length : Int) (!t301) l0_0 a0_1 a0_2)) else (impl_RingOk.j0 k (l0_0.length : Int) true l0_0 a0_1 a0_2))) else (impl_RingOk.j0 k (l0_0.length : Int) true l0_0 a0_1 a0_2))
theorem impl_RingOk.mono_l : ∀ k, (∀ y0 y1 y2 y3 y4, LeO (impl_RingOk.j0 k y0 y1 y2 y3 y4) (impl_RingOk.j0 (k + 1) y0 y1 y2 y3 y4)) ∧ (∀ y0 y1 y2 y3 y4 y5, LeO (impl_RingOk.j1 k y0 y1 y2 y3 y4 y5) (impl_RingOk.j1 (k + 1) y0 y1 y2 y3 y4 y5)) ∧ (∀ y0 y1 y2 y3 y4, LeO (impl_RingOk.j2 k y0 y1 y2 y3 y4) (impl_RingOk.j2 (k + 1) y0 y1 y2 y3 y4)) ∧ (∀ y0 y1 y2 y3 y4 y5 y6, LeO (impl_RingOk.l0 k y0 y1 y2 y3 y4 y5 y6) (impl_RingOk.l0 (k + 1) y0 y1 y2 y3 y4 y5 y6))
 | 0 => ⟨fun _ _ _ _ _ r h => by simp [impl_RingOk.j0] at h, fun _ _ _ _ _ _ r h => by simp [impl_RingOk.j1] at h, fun _ _ _ _ _ r h => by simp [impl_RingOk.j2] at h, fun _ _ _ _ _ _ _ r h => by simp [impl_RingOk.l0] at h⟩
 | k + 1 => by
  obtain ⟨ih0, ih1, ih2, ih3⟩ := impl_RingOk.mono_l k
  refine ⟨?_, ?_, ?_, ?_⟩
  ·intro y0 y1 y2 y3 y4
   unfold impl_RingOk.j0
   repeat' first
   | (with_reducible exact ih0 _ _ _ _ _)
   | (with_reducible exact ih1 _ _ _ _ _ _)
   | (with_reducible exact ih2 _ _ _ _ _)
   | (with_reducible exact ih3 _ _ _ _ _ _ _)
   | (with_reducible exact LeO.refl _)
   | (with_reducible exact LeO.none _)
   | (with_reducible refine LeO.ite ?_ ?_)
   | (with_reducible refine LeO.bind ?_ (fun _ => ?_))
   | exact ih0 _ _ _ _ _
   | exact ih1 _ _ _ _ _ _
   | exact ih2 _ _ _ _ _
   | exact ih3 _ _ _ _ _ _ _
   | exact LeO.none _
   | refine LeO.ite ?_ ?_
   | refine LeO.bind ?_ (fun _ => ?_)
  ·intro y0 y1 y2 y3 y4 y5
   unfold impl_RingOk.j1
   repeat' first
   | (with_reducible exact ih0 _ _ _ _ _)
   | (with_reducible exact ih1 _ _ _ _ _ _)
   | (with_reducible exact ih2 _ _ _ _ _)
   | (with_reducible exact ih3 _ _ _ _ _ _ _)
   | (with_reducible exact LeO.refl _)
   | (with_reducible exact LeO.none _)
   | (with_reducible refine LeO.ite ?_ ?_)
   | (with_reducible refine LeO.bind ?_ (fun _ => ?_))
   | exact ih0 _ _ _ _ _
   | exact ih1 _ _ _ _ _ _
   | exact ih2 _ _ _ _ _
   | exact ih3 _ _ _ _ _ _ _
   | exact LeO.none _
   | refine LeO.ite ?_ ?_
   | refine LeO.bind ?_ (fun _ => ?_)
  ·intro y0 y1 y2 y3 y4
   unfold impl_RingOk.j2
   repeat' first
   | (with_reducible exact ih0 _ _ _ _ _)
   | (with_reducible exact ih1 _ _ _ _ _ _)
   | (with_reducible exact ih2 _ _ _ _ _)
   | (with_reducible exact ih3 _ _ _ _ _ _ _)
   | (with_reducible exact LeO.refl _)
   | (with_reducible exact LeO.none _)
   | (with_reducible refine LeO.ite ?_ ?_)
   | (with_reducible refine LeO.bind ?_ (fun _ => ?_))
   | exact ih0 _ _ _ _ _
   | exact ih1 _ _ _ _ _ _
   | exact ih2 _ _ _ _ _
   | exact ih3 _ _ _ _ _ _ _
   | exact LeO.none _
   | refine LeO.ite ?_ ?_
   | refine LeO.bind ?_ (fun _ => ?_)
  ·intro y0 y1 y2 y3 y4 y5 y6
   unfold impl_RingOk.l0
   repeat' first
   | (with_reducible exact ih0 _ _ _ _ _)
   | (with_reducible exact ih1 _ _ _ _ _ _)
   | (with_reducible exact ih2 _ _ _ _ _)
   | (with_reducible exact ih3 _ _ _ _ _ _ _)
   | (with_reducible exact LeO.refl _)
   | (with_reducible exact LeO.none _)
   | (with_reducible refine LeO.ite ?_ ?_)
   | (with_reducible refine LeO.bind ?_ (fun _ => ?_))
   | exact ih0 _ _ _ _ _
   | exact ih1 _ _ _ _ _ _
   | exact ih2 _ _ _ _ _
   | exact ih3 _ _ _ _ _ _ _
   | exact LeO.none _
   | refine LeO.ite ?_ ?_
   | refine LeO.bind ?_ (fun _ => ?_)
theorem impl_RingOk.mono : ∀ a0 a1 a2 k, LeO (impl_RingOk.f k a0 a1 a2) (impl_RingOk.f (k + 1) a0 a1 a2) := by
 intro a0 a1 a2 k
 obtain ⟨ih0, ih1, ih2, ih3⟩ := impl_RingOk.mono_l k
 unfold impl_RingOk.f
 repeat' first
   | (with_reducible exact ih0 _ _ _ _ _)
   | (with_reducible exact ih1 _ _ _ _ _ _)
   | (with_reducible exact ih2 _ _ _ _ _)
   | (with_reducible exact ih3 _ _ _ _ _ _ _)
   | (with_reducible exact LeO.refl _)
   | (with_reducible exact LeO.none _)
   | (with_reducible refine LeO.ite ?_ ?_)
   | (with_reducible refine LeO.bind ?_ (fun _ => ?_))
   | exact ih0 _ _ _ _ _
   | exact ih1 _ _ _ _ _ _
   | exact ih2 _ _ _ _ _
   | exact ih3 _ _ _ _ _ _ _
   | exact LeO.none _
   | refine LeO.ite ?_ ?_
   | refine LeO.bind ?_ (fun _ => ?_)
def impl_RingOk.T10 : Bool × List (List Nat × List Nat) := (true, [([], []), ([0], [0]), ([], []), ([2], [2]), ([], []), ([3, 4], [3, 4]), ([], []), ([5, 6], [5, 6]), ([1, 7], [1, 7]), ([8], [8]), ([], []), ([10, 9, 0, 1, 2, 3, 4, 5, 6, 7, 8, 9, 10], [9, 10])])
def impl_RingOk.B10 : List Nat := [0, 1, 0, 4, 0, 28, 0, 124, 255, 511, 0, 2047]
theorem impl_RingOk.tab10 : rtab .any (opsOf Try.f30 10) = impl_RingOk.T10 := by kernel_rfl
theorem impl_RingOk.bits10 : waitsOk impl_RingOk.T10.2 impl_RingOk.B10 = true := by kernel_rfl
set_option maxHeartbeats 8000000 in
set_option maxRecDepth 100000 in
theorem impl_RingOk.calls (k : Nat) (A0_0 : Option Addr) (c0_0 : Nat) (l0_0 : List (S105)) (a0_1 : Int) (a0_2 : Int) (r : Bool) (w : World) (hr0_0 : Kd.C k105 w A0_0 l0_0.length l0_0) (hc0_0 : l0_0.length ≤ c0_0) (h : impl_RingOk.f k l0_0 a0_1 a0_2 = some r) :
  Calls Try.prog 30 #[.agg #[.slice A0_0 l0_0.length c0_0, .int .i64 a0_1, .int .i64 a0_2]] w fun e w' => e = .returned (.bool r) ∧ Below w.heap.size w w' := by
 have hu45 := Try.underlying45
 have hu105 := Try.underlying105
 have HR0_0 := Aside0.mk hr0_0
 have HC0_0 := Aside0.mk hc0_0
 clear hr0_0 hc0_0
 have HB := Aside0.mk (Below.refl w.heap.size w)
 have H : ((impl_within.f (l0_0.length : Int) 1 8).bind fun t299 => (if t299 = true then ((impl_within.f a0_1 0 (wrap64 ((l0_0.length : Int) - 1))).bind fun t300 => (if t300 = true then ((impl_within.f a0_2 0 (wrap64 ((l0_0.length : Int) - 1))).bind fun t301 => (impl_RingOk.j0 k (l0_0.length : Int) (!t301) l0_0 a0_1 a0_2)) else (impl_RingOk.j0 k (l0_0.length : Int) true l0_0 a0_1 a0_2))) else (impl_RingOk.j0 k (l0_0.length : Int) true l0_0 a0_1 a0_2))) = some r := h
 clear h
 have HC2 := Aside0.mk H
 clear H
 go_enter Try.func30, Try.ntmps30
 go_upto_region 2 with (first | ((with_reducible refine gate_dst (N := 1) rfl ?_); (try (refine gate_guard (by rfl) ?_; dsimp only)); refine box_event ?hg (N := 1) ?hd (cs := #[.slice A0_0 l0_0.length c0_0, .int .i64 a0_1, .int .i64 a0_2]) (t := 45) ?hr ?_; (case hd => rfl); (case hg => rfl); (case hr => first | (go_simp; done) | (go_simp; rfl)); intro gb298 hg w3 hbox hb; have n0_ := Aside0.mk (below_step B6x7_ hb); have n1_ := Aside0.mk (hbox); have n2_ := Aside0.mk ((by rw [hg]; exact (below_size B6x7_) : w.heap.size ≤ gb298)); have n3_ := Aside0.mk ((by rw [hg]; exact (below_size B6x7_) : w.heap.size ≤ gb298)); clear HB; have HB := n0_; have BK298 := n1_; have GW298 := n2_; have GE298 := n3_; clear n0_ n1_ n2_ n3_; clear hb hbox hg; obtain ⟨hcz4_0, hcz4_1, hcz4_2⟩ := cl3 BK298.out; obtain ⟨hfz4_0, hfz4_1, hfz4_2⟩ := fr3 BK298.out))
 (try simp only [Act.put, List.setIfInBounds_toArray, List.set_cons_zero, List.set_cons_succ])
 go_cut [29] (fun v29 wc => ∃ (kq : Nat) (x29_1 : Bool), v29 = .bool x29_1 ∧ Aside0 (impl_RingOk.j0 kq (l0_0.length : Int) x29_1 l0_0 a0_1 a0_2 = some r) ∧ Aside0 (kq ≤ k) ∧ Aside0 (wc.heap[gb298]? = some (.cells #[(.slice A0_0 l0_0.length c0_0), .int .i64 a0_1, .int .i64 a0_2] 45 (0, 0))) ∧ Aside0 (Below w.heap.size w wc))
 case first =>
  have H := HC2.out
  clear HC2
  replace H := Option.bind_eq_some_iff.mp H
  obtain ⟨t299, A50, H⟩ := H
  (try dsimp only at H)
  have A5 := Aside0.mk A50
  clear A50
  by_cases c6 : t299 = true
  ·subst c6
   rw [if_pos rfl] at H
   replace H := Option.bind_eq_some_iff.mp H
   obtain ⟨t300, A70, H⟩ := H
   (try dsimp only at H)
   have A7 := Aside0.mk A70
   clear A70
   by_cases c8 : t300 = true
   ·subst c8
    rw [if_pos rfl] at H
    replace H := Option.bind_eq_some_iff.mp H
    obtain ⟨t301, A90, H⟩ := H
    (try dsimp only at H)
    have A9 := Aside0.mk A90
    clear A90
    have H' := Aside0.mk H
    clear H
    go_wp2_with (first | ((with_reducible refine gate_callee (f := 59) rfl ?_); refine goesL_ (some 12) rfl rfl Try.func59 B6x5_ rfl #[.int .i64 (l0_0.length : Int), .int .i64 1, .int .i64 8] rfl B6x6_ ?_; (with_reducible refine (impl_within.calls (l0_0.length : Int) 1 8 true _ A5.out).mono ?_); rintro e w' ⟨rfl, ⟨nd, rfl⟩⟩; refine ⟨_, rfl, ?_⟩; obtain ⟨hcz10_0, hcz10_1, hcz10_2⟩ := cl3 BK298.out; obtain ⟨hfz10_0, hfz10_1, hfz10_2⟩ := fr3 BK298.out) | (go_at_call 59; (with_reducible refine (impl_within.calls a0_1 0 (wrap64 ((l0_0.length : Int) - 1)) true _ A7.out).mono ?_); rintro e w' ⟨rfl, ⟨nd, rfl⟩⟩) | (go_at_call 59; (with_reducible refine (impl_within.calls a0_2 0 (wrap64 ((l0_0.length : Int) - 1)) t301 _ A9.out).mono ?_); rintro e w' ⟨rfl, ⟨nd, rfl⟩⟩))
    go_meet
    case rel => exact ⟨_, (!t301), (be_), H', ⟨by first | omega | exact Nat.le_refl _⟩, ⟨by (with_reducible repeat (first | refine blk_drewN ?_ _ | refine blk_drew ?_ | refine blk_alloc ?_ _)); exact BK298.out⟩, ⟨by repeat (first | (with_reducible first | exact HB.out | apply below_alloc | apply pw_below_drewN | apply below_drew1 | refine below_set ?_ GE298.out) | exact HB.out)⟩⟩
   ·replace c8 := Bool.eq_false_iff.mpr c8
    subst c8
    rw [if_neg (show ¬ (false = true) by decide)] at H
    have H' := Aside0.mk H
    clear H
    go_wp2_with (first | ((with_reducible refine gate_callee (f := 59) rfl ?_); refine goesL_ (some 12) rfl rfl Try.func59 B6x5_ rfl #[.int .i64 (l0_0.length : Int), .int .i64 1, .int .i64 8] rfl B6x6_ ?_; (with_reducible refine (impl_within.calls (l0_0.length : Int) 1 8 true _ A5.out).mono ?_); rintro e w' ⟨rfl, ⟨nd, rfl⟩⟩; refine ⟨_, rfl, ?_⟩; obtain ⟨hcz11_0, hcz11_1, hcz11_2⟩ := cl3 BK298.out; obtain ⟨hfz11_0, hfz11_1, hfz11_2⟩ := fr3 BK298.out) | (go_at_call 59; (with_reducible refine (impl_within.calls a0_1 0 (wrap64 ((l0_0.length : Int) - 1)) false _ A7.out).mono ?_); rintro e w' ⟨rfl, ⟨nd, rfl⟩⟩))
    go_meet
    case rel => exact ⟨_, (true), (be_), H', ⟨by first | omega | exact Nat.le_refl _⟩, ⟨by (with_reducible repeat (first | refine blk_drewN ?_ _ | refine blk_drew ?_ | refine blk_alloc ?_ _)); exact BK298.out⟩, ⟨by repeat (first | (with_reducible first | exact HB.out | apply below_alloc | apply pw_below_drewN | apply below_drew1 | refine below_set ?_ GE298.out) | exact HB.out)⟩⟩
  ·replace c6 := Bool.eq_false_iff.mpr c6
   subst c6
   rw [if_neg (show ¬ (false = true) by decide)] at H
   have H' := Aside0.mk H
   clear H
   go_wp2_with (first | ((with_reducible refine gate_callee (f := 59) rfl ?_); refine goesL_ (some 12) rfl rfl Try.func59 B6x5_ rfl #[.int .i64 (l0_0.length : Int), .int .i64 1, .int .i64 8] rfl B6x6_ ?_; (with_reducible refine (impl_within.calls (l0_0.length : Int) 1 8 false _ A5.out).mono ?_); rintro e w' ⟨rfl, ⟨nd, rfl⟩⟩; refine ⟨_, rfl, ?_⟩))
   go_meet
   case rel => exact ⟨_, (true), (be_), H', ⟨by first | omega | exact Nat.le_refl _⟩, ⟨by (with_reducible repeat (first | refine blk_drewN ?_ _ | refine blk_drew ?_ | refine blk_alloc ?_ _)); exact BK298.out⟩, ⟨by repeat (first | (with_reducible first | exact HB.out | apply below_alloc | apply pw_below_drewN | apply below_drew1 | refine below_set ?_ GE298.out) | exact HB.out)⟩⟩
 case rest =>
  clear HC2
  try clear p2
  try clear c3
  try clear c5
  try clear c6
  try clear p6
  try clear c8
  try clear hcz10_0
  try clear hcz10_1
  try clear hcz10_2
  try clear hcz11_0
  try clear hcz11_1
  try clear hcz11_2
  try clear hcz4_0
  try clear hcz4_1
  try clear hcz4_2
  try clear hfz10_0
  try clear hfz10_1
  try clear hfz10_2
  try clear hfz11_0
  try clear hfz11_1
  try clear hfz11_2
  try clear hfz4_0
  try clear hfz4_1
  try clear hfz4_2
  obtain ⟨kq, x29_1, rfl, HA, HJ1, BK298, HB⟩ := hcut
  cases kq with
  | zero => exact absurd HA.out (by simp [impl_RingOk.j0])
  | succ kj1 =>
   have H := HA.out
   clear HA
   simp only [impl_RingOk.j0] at H
   by_cases c12 : x29_1 = true
   ·subst c12
    rw [if_pos rfl] at H
    obtain rfl := Option.some.inj H
    go_wp2
    go_ret
    exact ⟨by first | rfl | (simp [errW_none, errW_some] <;> rfl) | (simp [*, errW_none, errW_some] <;> rfl), by repeat (first | (with_reducible first | exact HB.out | apply below_alloc | apply pw_below_drewN | apply below_drew1 | refine below_set ?_ GE298.out) | exact HB.out)⟩
   ·replace c12 := Bool.eq_false_iff.mpr c12
    subst c12
    rw [if_neg (show ¬ (false = true) by decide)] at H
    by_cases c13 : (l0_0.length : Int) = 0
    ·rw [if_pos c13] at H
     exact absurd H (by simp)
    ·rw [if_neg c13] at H
     have c13b0 : ((l0_0.length : Int) == 0) = false := beq_eq_false_iff_ne.mpr c13
     have c13b1 : ((l0_0.length : Int) != 0) = true := bne_iff_ne.mpr c13
     have c13b2 : ¬ (l0_0 = []) := fun h_ => c13 (by rw [h_]; rfl)
     have HC14 := Aside0.mk H
     clear H
     obtain ⟨hcz15_0, hcz15_1, hcz15_2⟩ := cl3 BK298.out
     obtain ⟨hfz15_0, hfz15_1, hfz15_2⟩ := fr3 BK298.out
     go_upto_region 5 with (fail)
     go_cut [50] (fun v50 wc => ∃ (kq : Nat) (x50_13 : Bool), v50 = .bool x50_13 ∧ Aside0 (impl_RingOk.j1 kq (l0_0.length : Int) (Int.tmod (wrap64 ((wrap64 (a0_1 - a0_2)) + (l0_0.length : Int))) (l0_0.length : Int)) x50_13 l0_0 a0_1 a0_2 = some r) ∧ Aside0 (kq ≤ kj1) ∧ Aside0 (wc.heap[gb298]? = some (.cells #[(.slice A0_0 l0_0.length c0_0), .int .i64 a0_1, .int .i64 a0_2] 45 (0, 0))) ∧ Aside0 (Below w.heap.size w wc))
     case first =>
      have H := HC14.out
      clear HC14
      by_cases c16 : (Int.tmod (wrap64 ((wrap64 (a0_1 - a0_2)) + (l0_0.length : Int))) (l0_0.length : Int)) = 0
      ·rw [if_pos c16] at H
       have c16b0 : ((Int.tmod (wrap64 ((wrap64 (a0_1 - a0_2)) + (l0_0.length : Int))) (l0_0.length : Int)) == 0) = true := beq_iff_eq.mpr c16
       have c16b1 : ((Int.tmod (wrap64 ((wrap64 (a0_1 - a0_2)) + (l0_0.length : Int))) (l0_0.length : Int)) != 0) = false := bne_eq_false_iff_eq.mpr c16
       clear c16
       (first | rw [c16b0] | (simp only [i64_w, i32_w]; rw [c16b0]) | skip)
       by_cases c17 : 0 ≤ a0_1
       ·rw [if_pos c17] at H
        have c17b0 : decide (0 ≤ a0_1) = true := decide_eq_true c17
        clear c17
        by_cases c18 : a0_1 < (l0_0.length : Int)
        ·rw [if_pos c18] at H
         have c18b0 : decide (a0_1 < (l0_0.length : Int)) = true := decide_eq_true c18
         clear c18
         have H' := Aside0.mk H
         clear H
         obtain ⟨hcz19_0, hcz19_1, hcz19_2⟩ := cl3 BK298.out
         obtain ⟨hfz19_0, hfz19_1, hfz19_2⟩ := fr3 BK298.out
         have p302 : 0 ≤ (a0_1 : Int) := of_decide_eq_true B6x4_
         have q302 : a0_1 < (l0_0.length : Int) := of_decide_eq_true B6x4_
         obtain ⟨ad302, e302, hx302_0, hx302_1⟩ := at_T105 HR0_0.out a0_1 p302 q302
         cases e302
         replace hx302_0 := (HB.out.cell (World.block_lt_of_cell? w _ hx302_0)).trans hx302_0
         replace hx302_1 := (HB.out.cell (World.block_lt_of_cell? w _ hx302_1)).trans hx302_1
         replace p302 := eq_true p302
         replace q302 := eq_true q302
         go_wp2
         go_meet
         case rel => exact ⟨_, ((((rd_T105 l0_0 a0_1).f0) == 1)), (be_), H', ⟨by have := HJ1.out; first | omega | exact Nat.le_refl _⟩, ⟨by (with_reducible repeat (first | refine blk_drewN ?_ _ | refine blk_drew ?_ | refine blk_alloc ?_ _)); exact BK298.out⟩, ⟨by repeat (first | (with_reducible first | exact HB.out | apply below_alloc | apply pw_below_drewN | apply below_drew1 | refine below_set ?_ GE298.out) | exact HB.out)⟩⟩
        ·rw [if_neg c18] at H
         exact absurd H (by simp)
       ·rw [if_neg c17] at H
        exact absurd H (by simp)
      ·rw [if_neg c16] at H
       have c16b0 : ((Int.tmod (wrap64 ((wrap64 (a0_1 - a0_2)) + (l0_0.length : Int))) (l0_0.length : Int)) == 0) = false := beq_eq_false_iff_ne.mpr c16
       have c16b1 : ((Int.tmod (wrap64 ((wrap64 (a0_1 - a0_2)) + (l0_0.length : Int))) (l0_0.length : Int)) != 0) = true := bne_iff_ne.mpr c16
       (first | rw [c16b0] | (simp only [i64_w, i32_w]; rw [c16b0]) | skip)
       have H' := Aside0.mk H
       clear H
       go_wp2
       go_meet
       case rel => exact ⟨_, (false), (be_), H', ⟨by have := HJ1.out; first | omega | exact Nat.le_refl _⟩, ⟨by (with_reducible repeat (first | refine blk_drewN ?_ _ | refine blk_drew ?_ | refine blk_alloc ?_ _)); exact BK298.out⟩, ⟨by repeat (first | (with_reducible first | exact HB.out | apply below_alloc | apply pw_below_drewN | apply below_drew1 | refine below_set ?_ GE298.out) | exact HB.out)⟩⟩
     case rest =>
      clear HC14
      try clear c1
      try clear p2
      try clear c3
      try clear p3
      try clear q3
      try clear hx3
      try clear c5
      try clear c6
      try clear p6
      try clear c8
      try clear c12
      try clear c13
      try clear c13b0
      try clear c13b1
      try clear c13b2
      try clear c16
      try clear c16b0
      try clear c16b1
      try clear c17
      try clear c17b0
      try clear c18
      try clear c18b0
      try clear hcz10_0
      try clear hcz10_1
      try clear hcz10_2
      try clear hcz11_0
      try clear hcz11_1
      try clear hcz11_2
      try clear hcz15_0
      try clear hcz15_1
      try clear hcz15_2
      try clear hcz19_0
      try clear hcz19_1
      try clear hcz19_2
      try clear hcz4_0
      try clear hcz4_1
      try clear hcz4_2
      try clear hfz10_0
      try clear hfz10_1
      try clear hfz10_2
      try clear hfz11_0
      try clear hfz11_1
      try clear hfz11_2
      try clear hfz15_0
      try clear hfz15_1
      try clear hfz15_2
      try clear hfz19_0
      try clear hfz19_1
      try clear hfz19_2
      try clear hfz4_0
      try clear hfz4_1
      try clear hfz4_2
      try clear hx302_0
      try clear hx302_1
      try clear p2
      try clear p302
      try clear p6
      try clear q302
      obtain ⟨kq, x50_13, rfl, HA, HJ13, BK298, HB⟩ := hcut
      cases kq with
      | zero => exact absurd HA.out (by simp [impl_RingOk.j1])
      | succ kj13 =>
       have H := HA.out
       clear HA
       simp only [impl_RingOk.j1] at H
       have HC20 := Aside0.mk H
       clear H
       go_upto_if 50 with (fail)
       go_cut [4] (fun v4 wc => ∃ (kq : Nat) (x4_19 : Int), v4 = .int .i64 x4_19 ∧ Aside0 (impl_RingOk.j2 kq (l0_0.length : Int) x4_19 l0_0 a0_1 a0_2 = some r) ∧ Aside0 (kq ≤ kj13) ∧ Aside0 (wc.heap[gb298]? = some (.cells #[(.slice A0_0 l0_0.length c0_0), .int .i64 a0_1, .int .i64 a0_2] 45 (0, 0))) ∧ Aside0 (Below w.heap.size w wc))
       case first =>
        have H := HC20.out
        clear HC20
        by_cases c21 : x50_13 = true
        ·subst c21
         rw [if_pos rfl] at H
         have H' := Aside0.mk H
         clear H
         go_wp2
         go_meet
         case rel => exact ⟨_, ((l0_0.length : Int)), (be_), H', ⟨by have := HJ1.out; have := HJ13.out; first | omega | exact Nat.le_refl _⟩, ⟨by (with_reducible repeat (first | refine blk_drewN ?_ _ | refine blk_drew ?_ | refine blk_alloc ?_ _)); exact BK298.out⟩, ⟨by repeat (first | (with_reducible first | exact HB.out | apply below_alloc | apply pw_below_drewN | apply below_drew1 | refine below_set ?_ GE298.out) | exact HB.out)⟩⟩
        ·replace c21 := Bool.eq_false_iff.mpr c21
         subst c21
         rw [if_neg (show ¬ (false = true) by decide)] at H
         have H' := Aside0.mk H
         clear H
         go_wp2
         go_meet
         case rel => exact ⟨_, ((Int.tmod (wrap64 ((wrap64 (a0_1 - a0_2)) + (l0_0.length : Int))) (l0_0.length : Int))), (be_), H', ⟨by have := HJ1.out; have := HJ13.out; first | omega | exact Nat.le_refl _⟩, ⟨by (with_reducible repeat (first | refine blk_drewN ?_ _ | refine blk_drew ?_ | refine blk_alloc ?_ _)); exact BK298.out⟩, ⟨by repeat (first | (with_reducible first | exact HB.out | apply below_alloc | apply pw_below_drewN | apply below_drew1 | refine below_set ?_ GE298.out) | exact HB.out)⟩⟩
       case rest =>
        clear HC20
        try clear c1
        try clear c2
        try clear p2
        try clear c3
        try clear p3
        try clear q3
        try clear hx3
        try clear c5
        try clear c6
        try clear p6
        try clear c8
        try clear c12
        try clear c13
        try clear c13b0
        try clear c13b1
        try clear c13b2
        try clear c16
        try clear c16b0
        try clear c16b1
        try clear c17
        try clear c17b0
        try clear c18
        try clear c18b0
        try clear c21
        try clear hcz10_0
        try clear hcz10_1
        try clear hcz10_2
        try clear hcz11_0
        try clear hcz11_1
        try clear hcz11_2
        try clear hcz15_0
        try clear hcz15_1
        try clear hcz15_2
        try clear hcz19_0
        try clear hcz19_1
        try clear hcz19_2
        try clear hcz4_0
        try clear hcz4_1
        try clear hcz4_2
        try clear hfz10_0
        try clear hfz10_1
        try clear hfz10_2
        try clear hfz11_0
        try clear hfz11_1
        try clear hfz11_2
        try clear hfz15_0
        try clear hfz15_1
        try clear hfz15_2
        try clear hfz19_0
        try clear hfz19_1
        try clear hfz19_2
        try clear hfz4_0
        try clear hfz4_1
        try clear hfz4_2
        try clear hx302_0
        try clear hx302_1
        try clear p2
        try clear p3
        try clear p302
        try clear p6
        try clear q3
        try clear q302
        obtain ⟨kq, x4_19, rfl, HA, HJ19, BK298, HB⟩ := hcut
        cases kq with
        | zero => exact absurd HA.out (by simp [impl_RingOk.j2])
        | succ kj19 =>
         have H := HA.out
         clear HA
         simp only [impl_RingOk.j2] at H
         have H' := Aside0.mk H
         clear H
         go_wp2
         go_loopg [53] kj19 (fun kq v53 w' => ∃ (x53_4 : Int), v53 = .int .i64 x53_4 ∧ Aside0 (impl_RingOk.l0 kq (l0_0.length : Int) x4_19 (l0_0.length : Int) x53_4 l0_0 a0_1 a0_2 = some r) ∧ Aside0 (kq ≤ kj19) ∧ Aside0 (w'.heap[gb298]? = some (.cells #[(.slice A0_0 l0_0.length c0_0), .int .i64 a0_1, .int .i64 a0_2] 45 (0, 0))) ∧ Aside0 (Below w.heap.size w w'))
         case atStart => exact ⟨(0), (be_), H', ⟨Nat.le_refl _⟩, ⟨by (with_reducible repeat (first | refine blk_drewN ?_ _ | refine blk_drew ?_ | refine blk_alloc ?_ _)); exact BK298.out⟩, ⟨by repeat (first | (with_reducible first | exact HB.out | apply below_alloc | apply pw_below_drewN | apply below_drew1 | refine below_set ?_ GE298.out) | exact HB.out)⟩⟩
         case round =>
          clear H'
          try clear c1
          try clear c2
          try clear p2
          try clear c3
          try clear p3
          try clear q3
          try clear hx3
          try clear c5
          try clear c6
          try clear p6
          try clear c8
          try clear c12
          try clear c13
          try clear c13b0
          try clear c13b1
          try clear c13b2
          try clear c16
          try clear c16b0
          try clear c16b1
          try clear c17
          try clear c17b0
          try clear c18
          try clear c18b0
          try clear c21
          try clear hcz10_0
          try clear hcz10_1
          try clear hcz10_2
          try clear hcz11_0
          try clear hcz11_1
          try clear hcz11_2
          try clear hcz15_0
          try clear hcz15_1
          try clear hcz15_2
          try clear hcz19_0
          try clear hcz19_1
          try clear hcz19_2
          try clear hcz4_0
          try clear hcz4_1
          try clear hcz4_2
          try clear hfz10_0
          try clear hfz10_1
          try clear hfz10_2
          try clear hfz11_0
          try clear hfz11_1
          try clear hfz11_2
          try clear hfz15_0
          try clear hfz15_1
          try clear hfz15_2
          try clear hfz19_0
          try clear hfz19_1
          try clear hfz19_2
          try clear hfz4_0
          try clear hfz4_1
          try clear hfz4_2
          try clear hx302_0
          try clear hx302_1
          try clear p2
          try clear p3
          try clear p302
          try clear p6
          try clear q3
          try clear q302
          obtain ⟨x53_4, rfl, HA, HK4, BK298, HB⟩ := hrel
          cases gk with
          | zero => exact absurd HA.out (by simp [impl_RingOk.l0])
          | succ k4 =>
           have H := HA.out
           clear HA
           simp only [impl_RingOk.l0] at H
           by_cases c22 : x53_4 < (l0_0.length : Int)
           ·rw [if_pos c22] at H
            have c22b0 : decide (x53_4 < (l0_0.length : Int)) = true := decide_eq_true c22
            clear c22
            by_cases c23 : (l0_0.length : Int) = 0
            ·rw [if_pos c23] at H
             exact absurd H (by simp)
            ·rw [if_neg c23] at H
             have c23b0 : ((l0_0.length : Int) == 0) = false := beq_eq_false_iff_ne.mpr c23
             have c23b1 : ((l0_0.length : Int) != 0) = true := bne_iff_ne.mpr c23
             have c23b2 : ¬ (l0_0 = []) := fun h_ => c23 (by rw [h_]; rfl)
             obtain ⟨ji24, hji24⟩ : ∃ j_ : Int, (Int.tmod (wrap64 (a0_2 + x53_4)) (l0_0.length : Int)) = j_ := ⟨_, rfl⟩
             replace H : (if 0 ≤ (ji24) then (if (ji24) < (l0_0.length : Int) then (if ((rd_T105 l0_0 (ji24)).f0) = 1 then ((impl_within.f (((rd_T105 l0_0 (ji24)).f1).size : Int) 1 100).bind fun t305 => (if x53_4 < x4_19 then (if t305 = true then (if x53_4 ≥ x4_19 then (if (!(((rd_T105 l0_0 (ji24)).f0) == 0) || (!((((rd_T105 l0_0 (ji24)).f1).toList) == ([] : List UInt8)))) = true then (some false) else (impl_RingOk.l0 k4 (l0_0.length : Int) x4_19 (l0_0.length : Int) (wrap64 (x53_4 + 1)) l0_0 a0_1 a0_2)) else (impl_RingOk.l0 k4 (l0_0.length : Int) x4_19 (l0_0.length : Int) (wrap64 (x53_4 + 1)) l0_0 a0_1 a0_2)) else (some false)) else (if x53_4 ≥ x4_19 then (if (!(((rd_T105 l0_0 (ji24)).f0) == 0) || (!((((rd_T105 l0_0 (ji24)).f1).toList) == ([] : List UInt8)))) = true then (some false) else (impl_RingOk.l0 k4 (l0_0.length : Int) x4_19 (l0_0.length : Int) (wrap64 (x53_4 + 1)) l0_0 a0_1 a0_2)) else (impl_RingOk.l0 k4 (l0_0.length : Int) x4_19 (l0_0.length : Int) (wrap64 (x53_4 + 1)) l0_0 a0_1 a0_2)))) else (if x53_4 < x4_19 then (some false) else (if x53_4 ≥ x4_19 then (if (!(((rd_T105 l0_0 (ji24)).f0) == 0) || (!((((rd_T105 l0_0 (ji24)).f1).toList) == ([] : List UInt8)))) = true then (some false) else (impl_RingOk.l0 k4 (l0_0.length : Int) x4_19 (l0_0.length : Int) (wrap64 (x53_4 + 1)) l0_0 a0_1 a0_2)) else (impl_RingOk.l0 k4 (l0_0.length : Int) x4_19 (l0_0.length : Int) (wrap64 (x53_4 + 1)) l0_0 a0_1 a0_2)))) else (none)) else (none)) = some r := by first | (rw [hji24] at H; exact H) | (simp only [hji24] at H ⊢; exact H)
             by_cases c25 : 0 ≤ (ji24)
             ·rw [if_pos c25] at H
              have c25b0 : decide (0 ≤ (ji24)) = true := decide_eq_true c25
              clear c25
              by_cases c26 : (ji24) < (l0_0.length : Int)
              ·rw [if_pos c26] at H
               have c26b0 : decide ((ji24) < (l0_0.length : Int)) = true := decide_eq_true c26
               clear c26
               by_cases c27 : ((rd_T105 l0_0 (ji24)).f0) = 1
               ·rw [if_pos c27] at H
                have c27b0 : (((rd_T105 l0_0 (ji24)).f0) == 1) = true := beq_iff_eq.mpr c27
                have c27b1 : (((rd_T105 l0_0 (ji24)).f0) != 1) = false := bne_eq_false_iff_eq.mpr c27
                clear c27
                replace H := Option.bind_eq_some_iff.mp H
                obtain ⟨t305, A280, H⟩ := H
                (try dsimp only at H)
                have A28 := Aside0.mk A280
                clear A280
                by_cases c29 : x53_4 < x4_19
                ·rw [if_pos c29] at H
                 have c29b0 : decide (x53_4 < x4_19) = true := decide_eq_true c29
                 clear c29
                 by_cases c30 : t305 = true
                 ·subst c30
                  rw [if_pos rfl] at H
                  by_cases c31 : x53_4 ≥ x4_19
                  ·exact absurd H (by exfalso; (try have h0_ := of_decide_eq_true c29b0); (try have g0_ := c29); omega)
                  ·rw [if_neg c31] at H
                   have c31b0 : decide (x4_19 ≤ x53_4) = false := decide_eq_false c31
                   clear c31
                   have H' := Aside0.mk H
                   clear H
                   try go_wp2
                   have n0_ := Aside0.mk (blk_drew BK298.out)
                   have n1_ := Aside0.mk (below_drew1 HB.out)
                   clear BK298
                   clear HB
                   have BK298 := n0_
                   have HB := n1_
                   clear n0_ n1_
                   have p303 : 0 ≤ ((ji24) : Int) := of_decide_eq_true B6x4_
                   have q303 : (ji24) < (l0_0.length : Int) := of_decide_eq_true B6x4_
                   obtain ⟨ad303, e303, hx303_0, hx303_1⟩ := at_T105 HR0_0.out (ji24) p303 q303
                   have hw303_1 := hx303_1
                   have hw303_0 := hx303_0
                   cases e303
                   replace hx303_0 := (HB.out.cell (World.block_lt_of_cell? w _ hx303_0)).trans hx303_0
                   replace hx303_1 := (HB.out.cell (World.block_lt_of_cell? w _ hx303_1)).trans hx303_1
                   replace p303 := eq_true p303
                   replace q303 := eq_true q303
                   refine start_ (n := 12) (S := fun w' => w'.cell? ⟨gb298, 0, none⟩ = some (.slice (some ad303) l0_0.length c0_0) ∧ w'.cell? ⟨gb298, 1, none⟩ = some (.int .i64 a0_1) ∧ w'.cell? ⟨gb298, 2, none⟩ = some (.int .i64 a0_2) ∧ w'.cell? (ad303.add (((ji24)).toNat * 2)) = some (.int .i64 ((rd_T105 l0_0 (ji24)).f0)) ∧ w'.cell? ⟨(ad303.add (((ji24)).toNat * 2)).block, (ad303.add (((ji24)).toNat * 2)).off + 1, none⟩ = some (.string ((rd_T105 l0_0 (ji24)).f1))) (ds := []) #[false, false, false, false, false, false, false, false, false, false, false, false] B6x5_ rfl rfl ⟨(blk_cell BK298.out 0).trans rfl, (blk_cell BK298.out 1).trans rfl, (blk_cell BK298.out 2).trans rfl, ((HB.out.cell (World.block_lt_of_cell? w _ hw303_0)).trans hw303_0), ((HB.out.cell (World.block_lt_of_cell? w _ hw303_1)).trans hw303_1)⟩ (fun hHeld => ?_); refine with_tabW impl_RingOk.tab10 impl_RingOk.bits10 (fun HT_ HW_ => ?_)
                   generalize wr.drew = w45 at BK298 HB hx303_0 hx303_1 hHeld ⊢
                   refine pu_ 0 56 HT_ ?_
                   refine pu_ 2 58 HT_ ?_
                   refine pu_ 4 60 HT_ ?_
                   refine pu_ 6 62 HT_ ?_
                   refine ta_ 1 57 HT_ HW_ hHeld ?_
                   refine ta_ 3 59 HT_ HW_ hHeld ?_
                   refine pu_ 5 61 HT_ ?_
                   refine pu_ 7 63 HT_ ?_
                   refine pu_ 8 64 HT_ ?_
                   refine ta_ 9 65 HT_ HW_ hHeld ?_
                   refine one_ (i := 10) (N := some 6) #[true, true, true, true, true, true, true, true, true, true, true, false] rfl rfl (one_of HT_.out B6x5_) (by decide) (fun K hK => ?_)
                   refine box_step ?hg (N := 6) ?hd (cs := #[.int .i64 0, .string (⟨#[]⟩ : ByteArray)]) (t := 105) ?hr ?_; (case hd => rfl); (case hg => rfl); (case hr => first | (go_simp; done) | (go_simp; rfl))
                   intro gb304 hg w46 hbox hb
                   have n0_ := Aside0.mk (blk_below (g := gb298) (o := .cells #[.slice (some ad303) l0_0.length c0_0, .int .i64 a0_1, .int .i64 a0_2] 45 (0, 0)) B6x3_ hb)
                   have n1_ := Aside0.mk (below_step B6x2_ hb)
                   have n2_ := Aside0.mk (hbox)
                   have n3_ := Aside0.mk ((by rw [hg]; exact (below_size B6x2_) : w.heap.size ≤ gb304))
                   have n4_ := Aside0.mk ((by rw [hg]; exact (below_size B6x2_) : w.heap.size ≤ gb304))
                   have n5_ := Aside0.mk ((by rw [hg]; exact Nat.ne_of_lt (blk_lt (g := gb298) (o := .cells #[.slice (some ad303) l0_0.length c0_0, .int .i64 a0_1, .int .i64 a0_2] 45 (0, 0)) B6x3_) : gb298 ≠ gb304))
                   have n6_ := Aside0.mk ((by rw [hg]; exact Nat.ne_of_gt (blk_lt (g := gb298) (o := .cells #[.slice (some ad303) l0_0.length c0_0, .int .i64 a0_1, .int .i64 a0_2] 45 (0, 0)) B6x3_) : gb304 ≠ gb298))
                   clear BK298
                   clear HB
                   have BK298 := n0_
                   have HB := n1_
                   have BK304 := n2_
                   have GW304 := n3_
                   have GE304 := n4_
                   have NB298_304 := n5_
                   have NB304_298 := n6_
                   clear n0_ n1_ n2_ n3_ n4_ n5_ n6_
                   clear hb hbox hg
                   refine hK.out _ _ ⟨(blk_cell BK298.out 0).trans rfl, (blk_cell BK298.out 1).trans rfl, (blk_cell BK298.out 2).trans rfl, ((HB.out.cell (World.block_lt_of_cell? w _ hw303_0)).trans hw303_0), ((HB.out.cell (World.block_lt_of_cell? w _ hw303_1)).trans hw303_1)⟩ (fun hHeld => ?_)
                   clear hK K
                   refine norm_ (a' := ?_) ?_ ?_
                   rotate_left
                   ·show Act.put _ (some 6) _ = _
                    simp only [Act.put, List.setIfInBounds_toArray, List.set_cons_zero, List.set_cons_succ, i64_w, i32_w]
                    rfl
                   refine one_ (i := 11) (N := none) #[true, true, true, true, true, true, true, true, true, true, true, true] rfl rfl (one_of HT_.out B6x5_) (by decide) (fun K hK => ?_)
                   have hs47 : w46.cell? ⟨gb304, 0, none⟩ = some (.int .i64 0) := (blk_cell BK304.out 0).trans rfl
                   have hfs47 := blk_frozen BK304.out 0
                   have hns47_0 := NB298_304.out
                   have hms47_0 := NB304_298.out
                   have hs48 : w46.cell? ⟨gb304, 1, none⟩ = some (.string (⟨#[]⟩ : ByteArray)) := (blk_cell BK304.out 1).trans rfl
                   have hfs48 := blk_frozen BK304.out 1
                   have hns48_0 := NB298_304.out
                   have hms48_0 := NB304_298.out
                   refine skip_ (w1 := ?_) (by rfl) rfl ?_ ?_
                   rotate_left
                   ·go_simp
                    rfl
                   refine hK.out _ _ ⟨((cell_far (p := ⟨gb304, _, none⟩) NB298_304.out _).trans (((cell_far (p := ⟨gb304, _, none⟩) NB298_304.out _).trans (hHeld.1)))), ((cell_far (p := ⟨gb304, _, none⟩) NB298_304.out _).trans (((cell_far (p := ⟨gb304, _, none⟩) NB298_304.out _).trans (hHeld.2.1)))), ((cell_far (p := ⟨gb304, _, none⟩) NB298_304.out _).trans (((cell_far (p := ⟨gb304, _, none⟩) NB298_304.out _).trans (hHeld.2.2.1)))), ((cell_far (p := ⟨gb304, _, none⟩) B6x0_ _).trans (((cell_far (p := ⟨gb304, _, none⟩) B6x0_ _).trans (hHeld.2.2.2.1)))), ((cell_far (p := ⟨gb304, _, none⟩) B6x1_ _).trans (((cell_far (p := ⟨gb304, _, none⟩) B6x1_ _).trans (hHeld.2.2.2.2))))⟩ (fun hHeld => ?_)
                   clear hK K
                   refine done_ (done_of HT_.out B6x5_) ?_
                   have hnb49 := NB304_298.out
                   have hnc49 := NB298_304.out
                   obtain ⟨hcz50_0, hcz50_1⟩ := cl2 BK304.out
                   obtain ⟨hfz50_0, hfz50_1⟩ := fr2 BK304.out
                   try go_wp2_with (first | (go_at_call 59; (with_reducible refine (impl_within.calls (((rd_T105 l0_0 (ji24)).f1).size : Int) 1 100 true _ A28.out).mono ?_); rintro e w' ⟨rfl, ⟨nd, rfl⟩⟩))
                   go_roundg k4
                   case measure => have := HJ1.out; have := HJ13.out; have := HJ19.out; have := HK4.out; omega
                   case rel => exact ⟨(wrap64 (x53_4 + 1)), (be_), H', ⟨by have := HJ1.out; have := HJ13.out; have := HJ19.out; have := HK4.out; omega⟩, ⟨by (with_reducible repeat (first | refine blk_drewN ?_ _ | refine blk_drew ?_ | refine blk_alloc ?_ _)); refine blk_far ?_ NB298_304.out _; (with_reducible repeat (first | refine blk_drewN ?_ _ | refine blk_drew ?_ | refine blk_alloc ?_ _)); refine blk_far ?_ NB298_304.out _; (with_reducible repeat (first | refine blk_drewN ?_ _ | refine blk_drew ?_ | refine blk_alloc ?_ _)); exact BK298.out⟩, ⟨by repeat (first | (with_reducible first | exact HB.out | apply below_alloc | apply pw_below_drewN | apply below_drew1 | refine below_set ?_ GE298.out | refine below_set ?_ GE304.out) | exact HB.out)⟩⟩
                 ·replace c30 := Bool.eq_false_iff.mpr c30
                  subst c30
                  rw [if_neg (show ¬ (false = true) by decide)] at H
                  obtain rfl := Option.some.inj H
                  try go_wp2
                  have n0_ := Aside0.mk (blk_drew BK298.out)
                  have n1_ := Aside0.mk (below_drew1 HB.out)
                  clear BK298
                  clear HB
                  have BK298 := n0_
                  have HB := n1_
                  clear n0_ n1_
                  have p303 : 0 ≤ ((ji24) : Int) := of_decide_eq_true B6x4_
                  have q303 : (ji24) < (l0_0.length : Int) := of_decide_eq_true B6x4_
                  obtain ⟨ad303, e303, hx303_0, hx303_1⟩ := at_T105 HR0_0.out (ji24) p303 q303
                  have hw303_1 := hx303_1
                  have hw303_0 := hx303_0
                  cases e303
                  replace hx303_0 := (HB.out.cell (World.block_lt_of_cell? w _ hx303_0)).trans hx303_0
                  replace hx303_1 := (HB.out.cell (World.block_lt_of_cell? w _ hx303_1)).trans hx303_1
                  replace p303 := eq_true p303
                  replace q303 := eq_true q303
                  refine start_ (n := 12) (S := fun w' => w'.cell? ⟨gb298, 0, none⟩ = some (.slice (some ad303) l0_0.length c0_0) ∧ w'.cell? ⟨gb298, 1, none⟩ = some (.int .i64 a0_1) ∧ w'.cell? ⟨gb298, 2, none⟩ = some (.int .i64 a0_2) ∧ w'.cell? (ad303.add (((ji24)).toNat * 2)) = some (.int .i64 ((rd_T105 l0_0 (ji24)).f0)) ∧ w'.cell? ⟨(ad303.add (((ji24)).toNat * 2)).block, (ad303.add (((ji24)).toNat * 2)).off + 1, none⟩ = some (.string ((rd_T105 l0_0 (ji24)).f1))) (ds := []) #[false, false, false, false, false, false, false, false, false, false, false, false] B6x5_ rfl rfl ⟨(blk_cell BK298.out 0).trans rfl, (blk_cell BK298.out 1).trans rfl, (blk_cell BK298.out 2).trans rfl, ((HB.out.cell (World.block_lt_of_cell? w _ hw303_0)).trans hw303_0), ((HB.out.cell (World.block_lt_of_cell? w _ hw303_1)).trans hw303_1)⟩ (fun hHeld => ?_); refine with_tabW impl_RingOk.tab10 impl_RingOk.bits10 (fun HT_ HW_ => ?_)
                  generalize wr.drew = w51 at BK298 HB hx303_0 hx303_1 hHeld ⊢
                  refine pu_ 0 56 HT_ ?_
                  refine pu_ 2 58 HT_ ?_
                  refine pu_ 4 60 HT_ ?_
                  refine pu_ 6 62 HT_ ?_
                  refine ta_ 1 57 HT_ HW_ hHeld ?_
                  refine ta_ 3 59 HT_ HW_ hHeld ?_
                  refine pu_ 5 61 HT_ ?_
                  refine pu_ 7 63 HT_ ?_
                  refine pu_ 8 64 HT_ ?_
                  refine ta_ 9 65 HT_ HW_ hHeld ?_
                  refine one_ (i := 10) (N := some 6) #[true, true, true, true, true, true, true, true, true, true, true, false] rfl rfl (one_of HT_.out B6x5_) (by decide) (fun K hK => ?_)
                  refine box_step ?hg (N := 6) ?hd (cs := #[.int .i64 0, .string (⟨#[]⟩ : ByteArray)]) (t := 105) ?hr ?_; (case hd => rfl); (case hg => rfl); (case hr => first | (go_simp; done) | (go_simp; rfl))
                  intro gb304 hg w52 hbox hb
                  have n0_ := Aside0.mk (blk_below (g := gb298) (o := .cells #[.slice (some ad303) l0_0.length c0_0, .int .i64 a0_1, .int .i64 a0_2] 45 (0, 0)) B6x3_ hb)
                  have n1_ := Aside0.mk (below_step B6x2_ hb)
                  have n2_ := Aside0.mk (hbox)
                  have n3_ := Aside0.mk ((by rw [hg]; exact (below_size B6x2_) : w.heap.size ≤ gb304))
                  have n4_ := Aside0.mk ((by rw [hg]; exact (below_size B6x2_) : w.heap.size ≤ gb304))
                  have n5_ := Aside0.mk ((by rw [hg]; exact Nat.ne_of_lt (blk_lt (g := gb298) (o := .cells #[.slice (some ad303) l0_0.length c0_0, .int .i64 a0_1, .int .i64 a0_2] 45 (0, 0)) B6x3_) : gb298 ≠ gb304))
                  have n6_ := Aside0.mk ((by rw [hg]; exact Nat.ne_of_gt (blk_lt (g := gb298) (o := .cells #[.slice (some ad303) l0_0.length c0_0, .int .i64 a0_1, .int .i64 a0_2] 45 (0, 0)) B6x3_) : gb304 ≠ gb298))
                  clear BK298
                  clear HB
                  have BK298 := n0_
                  have HB := n1_
                  have BK304 := n2_
                  have GW304 := n3_
                  have GE304 := n4_
                  have NB298_304 := n5_
                  have NB304_298 := n6_
                  clear n0_ n1_ n2_ n3_ n4_ n5_ n6_
                  clear hb hbox hg
                  refine hK.out _ _ ⟨(blk_cell BK298.out 0).trans rfl, (blk_cell BK298.out 1).trans rfl, (blk_cell BK298.out 2).trans rfl, ((HB.out.cell (World.block_lt_of_cell? w _ hw303_0)).trans hw303_0), ((HB.out.cell (World.block_lt_of_cell? w _ hw303_1)).trans hw303_1)⟩ (fun hHeld => ?_)
                  clear hK K
                  refine norm_ (a' := ?_) ?_ ?_
                  rotate_left
                  ·show Act.put _ (some 6) _ = _
                   simp only [Act.put, List.setIfInBounds_toArray, List.set_cons_zero, List.set_cons_succ, i64_w, i32_w]
                   rfl
                  refine one_ (i := 11) (N := none) #[true, true, true, true, true, true, true, true, true, true, true, true] rfl rfl (one_of HT_.out B6x5_) (by decide) (fun K hK => ?_)
                  have hs53 : w52.cell? ⟨gb304, 0, none⟩ = some (.int .i64 0) := (blk_cell BK304.out 0).trans rfl
                  have hfs53 := blk_frozen BK304.out 0
                  have hns53_0 := NB298_304.out
                  have hms53_0 := NB304_298.out
                  have hs54 : w52.cell? ⟨gb304, 1, none⟩ = some (.string (⟨#[]⟩ : ByteArray)) := (blk_cell BK304.out 1).trans rfl
                  have hfs54 := blk_frozen BK304.out 1
                  have hns54_0 := NB298_304.out
                  have hms54_0 := NB304_298.out
                  refine skip_ (w1 := ?_) (by rfl) rfl ?_ ?_
                  rotate_left
                  ·go_simp
                   rfl
                  refine hK.out _ _ ⟨((cell_far (p := ⟨gb304, _, none⟩) NB298_304.out _).trans (((cell_far (p := ⟨gb304, _, none⟩) NB298_304.out _).trans (hHeld.1)))), ((cell_far (p := ⟨gb304, _, none⟩) NB298_304.out _).trans (((cell_far (p := ⟨gb304, _, none⟩) NB298_304.out _).trans (hHeld.2.1)))), ((cell_far (p := ⟨gb304, _, none⟩) NB298_304.out _).trans (((cell_far (p := ⟨gb304, _, none⟩) NB298_304.out _).trans (hHeld.2.2.1)))), ((cell_far (p := ⟨gb304, _, none⟩) B6x0_ _).trans (((cell_far (p := ⟨gb304, _, none⟩) B6x0_ _).trans (hHeld.2.2.2.1)))), ((cell_far (p := ⟨gb304, _, none⟩) B6x1_ _).trans (((cell_far (p := ⟨gb304, _, none⟩) B6x1_ _).trans (hHeld.2.2.2.2))))⟩ (fun hHeld => ?_)
                  clear hK K
                  refine done_ (done_of HT_.out B6x5_) ?_
                  have hnb55 := NB304_298.out
                  have hnc55 := NB298_304.out
                  obtain ⟨hcz56_0, hcz56_1⟩ := cl2 BK304.out
                  obtain ⟨hfz56_0, hfz56_1⟩ := fr2 BK304.out
                  try go_wp2_with (first | (go_at_call 59; (with_reducible refine (impl_within.calls (((rd_T105 l0_0 (ji24)).f1).size : Int) 1 100 false _ A28.out).mono ?_); rintro e w' ⟨rfl, ⟨nd, rfl⟩⟩))
                  go_ret
                  exact ⟨by first | rfl | (simp [errW_none, errW_some] <;> rfl) | (simp only [← hji24]; first | rfl | (simp [errW_none, errW_some] <;> rfl)) | (simp [*, errW_none, errW_some] <;> rfl), by repeat (first | (with_reducible first | exact HB.out | apply below_alloc | apply pw_below_drewN | apply below_drew1 | refine below_set ?_ GE298.out | refine below_set ?_ GE304.out) | exact HB.out)⟩
                ·rw [if_neg c29] at H
                 have c29b0 : decide (x53_4 < x4_19) = false := decide_eq_false c29
                 clear c29
                 by_cases c57 : x53_4 ≥ x4_19
                 ·rw [if_pos c57] at H
                  have c57b0 : decide (x4_19 ≤ x53_4) = true := decide_eq_true c57
                  clear c57
                  by_cases c58 : (!(((rd_T105 l0_0 (ji24)).f0) == 0) || (!((((rd_T105 l0_0 (ji24)).f1).toList) == ([] : List UInt8)))) = true
                  ·rw [if_pos c58] at H
                   have c58b0 : (!(((rd_T105 l0_0 (ji24)).f0) == 0) || (!((((rd_T105 l0_0 (ji24)).f1).toList) == ([] : List UInt8)))) = true := c58
                   (try (have c58b7 := c58b0; simp only [nil_e] at c58b7))
                   clear c58
                   obtain rfl := Option.some.inj H
                   try go_wp2
                   have n0_ := Aside0.mk (blk_drew BK298.out)
                   have n1_ := Aside0.mk (below_drew1 HB.out)
                   clear BK298
                   clear HB
                   have BK298 := n0_
                   have HB := n1_
                   clear n0_ n1_
                   have p303 : 0 ≤ ((ji24) : Int) := of_decide_eq_true B6x4_
                   have q303 : (ji24) < (l0_0.length : Int) := of_decide_eq_true B6x4_
                   obtain ⟨ad303, e303, hx303_0, hx303_1⟩ := at_T105 HR0_0.out (ji24) p303 q303
                   have hw303_1 := hx303_1
                   have hw303_0 := hx303_0
                   cases e303
                   replace hx303_0 := (HB.out.cell (World.block_lt_of_cell? w _ hx303_0)).trans hx303_0
                   replace hx303_1 := (HB.out.cell (World.block_lt_of_cell? w _ hx303_1)).trans hx303_1
                   replace p303 := eq_true p303
                   replace q303 := eq_true q303
                   refine start_ (n := 12) (S := fun w' => w'.cell? ⟨gb298, 0, none⟩ = some (.slice (some ad303) l0_0.length c0_0) ∧ w'.cell? ⟨gb298, 1, none⟩ = some (.int .i64 a0_1) ∧ w'.cell? ⟨gb298, 2, none⟩ = some (.int .i64 a0_2) ∧ w'.cell? (ad303.add (((ji24)).toNat * 2)) = some (.int .i64 ((rd_T105 l0_0 (ji24)).f0)) ∧ w'.cell? ⟨(ad303.add (((ji24)).toNat * 2)).block, (ad303.add (((ji24)).toNat * 2)).off + 1, none⟩ = some (.string ((rd_T105 l0_0 (ji24)).f1))) (ds := []) #[false, false, false, false, false, false, false, false, false, false, false, false] B6x5_ rfl rfl ⟨(blk_cell BK298.out 0).trans rfl, (blk_cell BK298.out 1).trans rfl, (blk_cell BK298.out 2).trans rfl, ((HB.out.cell (World.block_lt_of_cell? w _ hw303_0)).trans hw303_0), ((HB.out.cell (World.block_lt_of_cell? w _ hw303_1)).trans hw303_1)⟩ (fun hHeld => ?_); refine with_tabW impl_RingOk.tab10 impl_RingOk.bits10 (fun HT_ HW_ => ?_)
                   generalize wr.drew = w59 at BK298 HB hx303_0 hx303_1 hHeld ⊢
                   refine pu_ 0 56 HT_ ?_
                   refine pu_ 2 58 HT_ ?_
                   refine pu_ 4 60 HT_ ?_
                   refine pu_ 6 62 HT_ ?_
                   refine ta_ 1 57 HT_ HW_ hHeld ?_
                   refine ta_ 3 59 HT_ HW_ hHeld ?_
                   refine pu_ 5 61 HT_ ?_
                   refine pu_ 7 63 HT_ ?_
                   refine pu_ 8 64 HT_ ?_
                   refine ta_ 9 65 HT_ HW_ hHeld ?_
                   refine one_ (i := 10) (N := some 6) #[true, true, true, true, true, true, true, true, true, true, true, false] rfl rfl (one_of HT_.out B6x5_) (by decide) (fun K hK => ?_)
                   refine box_step ?hg (N := 6) ?hd (cs := #[.int .i64 0, .string (⟨#[]⟩ : ByteArray)]) (t := 105) ?hr ?_; (case hd => rfl); (case hg => rfl); (case hr => first | (go_simp; done) | (go_simp; rfl))
                   intro gb304 hg w60 hbox hb
                   have n0_ := Aside0.mk (blk_below (g := gb298) (o := .cells #[.slice (some ad303) l0_0.length c0_0, .int .i64 a0_1, .int .i64 a0_2] 45 (0, 0)) B6x3_ hb)
                   have n1_ := Aside0.mk (below_step B6x2_ hb)
                   have n2_ := Aside0.mk (hbox)
                   have n3_ := Aside0.mk ((by rw [hg]; exact (below_size B6x2_) : w.heap.size ≤ gb304))
                   have n4_ := Aside0.mk ((by rw [hg]; exact (below_size B6x2_) : w.heap.size ≤ gb304))
                   have n5_ := Aside0.mk ((by rw [hg]; exact Nat.ne_of_lt (blk_lt (g := gb298) (o := .cells #[.slice (some ad303) l0_0.length c0_0, .int .i64 a0_1, .int .i64 a0_2] 45 (0, 0)) B6x3_) : gb298 ≠ gb304))
                   have n6_ := Aside0.mk ((by rw [hg]; exact Nat.ne_of_gt (blk_lt (g := gb298) (o := .cells #[.slice (some ad303) l0_0.length c0_0, .int .i64 a0_1, .int .i64 a0_2] 45 (0, 0)) B6x3_) : gb304 ≠ gb298))
                   clear BK298
                   clear HB
                   have BK298 := n0_
                   have HB := n1_
                   have BK304 := n2_
                   have GW304 := n3_
                   have GE304 := n4_
                   have NB298_304 := n5_
                   have NB304_298 := n6_
                   clear n0_ n1_ n2_ n3_ n4_ n5_ n6_
                   clear hb hbox hg
                   refine hK.out _ _ ⟨(blk_cell BK298.out 0).trans rfl, (blk_cell BK298.out 1).trans rfl, (blk_cell BK298.out 2).trans rfl, ((HB.out.cell (World.block_lt_of_cell? w _ hw303_0)).trans hw303_0), ((HB.out.cell (World.block_lt_of_cell? w _ hw303_1)).trans hw303_1)⟩ (fun hHeld => ?_)
                   clear hK K
                   refine norm_ (a' := ?_) ?_ ?_
                   rotate_left
                   ·show Act.put _ (some 6) _ = _
                    simp only [Act.put, List.setIfInBounds_toArray, List.set_cons_zero, List.set_cons_succ, i64_w, i32_w]
                    rfl
                   refine one_ (i := 11) (N := none) #[true, true, true, true, true, true, true, true, true, true, true, true] rfl rfl (one_of HT_.out B6x5_) (by decide) (fun K hK => ?_)
                   have hs61 : w60.cell? ⟨gb304, 0, none⟩ = some (.int .i64 0) := (blk_cell BK304.out 0).trans rfl
                   have hfs61 := blk_frozen BK304.out 0
                   have hns61_0 := NB298_304.out
                   have hms61_0 := NB304_298.out
                   have hs62 : w60.cell? ⟨gb304, 1, none⟩ = some (.string (⟨#[]⟩ : ByteArray)) := (blk_cell BK304.out 1).trans rfl
                   have hfs62 := blk_frozen BK304.out 1
                   have hns62_0 := NB298_304.out
                   have hms62_0 := NB304_298.out
                   refine skip_ (w1 := ?_) (by rfl) rfl ?_ ?_
                   rotate_left
                   ·go_simp
                    rfl
                   refine hK.out _ _ ⟨((cell_far (p := ⟨gb304, _, none⟩) NB298_304.out _).trans (((cell_far (p := ⟨gb304, _, none⟩) NB298_304.out _).trans (hHeld.1)))), ((cell_far (p := ⟨gb304, _, none⟩) NB298_304.out _).trans (((cell_far (p := ⟨gb304, _, none⟩) NB298_304.out _).trans (hHeld.2.1)))), ((cell_far (p := ⟨gb304, _, none⟩) NB298_304.out _).trans (((cell_far (p := ⟨gb304, _, none⟩) NB298_304.out _).trans (hHeld.2.2.1)))), ((cell_far (p := ⟨gb304, _, none⟩) B6x0_ _).trans (((cell_far (p := ⟨gb304, _, none⟩) B6x0_ _).trans (hHeld.2.2.2.1)))), ((cell_far (p := ⟨gb304, _, none⟩) B6x1_ _).trans (((cell_far (p := ⟨gb304, _, none⟩) B6x1_ _).trans (hHeld.2.2.2.2))))⟩ (fun hHeld => ?_)
                   clear hK K
                   refine done_ (done_of HT_.out B6x5_) ?_
                   have hnb63 := NB304_298.out
                   have hnc63 := NB298_304.out
                   obtain ⟨hcz64_0, hcz64_1⟩ := cl2 BK304.out
                   obtain ⟨hfz64_0, hfz64_1⟩ := fr2 BK304.out
                   try go_wp2_with (first | (go_at_call 59; (with_reducible refine (impl_within.calls (((rd_T105 l0_0 (ji24)).f1).size : Int) 1 100 t305 _ A28.out).mono ?_); rintro e w' ⟨rfl, ⟨nd, rfl⟩⟩))
                   go_ret
                   exact ⟨by first | rfl | (simp [errW_none, errW_some] <;> rfl) | (simp only [← hji24]; first | rfl | (simp [errW_none, errW_some] <;> rfl)) | (simp [*, errW_none, errW_some] <;> rfl), by repeat (first | (with_reducible first | exact HB.out | apply below_alloc | apply pw_below_drewN | apply below_drew1 | refine below_set ?_ GE298.out | refine below_set ?_ GE304.out) | exact HB.out)⟩
                  ·rw [if_neg c58] at H
                   have c58b0 : (!(((rd_T105 l0_0 (ji24)).f0) == 0) || (!((((rd_T105 l0_0 (ji24)).f1).toList) == ([] : List UInt8)))) = false := by simpa using c58
                   (try (have c58b7 := c58b0; simp only [nil_e] at c58b7))
                   clear c58
                   have H' := Aside0.mk H
                   clear H
                   try go_wp2
                   have n0_ := Aside0.mk (blk_drew BK298.out)
                   have n1_ := Aside0.mk (below_drew1 HB.out)
                   clear BK298
                   clear HB
                   have BK298 := n0_
                   have HB := n1_
                   clear n0_ n1_
                   have p303 : 0 ≤ ((ji24) : Int) := of_decide_eq_true B6x4_
                   have q303 : (ji24) < (l0_0.length : Int) := of_decide_eq_true B6x4_
                   obtain ⟨ad303, e303, hx303_0, hx303_1⟩ := at_T105 HR0_0.out (ji24) p303 q303
                   have hw303_1 := hx303_1
                   have hw303_0 := hx303_0
                   cases e303
                   replace hx303_0 := (HB.out.cell (World.block_lt_of_cell? w _ hx303_0)).trans hx303_0
                   replace hx303_1 := (HB.out.cell (World.block_lt_of_cell? w _ hx303_1)).trans hx303_1
                   replace p303 := eq_true p303
                   replace q303 := eq_true q303
                   refine start_ (n := 12) (S := fun w' => w'.cell? ⟨gb298, 0, none⟩ = some (.slice (some ad303) l0_0.length c0_0) ∧ w'.cell? ⟨gb298, 1, none⟩ = some (.int .i64 a0_1) ∧ w'.cell? ⟨gb298, 2, none⟩ = some (.int .i64 a0_2) ∧ w'.cell? (ad303.add (((ji24)).toNat * 2)) = some (.int .i64 ((rd_T105 l0_0 (ji24)).f0)) ∧ w'.cell? ⟨(ad303.add (((ji24)).toNat * 2)).block, (ad303.add (((ji24)).toNat * 2)).off + 1, none⟩ = some (.string ((rd_T105 l0_0 (ji24)).f1))) (ds := []) #[false, false, false, false, false, false, false, false, false, false, false, false] B6x5_ rfl rfl ⟨(blk_cell BK298.out 0).trans rfl, (blk_cell BK298.out 1).trans rfl, (blk_cell BK298.out 2).trans rfl, ((HB.out.cell (World.block_lt_of_cell? w _ hw303_0)).trans hw303_0), ((HB.out.cell (World.block_lt_of_cell? w _ hw303_1)).trans hw303_1)⟩ (fun hHeld => ?_); refine with_tabW impl_RingOk.tab10 impl_RingOk.bits10 (fun HT_ HW_ => ?_)
                   generalize wr.drew = w65 at BK298 HB hx303_0 hx303_1 hHeld ⊢
                   refine pu_ 0 56 HT_ ?_
                   refine pu_ 2 58 HT_ ?_
                   refine pu_ 4 60 HT_ ?_
                   refine pu_ 6 62 HT_ ?_
                   refine ta_ 1 57 HT_ HW_ hHeld ?_
                   refine ta_ 3 59 HT_ HW_ hHeld ?_
                   refine pu_ 5 61 HT_ ?_
                   refine pu_ 7 63 HT_ ?_
                   refine pu_ 8 64 HT_ ?_
                   refine ta_ 9 65 HT_ HW_ hHeld ?_
                   refine one_ (i := 10) (N := some 6) #[true, true, true, true, true, true, true, true, true, true, true, false] rfl rfl (one_of HT_.out B6x5_) (by decide) (fun K hK => ?_)
                   refine box_step ?hg (N := 6) ?hd (cs := #[.int .i64 0, .string (⟨#[]⟩ : ByteArray)]) (t := 105) ?hr ?_; (case hd => rfl); (case hg => rfl); (case hr => first | (go_simp; done) | (go_simp; rfl))
                   intro gb304 hg w66 hbox hb
                   have n0_ := Aside0.mk (blk_below (g := gb298) (o := .cells #[.slice (some ad303) l0_0.length c0_0, .int .i64 a0_1, .int .i64 a0_2] 45 (0, 0)) B6x3_ hb)
                   have n1_ := Aside0.mk (below_step B6x2_ hb)
                   have n2_ := Aside0.mk (hbox)
                   have n3_ := Aside0.mk ((by rw [hg]; exact (below_size B6x2_) : w.heap.size ≤ gb304))
                   have n4_ := Aside0.mk ((by rw [hg]; exact (below_size B6x2_) : w.heap.size ≤ gb304))
                   have n5_ := Aside0.mk ((by rw [hg]; exact Nat.ne_of_lt (blk_lt (g := gb298) (o := .cells #[.slice (some ad303) l0_0.length c0_0, .int .i64 a0_1, .int .i64 a0_2] 45 (0, 0)) B6x3_) : gb298 ≠ gb304))
                   have n6_ := Aside0.mk ((by rw [hg]; exact Nat.ne_of_gt (blk_lt (g := gb298) (o := .cells #[.slice (some ad303) l0_0.length c0_0, .int .i64 a0_1, .int .i64 a0_2] 45 (0, 0)) B6x3_) : gb304 ≠ gb298))
                   clear BK298
                   clear HB
                   have BK298 := n0_
                   have HB := n1_
                   have BK304 := n2_
                   have GW304 := n3_
                   have GE304 := n4_
                   have NB298_304 := n5_
                   have NB304_298 := n6_
                   clear n0_ n1_ n2_ n3_ n4_ n5_ n6_
                   clear hb hbox hg
                   refine hK.out _ _ ⟨(blk_cell BK298.out 0).trans rfl, (blk_cell BK298.out 1).trans rfl, (blk_cell BK298.out 2).trans rfl, ((HB.out.cell (World.block_lt_of_cell? w _ hw303_0)).trans hw303_0), ((HB.out.cell (World.block_lt_of_cell? w _ hw303_1)).trans hw303_1)⟩ (fun hHeld => ?_)
                   clear hK K
                   refine norm_ (a' := ?_) ?_ ?_
                   rotate_left
                   ·show Act.put _ (some 6) _ = _
                    simp only [Act.put, List.setIfInBounds_toArray, List.set_cons_zero, List.set_cons_succ, i64_w, i32_w]
                    rfl
                   refine one_ (i := 11) (N := none) #[true, true, true, true, true, true, true, true, true, true, true, true] rfl rfl (one_of HT_.out B6x5_) (by decide) (fun K hK => ?_)
                   have hs67 : w66.cell? ⟨gb304, 0, none⟩ = some (.int .i64 0) := (blk_cell BK304.out 0).trans rfl
                   have hfs67 := blk_frozen BK304.out 0
                   have hns67_0 := NB298_304.out
                   have hms67_0 := NB304_298.out
                   have hs68 : w66.cell? ⟨gb304, 1, none⟩ = some (.string (⟨#[]⟩ : ByteArray)) := (blk_cell BK304.out 1).trans rfl
                   have hfs68 := blk_frozen BK304.out 1
                   have hns68_0 := NB298_304.out
                   have hms68_0 := NB304_298.out
                   refine skip_ (w1 := ?_) (by rfl) rfl ?_ ?_
                   rotate_left
                   ·go_simp
                    rfl
                   refine hK.out _ _ ⟨((cell_far (p := ⟨gb304, _, none⟩) NB298_304.out _).trans (((cell_far (p := ⟨gb304, _, none⟩) NB298_304.out _).trans (hHeld.1)))), ((cell_far (p := ⟨gb304, _, none⟩) NB298_304.out _).trans (((cell_far (p := ⟨gb304, _, none⟩) NB298_304.out _).trans (hHeld.2.1)))), ((cell_far (p := ⟨gb304, _, none⟩) NB298_304.out _).trans (((cell_far (p := ⟨gb304, _, none⟩) NB298_304.out _).trans (hHeld.2.2.1)))), ((cell_far (p := ⟨gb304, _, none⟩) B6x0_ _).trans (((cell_far (p := ⟨gb304, _, none⟩) B6x0_ _).trans (hHeld.2.2.2.1)))), ((cell_far (p := ⟨gb304, _, none⟩) B6x1_ _).trans (((cell_far (p := ⟨gb304, _, none⟩) B6x1_ _).trans (hHeld.2.2.2.2))))⟩ (fun hHeld => ?_)
                   clear hK K
                   refine done_ (done_of HT_.out B6x5_) ?_
                   have hnb69 := NB304_298.out
                   have hnc69 := NB298_304.out
                   obtain ⟨hcz70_0, hcz70_1⟩ := cl2 BK304.out
                   obtain ⟨hfz70_0, hfz70_1⟩ := fr2 BK304.out
                   try go_wp2_with (first | (go_at_call 59; (with_reducible refine (impl_within.calls (((rd_T105 l0_0 (ji24)).f1).size : Int) 1 100 t305 _ A28.out).mono ?_); rintro e w' ⟨rfl, ⟨nd, rfl⟩⟩))
                   go_roundg k4
                   case measure => have := HJ1.out; have := HJ13.out; have := HJ19.out; have := HK4.out; omega
                   case rel => exact ⟨(wrap64 (x53_4 + 1)), (be_), H', ⟨by have := HJ1.out; have := HJ13.out; have := HJ19.out; have := HK4.out; omega⟩, ⟨by (with_reducible repeat (first | refine blk_drewN ?_ _ | refine blk_drew ?_ | refine blk_alloc ?_ _)); refine blk_far ?_ NB298_304.out _; (with_reducible repeat (first | refine blk_drewN ?_ _ | refine blk_drew ?_ | refine blk_alloc ?_ _)); refine blk_far ?_ NB298_304.out _; (with_reducible repeat (first | refine blk_drewN ?_ _ | refine blk_drew ?_ | refine blk_alloc ?_ _)); exact BK298.out⟩, ⟨by repeat (first | (with_reducible first | exact HB.out | apply below_alloc | apply pw_below_drewN | apply below_drew1 | refine below_set ?_ GE298.out | refine below_set ?_ GE304.out) | exact HB.out)⟩⟩
                 ·exact absurd H (by exfalso; (try have h0_ := of_decide_eq_false c29b0); (try have g0_ := c29); omega)
               ·rw [if_neg c27] at H
                have c27b0 : (((rd_T105 l0_0 (ji24)).f0) == 1) = false := beq_eq_false_iff_ne.mpr c27
                have c27b1 : (((rd_T105 l0_0 (ji24)).f0) != 1) = true := bne_iff_ne.mpr c27
                by_cases c77 : x53_4 < x4_19
                ·rw [if_pos c77] at H
                 have c77b0 : decide (x53_4 < x4_19) = true := decide_eq_true c77
                 clear c77
                 obtain rfl := Option.some.inj H
                 try go_wp2
                 have n0_ := Aside0.mk (blk_drew BK298.out)
                 have n1_ := Aside0.mk (below_drew1 HB.out)
                 clear BK298
                 clear HB
                 have BK298 := n0_
                 have HB := n1_
                 clear n0_ n1_
                 have p303 : 0 ≤ ((ji24) : Int) := of_decide_eq_true B6x4_
                 have q303 : (ji24) < (l0_0.length : Int) := of_decide_eq_true B6x4_
                 obtain ⟨ad303, e303, hx303_0, hx303_1⟩ := at_T105 HR0_0.out (ji24) p303 q303
                 have hw303_1 := hx303_1
                 have hw303_0 := hx303_0
                 cases e303
                 replace hx303_0 := (HB.out.cell (World.block_lt_of_cell? w _ hx303_0)).trans hx303_0
                 replace hx303_1 := (HB.out.cell (World.block_lt_of_cell? w _ hx303_1)).trans hx303_1
                 replace p303 := eq_true p303
                 replace q303 := eq_true q303
                 refine start_ (n := 12) (S := fun w' => w'.cell? ⟨gb298, 0, none⟩ = some (.slice (some ad303) l0_0.length c0_0) ∧ w'.cell? ⟨gb298, 1, none⟩ = some (.int .i64 a0_1) ∧ w'.cell? ⟨gb298, 2, none⟩ = some (.int .i64 a0_2) ∧ w'.cell? (ad303.add (((ji24)).toNat * 2)) = some (.int .i64 ((rd_T105 l0_0 (ji24)).f0)) ∧ w'.cell? ⟨(ad303.add (((ji24)).toNat * 2)).block, (ad303.add (((ji24)).toNat * 2)).off + 1, none⟩ = some (.string ((rd_T105 l0_0 (ji24)).f1))) (ds := []) #[false, false, false, false, false, false, false, false, false, false, false, false] B6x5_ rfl rfl ⟨(blk_cell BK298.out 0).trans rfl, (blk_cell BK298.out 1).trans rfl, (blk_cell BK298.out 2).trans rfl, ((HB.out.cell (World.block_lt_of_cell? w _ hw303_0)).trans hw303_0), ((HB.out.cell (World.block_lt_of_cell? w _ hw303_1)).trans hw303_1)⟩ (fun hHeld => ?_); refine with_tabW impl_RingOk.tab10 impl_RingOk.bits10 (fun HT_ HW_ => ?_)
                 generalize wr.drew = w78 at BK298 HB hx303_0 hx303_1 hHeld ⊢
                 refine pu_ 0 56 HT_ ?_
                 refine pu_ 2 58 HT_ ?_
                 refine pu_ 4 60 HT_ ?_
                 refine pu_ 6 62 HT_ ?_
                 refine ta_ 1 57 HT_ HW_ hHeld ?_
                 refine ta_ 3 59 HT_ HW_ hHeld ?_
                 refine pu_ 5 61 HT_ ?_
                 refine pu_ 7 63 HT_ ?_
                 refine pu_ 8 64 HT_ ?_
                 refine ta_ 9 65 HT_ HW_ hHeld ?_
                 refine one_ (i := 10) (N := some 6) #[true, true, true, true, true, true, true, true, true, true, true, false] rfl rfl (one_of HT_.out B6x5_) (by decide) (fun K hK => ?_)
                 refine box_step ?hg (N := 6) ?hd (cs := #[.int .i64 0, .string (⟨#[]⟩ : ByteArray)]) (t := 105) ?hr ?_; (case hd => rfl); (case hg => rfl); (case hr => first | (go_simp; done) | (go_simp; rfl))
                 intro gb304 hg w79 hbox hb
                 have n0_ := Aside0.mk (blk_below (g := gb298) (o := .cells #[.slice (some ad303) l0_0.length c0_0, .int .i64 a0_1, .int .i64 a0_2] 45 (0, 0)) B6x3_ hb)
                 have n1_ := Aside0.mk (below_step B6x2_ hb)
                 have n2_ := Aside0.mk (hbox)
                 have n3_ := Aside0.mk ((by rw [hg]; exact (below_size B6x2_) : w.heap.size ≤ gb304))
                 have n4_ := Aside0.mk ((by rw [hg]; exact (below_size B6x2_) : w.heap.size ≤ gb304))
                 have n5_ := Aside0.mk ((by rw [hg]; exact Nat.ne_of_lt (blk_lt (g := gb298) (o := .cells #[.slice (some ad303) l0_0.length c0_0, .int .i64 a0_1, .int .i64 a0_2] 45 (0, 0)) B6x3_) : gb298 ≠ gb304))
                 have n6_ := Aside0.mk ((by rw [hg]; exact Nat.ne_of_gt (blk_lt (g := gb298) (o := .cells #[.slice (some ad303) l0_0.length c0_0, .int .i64 a0_1, .int .i64 a0_2] 45 (0, 0)) B6x3_) : gb304 ≠ gb298))
                 clear BK298
                 clear HB
                 have BK298 := n0_
                 have HB := n1_
                 have BK304 := n2_
                 have GW304 := n3_
                 have GE304 := n4_
                 have NB298_304 := n5_
                 have NB304_298 := n6_
                 clear n0_ n1_ n2_ n3_ n4_ n5_ n6_
                 clear hb hbox hg
                 refine hK.out _ _ ⟨(blk_cell BK298.out 0).trans rfl, (blk_cell BK298.out 1).trans rfl, (blk_cell BK298.out 2).trans rfl, ((HB.out.cell (World.block_lt_of_cell? w _ hw303_0)).trans hw303_0), ((HB.out.cell (World.block_lt_of_cell? w _ hw303_1)).trans hw303_1)⟩ (fun hHeld => ?_)
                 clear hK K
                 refine norm_ (a' := ?_) ?_ ?_
                 rotate_left
                 ·show Act.put _ (some 6) _ = _
                  simp only [Act.put, List.setIfInBounds_toArray, List.set_cons_zero, List.set_cons_succ, i64_w, i32_w]
                  rfl
                 refine one_ (i := 11) (N := none) #[true, true, true, true, true, true, true, true, true, true, true, true] rfl rfl (one_of HT_.out B6x5_) (by decide) (fun K hK => ?_)
                 have hs80 : w79.cell? ⟨gb304, 0, none⟩ = some (.int .i64 0) := (blk_cell BK304.out 0).trans rfl
                 have hfs80 := blk_frozen BK304.out 0
                 have hns80_0 := NB298_304.out
                 have hms80_0 := NB304_298.out
                 have hs81 : w79.cell? ⟨gb304, 1, none⟩ = some (.string (⟨#[]⟩ : ByteArray)) := (blk_cell BK304.out 1).trans rfl
                 have hfs81 := blk_frozen BK304.out 1
                 have hns81_0 := NB298_304.out
                 have hms81_0 := NB304_298.out
                 refine skip_ (w1 := ?_) (by rfl) rfl ?_ ?_
                 rotate_left
                 ·go_simp
                  rfl
                 refine hK.out _ _ ⟨((cell_far (p := ⟨gb304, _, none⟩) NB298_304.out _).trans (((cell_far (p := ⟨gb304, _, none⟩) NB298_304.out _).trans (hHeld.1)))), ((cell_far (p := ⟨gb304, _, none⟩) NB298_304.out _).trans (((cell_far (p := ⟨gb304, _, none⟩) NB298_304.out _).trans (hHeld.2.1)))), ((cell_far (p := ⟨gb304, _, none⟩) NB298_304.out _).trans (((cell_far (p := ⟨gb304, _, none⟩) NB298_304.out _).trans (hHeld.2.2.1)))), ((cell_far (p := ⟨gb304, _, none⟩) B6x0_ _).trans (((cell_far (p := ⟨gb304, _, none⟩) B6x0_ _).trans (hHeld.2.2.2.1)))), ((cell_far (p := ⟨gb304, _, none⟩) B6x1_ _).trans (((cell_far (p := ⟨gb304, _, none⟩) B6x1_ _).trans (hHeld.2.2.2.2))))⟩ (fun hHeld => ?_)
                 clear hK K
                 refine done_ (done_of HT_.out B6x5_) ?_
                 have hnb82 := NB304_298.out
                 have hnc82 := NB298_304.out
                 obtain ⟨hcz83_0, hcz83_1⟩ := cl2 BK304.out
                 obtain ⟨hfz83_0, hfz83_1⟩ := fr2 BK304.out
                 try go_wp2
                 go_ret
                 exact ⟨by first | rfl | (simp [errW_none, errW_some] <;> rfl) | (simp only [← hji24]; first | rfl | (simp [errW_none, errW_some] <;> rfl)) | (simp [*, errW_none, errW_some] <;> rfl), by repeat (first | (with_reducible first | exact HB.out | apply below_alloc | apply pw_below_drewN | apply below_drew1 | refine below_set ?_ GE298.out | refine below_set ?_ GE304.out) | exact HB.out)⟩
                ·rw [if_neg c77] at H
                 have c77b0 : decide (x53_4 < x4_19) = false := decide_eq_false c77
                 clear c77
                 by_cases c84 : x53_4 ≥ x4_19
                 ·rw [if_pos c84] at H
                  have c84b0 : decide (x4_19 ≤ x53_4) = true := decide_eq_true c84
                  clear c84
                  by_cases c85 : (!(((rd_T105 l0_0 (ji24)).f0) == 0) || (!((((rd_T105 l0_0 (ji24)).f1).toList) == ([] : List UInt8)))) = true
                  ·rw [if_pos c85] at H
                   have c85b0 : (!(((rd_T105 l0_0 (ji24)).f0) == 0) || (!((((rd_T105 l0_0 (ji24)).f1).toList) == ([] : List UInt8)))) = true := c85
                   (try (have c85b7 := c85b0; simp only [nil_e] at c85b7))
                   clear c85
                   obtain rfl := Option.some.inj H
                   try go_wp2
                   have n0_ := Aside0.mk (blk_drew BK298.out)
                   have n1_ := Aside0.mk (below_drew1 HB.out)
                   clear BK298
                   clear HB
                   have BK298 := n0_
                   have HB := n1_
                   clear n0_ n1_
                   have p303 : 0 ≤ ((ji24) : Int) := of_decide_eq_true B6x4_
                   have q303 : (ji24) < (l0_0.length : Int) := of_decide_eq_true B6x4_
                   obtain ⟨ad303, e303, hx303_0, hx303_1⟩ := at_T105 HR0_0.out (ji24) p303 q303
                   have hw303_1 := hx303_1
                   have hw303_0 := hx303_0
                   cases e303
                   replace hx303_0 := (HB.out.cell (World.block_lt_of_cell? w _ hx303_0)).trans hx303_0
                   replace hx303_1 := (HB.out.cell (World.block_lt_of_cell? w _ hx303_1)).trans hx303_1
                   replace p303 := eq_true p303
                   replace q303 := eq_true q303
                   refine start_ (n := 12) (S := fun w' => w'.cell? ⟨gb298, 0, none⟩ = some (.slice (some ad303) l0_0.length c0_0) ∧ w'.cell? ⟨gb298, 1, none⟩ = some (.int .i64 a0_1) ∧ w'.cell? ⟨gb298, 2, none⟩ = some (.int .i64 a0_2) ∧ w'.cell? (ad303.add (((ji24)).toNat * 2)) = some (.int .i64 ((rd_T105 l0_0 (ji24)).f0)) ∧ w'.cell? ⟨(ad303.add (((ji24)).toNat * 2)).block, (ad303.add (((ji24)).toNat * 2)).off + 1, none⟩ = some (.string ((rd_T105 l0_0 (ji24)).f1))) (ds := []) #[false, false, false, false, false, false, false, false, false, false, false, false] B6x5_ rfl rfl ⟨(blk_cell BK298.out 0).trans rfl, (blk_cell BK298.out 1).trans rfl, (blk_cell BK298.out 2).trans rfl, ((HB.out.cell (World.block_lt_of_cell? w _ hw303_0)).trans hw303_0), ((HB.out.cell (World.block_lt_of_cell? w _ hw303_1)).trans hw303_1)⟩ (fun hHeld => ?_); refine with_tabW impl_RingOk.tab10 impl_RingOk.bits10 (fun HT_ HW_ => ?_)
                   generalize wr.drew = w86 at BK298 HB hx303_0 hx303_1 hHeld ⊢
                   refine pu_ 0 56 HT_ ?_
                   refine pu_ 2 58 HT_ ?_
                   refine pu_ 4 60 HT_ ?_
                   refine pu_ 6 62 HT_ ?_
                   refine ta_ 1 57 HT_ HW_ hHeld ?_
                   refine ta_ 3 59 HT_ HW_ hHeld ?_
                   refine pu_ 5 61 HT_ ?_
                   refine pu_ 7 63 HT_ ?_
                   refine pu_ 8 64 HT_ ?_
                   refine ta_ 9 65 HT_ HW_ hHeld ?_
                   refine one_ (i := 10) (N := some 6) #[true, true, true, true, true, true, true, true, true, true, true, false] rfl rfl (one_of HT_.out B6x5_) (by decide) (fun K hK => ?_)
                   refine box_step ?hg (N := 6) ?hd (cs := #[.int .i64 0, .string (⟨#[]⟩ : ByteArray)]) (t := 105) ?hr ?_; (case hd => rfl); (case hg => rfl); (case hr => first | (go_simp; done) | (go_simp; rfl))
                   intro gb304 hg w87 hbox hb
                   have n0_ := Aside0.mk (blk_below (g := gb298) (o := .cells #[.slice (some ad303) l0_0.length c0_0, .int .i64 a0_1, .int .i64 a0_2] 45 (0, 0)) B6x3_ hb)
                   have n1_ := Aside0.mk (below_step B6x2_ hb)
                   have n2_ := Aside0.mk (hbox)
                   have n3_ := Aside0.mk ((by rw [hg]; exact (below_size B6x2_) : w.heap.size ≤ gb304))
                   have n4_ := Aside0.mk ((by rw [hg]; exact (below_size B6x2_) : w.heap.size ≤ gb304))
                   have n5_ := Aside0.mk ((by rw [hg]; exact Nat.ne_of_lt (blk_lt (g := gb298) (o := .cells #[.slice (some ad303) l0_0.length c0_0, .int .i64 a0_1, .int .i64 a0_2] 45 (0, 0)) B6x3_) : gb298 ≠ gb304))
                   have n6_ := Aside0.mk ((by rw [hg]; exact Nat.ne_of_gt (blk_lt (g := gb298) (o := .cells #[.slice (some ad303) l0_0.length c0_0, .int .i64 a0_1, .int .i64 a0_2] 45 (0, 0)) B6x3_) : gb304 ≠ gb298))
                   clear BK298
                   clear HB
                   have BK298 := n0_
                   have HB := n1_
                   have BK304 := n2_
                   have GW304 := n3_
                   have GE304 := n4_
                   have NB298_304 := n5_
                   have NB304_298 := n6_
                   clear n0_ n1_ n2_ n3_ n4_ n5_ n6_
                   clear hb hbox hg
                   refine hK.out _ _ ⟨(blk_cell BK298.out 0).trans rfl, (blk_cell BK298.out 1).trans rfl, (blk_cell BK298.out 2).trans rfl, ((HB.out.cell (World.block_lt_of_cell? w _ hw303_0)).trans hw303_0), ((HB.out.cell (World.block_lt_of_cell? w _ hw303_1)).trans hw303_1)⟩ (fun hHeld => ?_)
                   clear hK K
                   refine norm_ (a' := ?_) ?_ ?_
                   rotate_left
                   ·show Act.put _ (some 6) _ = _
                    simp only [Act.put, List.setIfInBounds_toArray, List.set_cons_zero, List.set_cons_succ, i64_w, i32_w]
                    rfl
                   refine one_ (i := 11) (N := none) #[true, true, true, true, true, true, true, true, true, true, true, true] rfl rfl (one_of HT_.out B6x5_) (by decide) (fun K hK => ?_)
                   have hs88 : w87.cell? ⟨gb304, 0, none⟩ = some (.int .i64 0) := (blk_cell BK304.out 0).trans rfl
                   have hfs88 := blk_frozen BK304.out 0
                   have hns88_0 := NB298_304.out
                   have hms88_0 := NB304_298.out
                   have hs89 : w87.cell? ⟨gb304, 1, none⟩ = some (.string (⟨#[]⟩ : ByteArray)) := (blk_cell BK304.out 1).trans rfl
                   have hfs89 := blk_frozen BK304.out 1
                   have hns89_0 := NB298_304.out
                   have hms89_0 := NB304_298.out
                   refine skip_ (w1 := ?_) (by rfl) rfl ?_ ?_
                   rotate_left
                   ·go_simp
                    rfl
                   refine hK.out _ _ ⟨((cell_far (p := ⟨gb304, _, none⟩) NB298_304.out _).trans (((cell_far (p := ⟨gb304, _, none⟩) NB298_304.out _).trans (hHeld.1)))), ((cell_far (p := ⟨gb304, _, none⟩) NB298_304.out _).trans (((cell_far (p := ⟨gb304, _, none⟩) NB298_304.out _).trans (hHeld.2.1)))), ((cell_far (p := ⟨gb304, _, none⟩) NB298_304.out _).trans (((cell_far (p := ⟨gb304, _, none⟩) NB298_304.out _).trans (hHeld.2.2.1)))), ((cell_far (p := ⟨gb304, _, none⟩) B6x0_ _).trans (((cell_far (p := ⟨gb304, _, none⟩) B6x0_ _).trans (hHeld.2.2.2.1)))), ((cell_far (p := ⟨gb304, _, none⟩) B6x1_ _).trans (((cell_far (p := ⟨gb304, _, none⟩) B6x1_ _).trans (hHeld.2.2.2.2))))⟩ (fun hHeld => ?_)
                   clear hK K
                   refine done_ (done_of HT_.out B6x5_) ?_
                   have hnb90 := NB304_298.out
                   have hnc90 := NB298_304.out
                   obtain ⟨hcz91_0, hcz91_1⟩ := cl2 BK304.out
                   obtain ⟨hfz91_0, hfz91_1⟩ := fr2 BK304.out
                   try go_wp2
                   go_ret
                   exact ⟨by first | rfl | (simp [errW_none, errW_some] <;> rfl) | (simp only [← hji24]; first | rfl | (simp [errW_none, errW_some] <;> rfl)) | (simp [*, errW_none, errW_some] <;> rfl), by repeat (first | (with_reducible first | exact HB.out | apply below_alloc | apply pw_below_drewN | apply below_drew1 | refine below_set ?_ GE298.out | refine below_set ?_ GE304.out) | exact HB.out)⟩
                  ·rw [if_neg c85] at H
                   have c85b0 : (!(((rd_T105 l0_0 (ji24)).f0) == 0) || (!((((rd_T105 l0_0 (ji24)).f1).toList) == ([] : List UInt8)))) = false := by simpa using c85
                   (try (have c85b7 := c85b0; simp only [nil_e] at c85b7))
                   clear c85
                   have H' := Aside0.mk H
                   clear H
                   try go_wp2
                   have n0_ := Aside0.mk (blk_drew BK298.out)
                   have n1_ := Aside0.mk (below_drew1 HB.out)
                   clear BK298
                   clear HB
                   have BK298 := n0_
                   have HB := n1_
                   clear n0_ n1_
                   have p303 : 0 ≤ ((ji24) : Int) := of_decide_eq_true B6x4_
                   have q303 : (ji24) < (l0_0.length : Int) := of_decide_eq_true B6x4_
                   obtain ⟨ad303, e303, hx303_0, hx303_1⟩ := at_T105 HR0_0.out (ji24) p303 q303
                   have hw303_1 := hx303_1
                   have hw303_0 := hx303_0
                   cases e303
                   replace hx303_0 := (HB.out.cell (World.block_lt_of_cell? w _ hx303_0)).trans hx303_0
                   replace hx303_1 := (HB.out.cell (World.block_lt_of_cell? w _ hx303_1)).trans hx303_1
                   replace p303 := eq_true p303
                   replace q303 := eq_true q303
                   refine start_ (n := 12) (S := fun w' => w'.cell? ⟨gb298, 0, none⟩ = some (.slice (some ad303) l0_0.length c0_0) ∧ w'.cell? ⟨gb298, 1, none⟩ = some (.int .i64 a0_1) ∧ w'.cell? ⟨gb298, 2, none⟩ = some (.int .i64 a0_2) ∧ w'.cell? (ad303.add (((ji24)).toNat * 2)) = some (.int .i64 ((rd_T105 l0_0 (ji24)).f0)) ∧ w'.cell? ⟨(ad303.add (((ji24)).toNat * 2)).block, (ad303.add (((ji24)).toNat * 2)).off + 1, none⟩ = some (.string ((rd_T105 l0_0 (ji24)).f1))) (ds := []) #[false, false, false, false, false, false, false, false, false, false, false, false] B6x5_ rfl rfl ⟨(blk_cell BK298.out 0).trans rfl, (blk_cell BK298.out 1).trans rfl, (blk_cell BK298.out 2).trans rfl, ((HB.out.cell (World.block_lt_of_cell? w _ hw303_0)).trans hw303_0), ((HB.out.cell (World.block_lt_of_cell? w _ hw303_1)).trans hw303_1)⟩ (fun hHeld => ?_); refine with_tabW impl_RingOk.tab10 impl_RingOk.bits10 (fun HT_ HW_ => ?_)
                   generalize wr.drew = w92 at BK298 HB hx303_0 hx303_1 hHeld ⊢
                   refine pu_ 0 56 HT_ ?_
                   refine pu_ 2 58 HT_ ?_
                   refine pu_ 4 60 HT_ ?_
                   refine pu_ 6 62 HT_ ?_
                   refine ta_ 1 57 HT_ HW_ hHeld ?_
                   refine ta_ 3 59 HT_ HW_ hHeld ?_
                   refine pu_ 5 61 HT_ ?_
                   refine pu_ 7 63 HT_ ?_
                   refine pu_ 8 64 HT_ ?_
                   refine ta_ 9 65 HT_ HW_ hHeld ?_
                   refine one_ (i := 10) (N := some 6) #[true, true, true, true, true, true, true, true, true, true, true, false] rfl rfl (one_of HT_.out B6x5_) (by decide) (fun K hK => ?_)
                   refine box_step ?hg (N := 6) ?hd (cs := #[.int .i64 0, .string (⟨#[]⟩ : ByteArray)]) (t := 105) ?hr ?_; (case hd => rfl); (case hg => rfl); (case hr => first | (go_simp; done) | (go_simp; rfl))
                   intro gb304 hg w93 hbox hb
                   have n0_ := Aside0.mk (blk_below (g := gb298) (o := .cells #[.slice (some ad303) l0_0.length c0_0, .int .i64 a0_1, .int .i64 a0_2] 45 (0, 0)) B6x3_ hb)
                   have n1_ := Aside0.mk (below_step B6x2_ hb)
                   have n2_ := Aside0.mk (hbox)
                   have n3_ := Aside0.mk ((by rw [hg]; exact (below_size B6x2_) : w.heap.size ≤ gb304))
                   have n4_ := Aside0.mk ((by rw [hg]; exact (below_size B6x2_) : w.heap.size ≤ gb304))
                   have n5_ := Aside0.mk ((by rw [hg]; exact Nat.ne_of_lt (blk_lt (g := gb298) (o := .cells #[.slice (some ad303) l0_0.length c0_0, .int .i64 a0_1, .int .i64 a0_2] 45 (0, 0)) B6x3_) : gb298 ≠ gb304))
                   have n6_ := Aside0.mk ((by rw [hg]; exact Nat.ne_of_gt (blk_lt (g := gb298) (o := .cells #[.slice (some ad303) l0_0.length c0_0, .int .i64 a0_1, .int .i64 a0_2] 45 (0, 0)) B6x3_) : gb304 ≠ gb298))
                   clear BK298
                   clear HB
                   have BK298 := n0_
                   have HB := n1_
                   have BK304 := n2_
                   have GW304 := n3_
                   have GE304 := n4_
                   have NB298_304 := n5_
                   have NB304_298 := n6_
                   clear n0_ n1_ n2_ n3_ n4_ n5_ n6_
                   clear hb hbox hg
                   refine hK.out _ _ ⟨(blk_cell BK298.out 0).trans rfl, (blk_cell BK298.out 1).trans rfl, (blk_cell BK298.out 2).trans rfl, ((HB.out.cell (World.block_lt_of_cell? w _ hw303_0)).trans hw303_0), ((HB.out.cell (World.block_lt_of_cell? w _ hw303_1)).trans hw303_1)⟩ (fun hHeld => ?_)
                   clear hK K
                   refine norm_ (a' := ?_) ?_ ?_
                   rotate_left
                   ·show Act.put _ (some 6) _ = _
                    simp only [Act.put, List.setIfInBounds_toArray, List.set_cons_zero, List.set_cons_succ, i64_w, i32_w]
                    rfl
                   refine one_ (i := 11) (N := none) #[true, true, true, true, true, true, true, true, true, true, true, true] rfl rfl (one_of HT_.out B6x5_) (by decide) (fun K hK => ?_)
                   have hs94 : w93.cell? ⟨gb304, 0, none⟩ = some (.int .i64 0) := (blk_cell BK304.out 0).trans rfl
                   have hfs94 := blk_frozen BK304.out 0
                   have hns94_0 := NB298_304.out
                   have hms94_0 := NB304_298.out
                   have hs95 : w93.cell? ⟨gb304, 1, none⟩ = some (.string (⟨#[]⟩ : ByteArray)) := (blk_cell BK304.out 1).trans rfl
                   have hfs95 := blk_frozen BK304.out 1
                   have hns95_0 := NB298_304.out
                   have hms95_0 := NB304_298.out
                   refine skip_ (w1 := ?_) (by rfl) rfl ?_ ?_
                   rotate_left
                   ·go_simp
                    rfl
                   refine hK.out _ _ ⟨((cell_far (p := ⟨gb304, _, none⟩) NB298_304.out _).trans (((cell_far (p := ⟨gb304, _, none⟩) NB298_304.out _).trans (hHeld.1)))), ((cell_far (p := ⟨gb304, _, none⟩) NB298_304.out _).trans (((cell_far (p := ⟨gb304, _, none⟩) NB298_304.out _).trans (hHeld.2.1)))), ((cell_far (p := ⟨gb304, _, none⟩) NB298_304.out _).trans (((cell_far (p := ⟨gb304, _, none⟩) NB298_304.out _).trans (hHeld.2.2.1)))), ((cell_far (p := ⟨gb304, _, none⟩) B6x0_ _).trans (((cell_far (p := ⟨gb304, _, none⟩) B6x0_ _).trans (hHeld.2.2.2.1)))), ((cell_far (p := ⟨gb304, _, none⟩) B6x1_ _).trans (((cell_far (p := ⟨gb304, _, none⟩) B6x1_ _).trans (hHeld.2.2.2.2))))⟩ (fun hHeld => ?_)
                   clear hK K
                   refine done_ (done_of HT_.out B6x5_) ?_
                   have hnb96 := NB304_298.out
                   have hnc96 := NB298_304.out
                   obtain ⟨hcz97_0, hcz97_1⟩ := cl2 BK304.out
                   obtain ⟨hfz97_0, hfz97_1⟩ := fr2 BK304.out
                   try go_wp2
                   go_roundg k4
                   case measure => have := HJ1.out; have := HJ13.out; have := HJ19.out; have := HK4.out; omega
                   case rel => exact ⟨(wrap64 (x53_4 + 1)), (be_), H', ⟨by have := HJ1.out; have := HJ13.out; have := HJ19.out; have := HK4.out; omega⟩, ⟨by (with_reducible repeat (first | refine blk_drewN ?_ _ | refine blk_drew ?_ | refine blk_alloc ?_ _)); refine blk_far ?_ NB298_304.out _; (with_reducible repeat (first | refine blk_drewN ?_ _ | refine blk_drew ?_ | refine blk_alloc ?_ _)); refine blk_far ?_ NB298_304.out _; (with_reducible repeat (first | refine blk_drewN ?_ _ | refine blk_drew ?_ | refine blk_alloc ?_ _)); exact BK298.out⟩, ⟨by repeat (first | (with_reducible first | exact HB.out | apply below_alloc | apply pw_below_drewN | apply below_drew1 | refine below_set ?_ GE298.out | refine below_set ?_ GE304.out) | exact HB.out)⟩⟩
                 ·exact absurd H (by exfalso; (try have h0_ := of_decide_eq_false c77b0); (try have g0_ := c77); omega)
              ·rw [if_neg c26] at H
               exact absurd H (by simp)
             ·rw [if_neg c25] at H
              exact absurd H (by simp)
           ·rw [if_neg c22] at H
            have c22b0 : decide (x53_4 < (l0_0.length : Int)) = false := decide_eq_false c22
            clear c22
            obtain rfl := Option.some.inj H
            go_wp2
            go_ret
            exact ⟨by first | rfl | (simp [errW_none, errW_some] <;> rfl) | (simp [*, errW_none, errW_some] <;> rfl), by repeat (first | (with_reducible first | exact HB.out | apply below_alloc | apply pw_below_drewN | apply below_drew1 | refine below_set ?_ GE298.out) | exact HB.out)⟩

end Go.Proofs.Ytideegpoakkgeaa.QFnRingsTold
