/- Functions that a law reaches, as functions of Lean, and the walks that show that the calls come to their answers: written by a program of this project out of the translation. No condition. -/
import Derived.Test.YtideegpoakkgeaaQFnRingsToldx0
import Derived.Test.YtideegpoakkgeaaQFnRingsToldx2
import Derived.Test.YtideegpoakkgeaaVFnRingsToldShort3
import Derived.Test.YtideegpoakkgeaaVFnRingsToldShort2
import Derived.Test.YtideegpoakkgeaaVFnRingsToldShort
namespace Go.Proofs.Ytideegpoakkgeaa.QFnRingsTold
open Go.RowKit Go.Proofs.YtideegpoakkgeaaW.PrintWords Go.Proofs.YtideegpoakkgeaaW.PrintLast Go.Proofs.YtideegpoakkgeaaW.PrintMore Go.Proofs.Ytideegpoakkgeaa.Short
attribute [local go_sem] max2_int min2_int max_two min_two max_three min_three max_four min_four   -- for this text's walks alone
set_option linter.unusedVariables false
set_option linter.unusedSimpArgs false

theorem B3x0_ {p : Prop} (h : p := by first | exact Nat.ne_of_lt (Nat.lt_of_lt_of_le (by have := World.block_lt_of_cell? _ _ hw140_0; first | rwa [add_block] at this | exact this) GW141.out) | (rw [add_block]; exact Nat.ne_of_lt (Nat.lt_of_lt_of_le (by have := World.block_lt_of_cell? _ _ hw140_0; first | rwa [add_block] at this | exact this) GW141.out)) | (show (Addr.add _ _).block ≠ _; rw [add_block]; exact Nat.ne_of_lt (Nat.lt_of_lt_of_le (by have := World.block_lt_of_cell? _ _ hw140_0; first | rwa [add_block] at this | exact this) GW141.out)) | (dsimp only; exact Nat.ne_of_lt (Nat.lt_of_lt_of_le (by have := World.block_lt_of_cell? _ _ hw140_0; first | rwa [add_block] at this | exact this) GW141.out))) : p := h
theorem B3x1_ {p : Prop} (h : p := by first | exact Nat.ne_of_lt (Nat.lt_of_lt_of_le (by have := World.block_lt_of_cell? _ _ hw140_1; first | rwa [add_block] at this | exact this) GW141.out) | (rw [add_block]; exact Nat.ne_of_lt (Nat.lt_of_lt_of_le (by have := World.block_lt_of_cell? _ _ hw140_1; first | rwa [add_block] at this | exact this) GW141.out)) | (show (Addr.add _ _).block ≠ _; rw [add_block]; exact Nat.ne_of_lt (Nat.lt_of_lt_of_le (by have := World.block_lt_of_cell? _ _ hw140_1; first | rwa [add_block] at this | exact this) GW141.out)) | (dsimp only; exact Nat.ne_of_lt (Nat.lt_of_lt_of_le (by have := World.block_lt_of_cell? _ _ hw140_1; first | rwa [add_block] at this | exact this) GW141.out))) : p := h
theorem B3x2_ {p : Prop} (h : p := by repeat (first | (with_reducible first | exact HB.out | apply below_alloc | apply pw_below_drewN | apply below_drew1 | refine below_set ?_ GE135.out) | exact HB.out)) : p := h
theorem B3x3_ {p : Prop} (h : p := by (with_reducible repeat (first | refine blk_drewN ?_ _ | refine blk_drew ?_ | refine blk_alloc ?_ _)); exact BK135.out) : p := h
theorem B3x4_ {p : Prop} (h : p := by first | (with_reducible assumption) | assumption) : p := h
theorem B3x5_ {p : Prop} (h : p := by kernel_rfl) : p := h
theorem B3x6_ {p : Prop} (h : p := by (try simp only [List.map_toArray, List.map_cons, List.map_nil]); first | done | rfl | (simp only [List.length_drop, List.length_take]; rfl)) : p := h
theorem B3x7_ {p : Prop} (h : p := by repeat (first | (with_reducible first | exact HB.out | apply below_alloc | apply pw_below_drewN | apply below_drew1) | exact HB.out)) : p := h
/-! ### spec_RingOk: function 31 -/
mutual
def spec_RingOk.j0 : Nat → Int → Bool → List (S105) → Int → Int → Option (Bool)
 | 0, _, _, _, _, _ => none
 | k + 1, x3, x28, x136000, x136001, x136002 => if x28 = true then (some false) else (if x3 = 0 then (none) else (if (Int.tmod (wrap64 ((wrap64 (x136001 - x136002)) + x3)) x3) = 0 then (if 0 ≤ x136001 then (if x136001 < (x136000.length : Int) then (spec_RingOk.j1 k x3 (Int.tmod (wrap64 ((wrap64 (x136001 - x136002)) + x3)) x3) (((rd_T105 x136000 x136001).f0) == 1) x136000 x136001 x136002) else (none)) else (none)) else (spec_RingOk.j1 k x3 (Int.tmod (wrap64 ((wrap64 (x136001 - x136002)) + x3)) x3) false x136000 x136001 x136002)))
def spec_RingOk.j1 : Nat → Int → Int → Bool → List (S105) → Int → Int → Option (Bool)
 | 0, _, _, _, _, _, _ => none
 | k + 1, x3, x4, x49, x136000, x136001, x136002 => if x49 = true then (spec_RingOk.j2 k x3 x3 x136000 x136001 x136002) else (spec_RingOk.j2 k x3 x4 x136000 x136001 x136002)
def spec_RingOk.j2 : Nat → Int → Int → List (S105) → Int → Int → Option (Bool)
 | 0, _, _, _, _, _ => none
 | k + 1, x3, x4, x136000, x136001, x136002 => spec_RingOk.l0 k x3 x4 0 x136000 x136001 x136002
def spec_RingOk.l0 : Nat → Int → Int → Int → List (S105) → Int → Int → Option (Bool)
 | 0, _, _, _, _, _, _ => none
 | k + 1, x3, x4, x5, x136000, x136001, x136002 => if x5 < x3 then (if x3 = 0 then (none) else (if 0 ≤ (Int.tmod (wrap64 (x136002 + x5)) x3) then (if (Int.tmod (wrap64 (x136002 + x5)) x3) < (x136000.length : Int) then (if x5 < x4 then (if ((rd_T105 x136000 (Int.tmod (wrap64 (x136002 + x5)) x3)).f0) = 1 then ((spec_l01In.f (((rd_T105 x136000 (Int.tmod (wrap64 (x136002 + x5)) x3)).f1).size : Int) 1 100).bind fun t142 => (if t142 = true then (if x5 ≥ x4 then (if ((rd_T105 x136000 (Int.tmod (wrap64 (x136002 + x5)) x3)).f0) = 0 then (if ((rd_T105 x136000 (Int.tmod (wrap64 (x136002 + x5)) x3)).f1).toList = ([] : List UInt8) then (spec_RingOk.l0 k x3 x4 (wrap64 (x5 + 1)) x136000 x136001 x136002) else (some false)) else (some false)) else (spec_RingOk.l0 k x3 x4 (wrap64 (x5 + 1)) x136000 x136001 x136002)) else (some false))) else (some false)) else (if x5 ≥ x4 then (if ((rd_T105 x136000 (Int.tmod (wrap64 (x136002 + x5)) x3)).f0) = 0 then (if ((rd_T105 x136000 (Int.tmod (wrap64 (x136002 + x5)) x3)).f1).toList = ([] : List UInt8) then (spec_RingOk.l0 k x3 x4 (wrap64 (x5 + 1)) x136000 x136001 x136002) else (some false)) else (some false)) else (spec_RingOk.l0 k x3 x4 (wrap64 (x5 + 1)) x136000 x136001 x136002))) else (none)) else (none))) else (some true)
end
def spec_RingOk.f (k : Nat) (l0_0 : List (S105)) (a0_1 : Int) (a0_2 : Int) : Option (Bool) := (spec_l01In.f (l0_0.length : Int) 1 8).bind fun t136 => (if t136 = true then ((spec_l01In.f a0_1 0 (wrap64 ((l0_0.length : Int) - 1))).bind fun t137 => (if t137 = true then ((spec_l01In.f a0_2 0 (wrap64 ((l0_0.length : Int) - 1))).bind fun t138 => (spec_RingOk.j0 k (l0_0.length : Int) (!t138) l0_0 a0_1 a0_2)) else (spec_RingOk.j0 k (l0_0.length : Int) true l0_0 a0_1 a0_2))) else (spec_RingOk.j0 k (l0_0.length : Int) true l0_0 a0_1 a0_2))
theorem spec_RingOk.mono_l : ∀ k, (∀ y0 y1 y2 y3 y4, LeO (spec_RingOk.j0 k y0 y1 y2 y3 y4) (spec_RingOk.j0 (k + 1) y0 y1 y2 y3 y4)) ∧ (∀ y0 y1 y2 y3 y4 y5, LeO (spec_RingOk.j1 k y0 y1 y2 y3 y4 y5) (spec_RingOk.j1 (k + 1) y0 y1 y2 y3 y4 y5)) ∧ (∀ y0 y1 y2 y3 y4, LeO (spec_RingOk.j2 k y0 y1 y2 y3 y4) (spec_RingOk.j2 (k + 1) y0 y1 y2 y3 y4)) ∧ (∀ y0 y1 y2 y3 y4 y5, LeO (spec_RingOk.l0 k y0 y1 y2 y3 y4 y5) (spec_RingOk.l0 (k + 1) y0 y1 y2 y3 y4 y5))
 | 0 => ⟨fun _ _ _ _ _ r h => by simp [spec_RingOk.j0] at h, fun _ _ _ _ _ _ r h => by simp [spec_RingOk.j1] at h, fun _ _ _ _ _ r h => by simp [spec_RingOk.j2] at h, fun _ _ _ _ _ _ r h => by simp [spec_RingOk.l0] at h⟩
 | k + 1 => by
  obtain ⟨ih0, ih1, ih2, ih3⟩ := spec_RingOk.mono_l k
  refine ⟨?_, ?_, ?_, ?_⟩
  ·intro y0 y1 y2 y3 y4
   unfold spec_RingOk.j0
   repeat' first
   | (with_reducible exact ih0 _ _ _ _ _)
   | (with_reducible exact ih1 _ _ _ _ _ _)
   | (with_reducible exact ih2 _ _ _ _ _)
   | (with_reducible exact ih3 _ _ _ _ _ _)
   | (with_reducible exact LeO.refl _)
   | (with_reducible exact LeO.none _)
   | (with_reducible refine LeO.ite ?_ ?_)
   | (with_reducible refine LeO.bind ?_ (fun _ => ?_))
   | exact ih0 _ _ _ _ _
   | exact ih1 _ _ _ _ _ _
   | exact ih2 _ _ _ _ _
   | exact ih3 _ _ _ _ _ _
   | exact LeO.none _
   | refine LeO.ite ?_ ?_
   | refine LeO.bind ?_ (fun _ => ?_)
  ·intro y0 y1 y2 y3 y4 y5
   unfold spec_RingOk.j1
   repeat' first
   | (with_reducible exact ih0 _ _ _ _ _)
   | (with_reducible exact ih1 _ _ _ _ _ _)
   | (with_reducible exact ih2 _ _ _ _ _)
   | (with_reducible exact ih3 _ _ _ _ _ _)
   | (with_reducible exact LeO.refl _)
   | (with_reducible exact LeO.none _)
   | (with_reducible refine LeO.ite ?_ ?_)
   | (with_reducible refine LeO.bind ?_ (fun _ => ?_))
   | exact ih0 _ _ _ _ _
   | exact ih1 _ _ _ _ _ _
   | exact ih2 _ _ _ _ _
   | exact ih3 _ _ _ _ _ _
   | exact LeO.none _
   | refine LeO.ite ?_ ?_
   | refine LeO.bind ?_ (fun _ => ?_)
  ·intro y0 y1 y2 y3 y4
   unfold spec_RingOk.j2
   repeat' first
   | (with_reducible exact ih0 _ _ _ _ _)
   | (with_reducible exact ih1 _ _ _ _ _ _)
   | (with_reducible exact ih2 _ _ _ _ _)
   | (with_reducible exact ih3 _ _ _ _ _ _)
   | (with_reducible exact LeO.refl _)
   | (with_reducible exact LeO.none _)
   | (with_reducible refine LeO.ite ?_ ?_)
   | (with_reducible refine LeO.bind ?_ (fun _ => ?_))
   | exact ih0 _ _ _ _ _
   | exact ih1 _ _ _ _ _ _
   | exact ih2 _ _ _ _ _
   | exact ih3 _ _ _ _ _ _
   | exact LeO.none _
   | refine LeO.ite ?_ ?_
   | refine LeO.bind ?_ (fun _ => ?_)
  ·intro y0 y1 y2 y3 y4 y5
   unfold spec_RingOk.l0
   repeat' first
   | (with_reducible exact ih0 _ _ _ _ _)
   | (with_reducible exact ih1 _ _ _ _ _ _)
   | (with_reducible exact ih2 _ _ _ _ _)
   | (with_reducible exact ih3 _ _ _ _ _ _)
   | (with_reducible exact LeO.refl _)
   | (with_reducible exact LeO.none _)
   | (with_reducible refine LeO.ite ?_ ?_)
   | (with_reducible refine LeO.bind ?_ (fun _ => ?_))
   | exact ih0 _ _ _ _ _
   | exact ih1 _ _ _ _ _ _
   | exact ih2 _ _ _ _ _
   | exact ih3 _ _ _ _ _ _
   | exact LeO.none _
   | refine LeO.ite ?_ ?_
   | refine LeO.bind ?_ (fun _ => ?_)
theorem spec_RingOk.mono : ∀ a0 a1 a2 k, LeO (spec_RingOk.f k a0 a1 a2) (spec_RingOk.f (k + 1) a0 a1 a2) := by
 intro a0 a1 a2 k
 obtain ⟨ih0, ih1, ih2, ih3⟩ := spec_RingOk.mono_l k
 unfold spec_RingOk.f
 repeat' first
   | (with_reducible exact ih0 _ _ _ _ _)
   | (with_reducible exact ih1 _ _ _ _ _ _)
   | (with_reducible exact ih2 _ _ _ _ _)
   | (with_reducible exact ih3 _ _ _ _ _ _)
   | (with_reducible exact LeO.refl _)
   | (with_reducible exact LeO.none _)
   | (with_reducible refine LeO.ite ?_ ?_)
   | (with_reducible refine LeO.bind ?_ (fun _ => ?_))
   | exact ih0 _ _ _ _ _
   | exact ih1 _ _ _ _ _ _
   | exact ih2 _ _ _ _ _
   | exact ih3 _ _ _ _ _ _
   | exact LeO.none _
   | refine LeO.ite ?_ ?_
   | refine LeO.bind ?_ (fun _ => ?_)
def spec_RingOk.T10 : Bool × List (List Nat × List Nat) := (true, [([], []), ([0], [0]), ([], []), ([2], [2]), ([], []), ([3, 4], [3, 4]), ([], []), ([5, 6], [5, 6]), ([1, 7], [1, 7]), ([8], [8]), ([], []), ([10, 9, 0, 1, 2, 3, 4, 5, 6, 7, 8, 9, 10], [9, 10])])
def spec_RingOk.B10 : List Nat := [0, 1, 0, 4, 0, 28, 0, 124, 255, 511, 0, 2047]
theorem spec_RingOk.tab10 : rtab .any (opsOf Try.f31 10) = spec_RingOk.T10 := by kernel_rfl
theorem spec_RingOk.bits10 : waitsOk spec_RingOk.T10.2 spec_RingOk.B10 = true := by kernel_rfl
set_option maxHeartbeats 8000000 in
set_option maxRecDepth 100000 in
theorem spec_RingOk.calls (k : Nat) (A0_0 : Option Addr) (c0_0 : Nat) (l0_0 : List (S105)) (a0_1 : Int) (a0_2 : Int) (r : Bool) (w : World) (hr0_0 : Kd.C k105 w A0_0 l0_0.length l0_0) (hc0_0 : l0_0.length ≤ c0_0) (h : spec_RingOk.f k l0_0 a0_1 a0_2 = some r) :
  Calls Try.prog 31 #[.agg #[.slice A0_0 l0_0.length c0_0, .int .i64 a0_1, .int .i64 a0_2]] w fun e w' => e = .returned (.bool r) ∧ Below w.heap.size w w' := by
 have hu45 := Try.underlying45
 have hu105 := Try.underlying105
 have HR0_0 := Aside0.mk hr0_0
 have HC0_0 := Aside0.mk hc0_0
 clear hr0_0 hc0_0
 have HB := Aside0.mk (Below.refl w.heap.size w)
 have H : ((spec_l01In.f (l0_0.length : Int) 1 8).bind fun t136 => (if t136 = true then ((spec_l01In.f a0_1 0 (wrap64 ((l0_0.length : Int) - 1))).bind fun t137 => (if t137 = true then ((spec_l01In.f a0_2 0 (wrap64 ((l0_0.length : Int) - 1))).bind fun t138 => (spec_RingOk.j0 k (l0_0.length : Int) (!t138) l0_0 a0_1 a0_2)) else (spec_RingOk.j0 k (l0_0.length : Int) true l0_0 a0_1 a0_2))) else (spec_RingOk.j0 k (l0_0.length : Int) true l0_0 a0_1 a0_2))) = some r := h
 clear h
 have HC2 := Aside0.mk H
 clear H
 go_enter Try.func31, Try.ntmps31
 go_upto_region 2 with (first | ((with_reducible refine gate_dst (N := 1) rfl ?_); (try (refine gate_guard (by rfl) ?_; dsimp only)); refine box_event ?hg (N := 1) ?hd (cs := #[.slice A0_0 l0_0.length c0_0, .int .i64 a0_1, .int .i64 a0_2]) (t := 45) ?hr ?_; (case hd => rfl); (case hg => rfl); (case hr => first | (go_simp; done) | (go_simp; rfl)); intro gb135 hg w3 hbox hb; have n0_ := Aside0.mk (below_step B3x7_ hb); have n1_ := Aside0.mk (hbox); have n2_ := Aside0.mk ((by rw [hg]; exact (below_size B3x7_) : w.heap.size ≤ gb135)); have n3_ := Aside0.mk ((by rw [hg]; exact (below_size B3x7_) : w.heap.size ≤ gb135)); clear HB; have HB := n0_; have BK135 := n1_; have GW135 := n2_; have GE135 := n3_; clear n0_ n1_ n2_ n3_; clear hb hbox hg; obtain ⟨hcz4_0, hcz4_1, hcz4_2⟩ := cl3 BK135.out; obtain ⟨hfz4_0, hfz4_1, hfz4_2⟩ := fr3 BK135.out))
 (try simp only [Act.put, List.setIfInBounds_toArray, List.set_cons_zero, List.set_cons_succ])
 go_cut [28] (fun v28 wc => ∃ (kq : Nat) (x28_1 : Bool), v28 = .bool x28_1 ∧ Aside0 (spec_RingOk.j0 kq (l0_0.length : Int) x28_1 l0_0 a0_1 a0_2 = some r) ∧ Aside0 (kq ≤ k) ∧ Aside0 (wc.heap[gb135]? = some (.cells #[(.slice A0_0 l0_0.length c0_0), .int .i64 a0_1, .int .i64 a0_2] 45 (0, 0))) ∧ Aside0 (Below w.heap.size w wc))
 case first =>
  have H := HC2.out
  clear HC2
  replace H := Option.bind_eq_some_iff.mp H
  obtain ⟨t136, A50, H⟩ := H
  (try dsimp only at H)
  have A5 := Aside0.mk A50
  clear A50
  by_cases c6 : t136 = true
  ·subst c6
   rw [if_pos rfl] at H
   replace H := Option.bind_eq_some_iff.mp H
   obtain ⟨t137, A70, H⟩ := H
   (try dsimp only at H)
   have A7 := Aside0.mk A70
   clear A70
   by_cases c8 : t137 = true
   ·subst c8
    rw [if_pos rfl] at H
    replace H := Option.bind_eq_some_iff.mp H
    obtain ⟨t138, A90, H⟩ := H
    (try dsimp only at H)
    have A9 := Aside0.mk A90
    clear A90
    have H' := Aside0.mk H
    clear H
    go_wp2_with (first | ((with_reducible refine gate_callee (f := 53) rfl ?_); refine goesL_ (some 11) rfl rfl Try.func53 B3x5_ rfl #[.int .i64 (l0_0.length : Int), .int .i64 1, .int .i64 8] rfl B3x6_ ?_; (with_reducible refine (spec_l01In.calls (l0_0.length : Int) 1 8 true _ A5.out).mono ?_); rintro e w' ⟨rfl, ⟨nd, rfl⟩⟩; refine ⟨_, rfl, ?_⟩; obtain ⟨hcz10_0, hcz10_1, hcz10_2⟩ := cl3 BK135.out; obtain ⟨hfz10_0, hfz10_1, hfz10_2⟩ := fr3 BK135.out) | (go_at_call 53; (with_reducible refine (spec_l01In.calls a0_1 0 (wrap64 ((l0_0.length : Int) - 1)) true _ A7.out).mono ?_); rintro e w' ⟨rfl, ⟨nd, rfl⟩⟩) | (go_at_call 53; (with_reducible refine (spec_l01In.calls a0_2 0 (wrap64 ((l0_0.length : Int) - 1)) t138 _ A9.out).mono ?_); rintro e w' ⟨rfl, ⟨nd, rfl⟩⟩))
    go_meet
    case rel => exact ⟨_, (!t138), (be_), H', ⟨by first | omega | exact Nat.le_refl _⟩, ⟨by (with_reducible repeat (first | refine blk_drewN ?_ _ | refine blk_drew ?_ | refine blk_alloc ?_ _)); exact BK135.out⟩, ⟨by repeat (first | (with_reducible first | exact HB.out | apply below_alloc | apply pw_below_drewN | apply below_drew1 | refine below_set ?_ GE135.out) | exact HB.out)⟩⟩
   ·replace c8 := Bool.eq_false_iff.mpr c8
    subst c8
    rw [if_neg (show ¬ (false = true) by decide)] at H
    have H' := Aside0.mk H
    clear H
    go_wp2_with (first | ((with_reducible refine gate_callee (f := 53) rfl ?_); refine goesL_ (some 11) rfl rfl Try.func53 B3x5_ rfl #[.int .i64 (l0_0.length : Int), .int .i64 1, .int .i64 8] rfl B3x6_ ?_; (with_reducible refine (spec_l01In.calls (l0_0.length : Int) 1 8 true _ A5.out).mono ?_); rintro e w' ⟨rfl, ⟨nd, rfl⟩⟩; refine ⟨_, rfl, ?_⟩; obtain ⟨hcz11_0, hcz11_1, hcz11_2⟩ := cl3 BK135.out; obtain ⟨hfz11_0, hfz11_1, hfz11_2⟩ := fr3 BK135.out) | (go_at_call 53; (with_reducible refine (spec_l01In.calls a0_1 0 (wrap64 ((l0_0.length : Int) - 1)) false _ A7.out).mono ?_); rintro e w' ⟨rfl, ⟨nd, rfl⟩⟩))
    go_meet
    case rel => exact ⟨_, (true), (be_), H', ⟨by first | omega | exact Nat.le_refl _⟩, ⟨by (with_reducible repeat (first | refine blk_drewN ?_ _ | refine blk_drew ?_ | refine blk_alloc ?_ _)); exact BK135.out⟩, ⟨by repeat (first | (with_reducible first | exact HB.out | apply below_alloc | apply pw_below_drewN | apply below_drew1 | refine below_set ?_ GE135.out) | exact HB.out)⟩⟩
  ·replace c6 := Bool.eq_false_iff.mpr c6
   subst c6
   rw [if_neg (show ¬ (false = true) by decide)] at H
   have H' := Aside0.mk H
   clear H
   go_wp2_with (first | ((with_reducible refine gate_callee (f := 53) rfl ?_); refine goesL_ (some 11) rfl rfl Try.func53 B3x5_ rfl #[.int .i64 (l0_0.length : Int), .int .i64 1, .int .i64 8] rfl B3x6_ ?_; (with_reducible refine (spec_l01In.calls (l0_0.length : Int) 1 8 false _ A5.out).mono ?_); rintro e w' ⟨rfl, ⟨nd, rfl⟩⟩; refine ⟨_, rfl, ?_⟩))
   go_meet
   case rel => exact ⟨_, (true), (be_), H', ⟨by first | omega | exact Nat.le_refl _⟩, ⟨by (with_reducible repeat (first | refine blk_drewN ?_ _ | refine blk_drew ?_ | refine blk_alloc ?_ _)); exact BK135.out⟩, ⟨by repeat (first | (with_reducible first | exact HB.out | apply below_alloc | apply pw_below_drewN | apply below_drew1 | refine below_set ?_ GE135.out) | exact HB.out)⟩⟩
 case rest =>
  clear HC2
  try clear p2
  try clear c3
  try clear c5
  try clear c6
  try clear p6
  try clear c8
  try clear hcz10_0
  try clear hcz10_1
  try clear hcz10_2
  try clear hcz11_0
  try clear hcz11_1
  try clear hcz11_2
  try clear hcz4_0
  try clear hcz4_1
  try clear hcz4_2
  try clear hfz10_0
  try clear hfz10_1
  try clear hfz10_2
  try clear hfz11_0
  try clear hfz11_1
  try clear hfz11_2
  try clear hfz4_0
  try clear hfz4_1
  try clear hfz4_2
  obtain ⟨kq, x28_1, rfl, HA, HJ1, BK135, HB⟩ := hcut
  cases kq with
  | zero => exact absurd HA.out (by simp [spec_RingOk.j0])
  | succ kj1 =>
   have H := HA.out
   clear HA
   simp only [spec_RingOk.j0] at H
   by_cases c12 : x28_1 = true
   ·subst c12
    rw [if_pos rfl] at H
    obtain rfl := Option.some.inj H
    go_wp2
    go_ret
    exact ⟨by first | rfl | (simp [errW_none, errW_some] <;> rfl) | (simp [*, errW_none, errW_some] <;> rfl), by repeat (first | (with_reducible first | exact HB.out | apply below_alloc | apply pw_below_drewN | apply below_drew1 | refine below_set ?_ GE135.out) | exact HB.out)⟩
   ·replace c12 := Bool.eq_false_iff.mpr c12
    subst c12
    rw [if_neg (show ¬ (false = true) by decide)] at H
    by_cases c13 : (l0_0.length : Int) = 0
    ·rw [if_pos c13] at H
     exact absurd H (by simp)
    ·rw [if_neg c13] at H
     have c13b0 : ((l0_0.length : Int) == 0) = false := beq_eq_false_iff_ne.mpr c13
     have c13b1 : ((l0_0.length : Int) != 0) = true := bne_iff_ne.mpr c13
     have c13b2 : ¬ (l0_0 = []) := fun h_ => c13 (by rw [h_]; rfl)
     have HC14 := Aside0.mk H
     clear H
     obtain ⟨hcz15_0, hcz15_1, hcz15_2⟩ := cl3 BK135.out
     obtain ⟨hfz15_0, hfz15_1, hfz15_2⟩ := fr3 BK135.out
     go_upto_region 5 with (fail)
     go_cut [49] (fun v49 wc => ∃ (kq : Nat) (x49_13 : Bool), v49 = .bool x49_13 ∧ Aside0 (spec_RingOk.j1 kq (l0_0.length : Int) (Int.tmod (wrap64 ((wrap64 (a0_1 - a0_2)) + (l0_0.length : Int))) (l0_0.length : Int)) x49_13 l0_0 a0_1 a0_2 = some r) ∧ Aside0 (kq ≤ kj1) ∧ Aside0 (wc.heap[gb135]? = some (.cells #[(.slice A0_0 l0_0.length c0_0), .int .i64 a0_1, .int .i64 a0_2] 45 (0, 0))) ∧ Aside0 (Below w.heap.size w wc))
     case first =>
      have H := HC14.out
      clear HC14
      by_cases c16 : (Int.tmod (wrap64 ((wrap64 (a0_1 - a0_2)) + (l0_0.length : Int))) (l0_0.length : Int)) = 0
      ·rw [if_pos c16] at H
       have c16b0 : ((Int.tmod (wrap64 ((wrap64 (a0_1 - a0_2)) + (l0_0.length : Int))) (l0_0.length : Int)) == 0) = true := beq_iff_eq.mpr c16
       have c16b1 : ((Int.tmod (wrap64 ((wrap64 (a0_1 - a0_2)) + (l0_0.length : Int))) (l0_0.length : Int)) != 0) = false := bne_eq_false_iff_eq.mpr c16
       clear c16
       (first | rw [c16b0] | (simp only [i64_w, i32_w]; rw [c16b0]) | skip)
       by_cases c17 : 0 ≤ a0_1
       ·rw [if_pos c17] at H
        have c17b0 : decide (0 ≤ a0_1) = true := decide_eq_true c17
        clear c17
        by_cases c18 : a0_1 < (l0_0.length : Int)
        ·rw [if_pos c18] at H
         have c18b0 : decide (a0_1 < (l0_0.length : Int)) = true := decide_eq_true c18
         clear c18
         have H' := Aside0.mk H
         clear H
         obtain ⟨hcz19_0, hcz19_1, hcz19_2⟩ := cl3 BK135.out
         obtain ⟨hfz19_0, hfz19_1, hfz19_2⟩ := fr3 BK135.out
         have p139 : 0 ≤ (a0_1 : Int) := of_decide_eq_true B3x4_
         have q139 : a0_1 < (l0_0.length : Int) := of_decide_eq_true B3x4_
         obtain ⟨ad139, e139, hx139_0, hx139_1⟩ := at_T105 HR0_0.out a0_1 p139 q139
         cases e139
         replace hx139_0 := (HB.out.cell (World.block_lt_of_cell? w _ hx139_0)).trans hx139_0
         replace hx139_1 := (HB.out.cell (World.block_lt_of_cell? w _ hx139_1)).trans hx139_1
         replace p139 := eq_true p139
         replace q139 := eq_true q139
         go_wp2
         go_meet
         case rel => exact ⟨_, ((((rd_T105 l0_0 a0_1).f0) == 1)), (be_), H', ⟨by have := HJ1.out; first | omega | exact Nat.le_refl _⟩, ⟨by (with_reducible repeat (first | refine blk_drewN ?_ _ | refine blk_drew ?_ | refine blk_alloc ?_ _)); exact BK135.out⟩, ⟨by repeat (first | (with_reducible first | exact HB.out | apply below_alloc | apply pw_below_drewN | apply below_drew1 | refine below_set ?_ GE135.out) | exact HB.out)⟩⟩
        ·rw [if_neg c18] at H
         exact absurd H (by simp)
       ·rw [if_neg c17] at H
        exact absurd H (by simp)
      ·rw [if_neg c16] at H
       have c16b0 : ((Int.tmod (wrap64 ((wrap64 (a0_1 - a0_2)) + (l0_0.length : Int))) (l0_0.length : Int)) == 0) = false := beq_eq_false_iff_ne.mpr c16
       have c16b1 : ((Int.tmod (wrap64 ((wrap64 (a0_1 - a0_2)) + (l0_0.length : Int))) (l0_0.length : Int)) != 0) = true := bne_iff_ne.mpr c16
       (first | rw [c16b0] | (simp only [i64_w, i32_w]; rw [c16b0]) | skip)
       have H' := Aside0.mk H
       clear H
       go_wp2
       go_meet
       case rel => exact ⟨_, (false), (be_), H', ⟨by have := HJ1.out; first | omega | exact Nat.le_refl _⟩, ⟨by (with_reducible repeat (first | refine blk_drewN ?_ _ | refine blk_drew ?_ | refine blk_alloc ?_ _)); exact BK135.out⟩, ⟨by repeat (first | (with_reducible first | exact HB.out | apply below_alloc | apply pw_below_drewN | apply below_drew1 | refine below_set ?_ GE135.out) | exact HB.out)⟩⟩
     case rest =>
      clear HC14
      try clear c1
      try clear p1
      try clear q1
      try clear hx1
      try clear p2
      try clear c3
      try clear c5
      try clear c6
      try clear p6
      try clear c8
      try clear c12
      try clear c13
      try clear c13b0
      try clear c13b1
      try clear c13b2
      try clear p13
      try clear q13
      try clear hx13
      try clear c16
      try clear c16b0
      try clear c16b1
      try clear c17
      try clear c17b0
      try clear c18
      try clear c18b0
      try clear hcz10_0
      try clear hcz10_1
      try clear hcz10_2
      try clear hcz11_0
      try clear hcz11_1
      try clear hcz11_2
      try clear hcz15_0
      try clear hcz15_1
      try clear hcz15_2
      try clear hcz19_0
      try clear hcz19_1
      try clear hcz19_2
      try clear hcz4_0
      try clear hcz4_1
      try clear hcz4_2
      try clear hfz10_0
      try clear hfz10_1
      try clear hfz10_2
      try clear hfz11_0
      try clear hfz11_1
      try clear hfz11_2
      try clear hfz15_0
      try clear hfz15_1
      try clear hfz15_2
      try clear hfz19_0
      try clear hfz19_1
      try clear hfz19_2
      try clear hfz4_0
      try clear hfz4_1
      try clear hfz4_2
      try clear hx139_0
      try clear hx139_1
      try clear p139
      try clear p2
      try clear p6
      try clear q139
      obtain ⟨kq, x49_13, rfl, HA, HJ13, BK135, HB⟩ := hcut
      cases kq with
      | zero => exact absurd HA.out (by simp [spec_RingOk.j1])
      | succ kj13 =>
       have H := HA.out
       clear HA
       simp only [spec_RingOk.j1] at H
       have HC20 := Aside0.mk H
       clear H
       go_upto_if 49 with (fail)
       go_cut [4] (fun v4 wc => ∃ (kq : Nat) (x4_19 : Int), v4 = .int .i64 x4_19 ∧ Aside0 (spec_RingOk.j2 kq (l0_0.length : Int) x4_19 l0_0 a0_1 a0_2 = some r) ∧ Aside0 (kq ≤ kj13) ∧ Aside0 (wc.heap[gb135]? = some (.cells #[(.slice A0_0 l0_0.length c0_0), .int .i64 a0_1, .int .i64 a0_2] 45 (0, 0))) ∧ Aside0 (Below w.heap.size w wc))
       case first =>
        have H := HC20.out
        clear HC20
        by_cases c21 : x49_13 = true
        ·subst c21
         rw [if_pos rfl] at H
         have H' := Aside0.mk H
         clear H
         go_wp2
         go_meet
         case rel => exact ⟨_, ((l0_0.length : Int)), (be_), H', ⟨by have := HJ1.out; have := HJ13.out; first | omega | exact Nat.le_refl _⟩, ⟨by (with_reducible repeat (first | refine blk_drewN ?_ _ | refine blk_drew ?_ | refine blk_alloc ?_ _)); exact BK135.out⟩, ⟨by repeat (first | (with_reducible first | exact HB.out | apply below_alloc | apply pw_below_drewN | apply below_drew1 | refine below_set ?_ GE135.out) | exact HB.out)⟩⟩
        ·replace c21 := Bool.eq_false_iff.mpr c21
         subst c21
         rw [if_neg (show ¬ (false = true) by decide)] at H
         have H' := Aside0.mk H
         clear H
         go_wp2
         go_meet
         case rel => exact ⟨_, ((Int.tmod (wrap64 ((wrap64 (a0_1 - a0_2)) + (l0_0.length : Int))) (l0_0.length : Int))), (be_), H', ⟨by have := HJ1.out; have := HJ13.out; first | omega | exact Nat.le_refl _⟩, ⟨by (with_reducible repeat (first | refine blk_drewN ?_ _ | refine blk_drew ?_ | refine blk_alloc ?_ _)); exact BK135.out⟩, ⟨by repeat (first | (with_reducible first | exact HB.out | apply below_alloc | apply pw_below_drewN | apply below_drew1 | refine below_set ?_ GE135.out) | exact HB.out)⟩⟩
       case rest =>
        clear HC20
        try clear c1
        try clear p1
        try clear q1
        try clear hx1
        try clear c2
        try clear p2
        try clear c3
        try clear c5
        try clear c6
        try clear p6
        try clear c8
        try clear c12
        try clear c13
        try clear c13b0
        try clear c13b1
        try clear c13b2
        try clear p13
        try clear q13
        try clear hx13
        try clear c16
        try clear c16b0
        try clear c16b1
        try clear c17
        try clear c17b0
        try clear c18
        try clear c18b0
        try clear c21
        try clear hcz10_0
        try clear hcz10_1
        try clear hcz10_2
        try clear hcz11_0
        try clear hcz11_1
        try clear hcz11_2
        try clear hcz15_0
        try clear hcz15_1
        try clear hcz15_2
        try clear hcz19_0
        try clear hcz19_1
        try clear hcz19_2
        try clear hcz4_0
        try clear hcz4_1
        try clear hcz4_2
        try clear hfz10_0
        try clear hfz10_1
        try clear hfz10_2
        try clear hfz11_0
        try clear hfz11_1
        try clear hfz11_2
        try clear hfz15_0
        try clear hfz15_1
        try clear hfz15_2
        try clear hfz19_0
        try clear hfz19_1
        try clear hfz19_2
        try clear hfz4_0
        try clear hfz4_1
        try clear hfz4_2
        try clear hx139_0
        try clear hx139_1
        try clear p1
        try clear p13
        try clear p139
        try clear p2
        try clear p6
        try clear q1
        try clear q13
        try clear q139
        obtain ⟨kq, x4_19, rfl, HA, HJ19, BK135, HB⟩ := hcut
        cases kq with
        | zero => exact absurd HA.out (by simp [spec_RingOk.j2])
        | succ kj19 =>
         have H := HA.out
         clear HA
         simp only [spec_RingOk.j2] at H
         have H' := Aside0.mk H
         clear H
         go_wp2
         go_loopg [5] kj19 (fun kq v5 w' => ∃ (x5_4 : Int), v5 = .int .i64 x5_4 ∧ Aside0 (spec_RingOk.l0 kq (l0_0.length : Int) x4_19 x5_4 l0_0 a0_1 a0_2 = some r) ∧ Aside0 (kq ≤ kj19) ∧ Aside0 (w'.heap[gb135]? = some (.cells #[(.slice A0_0 l0_0.length c0_0), .int .i64 a0_1, .int .i64 a0_2] 45 (0, 0))) ∧ Aside0 (Below w.heap.size w w'))
         case atStart => exact ⟨(0), (be_), H', ⟨Nat.le_refl _⟩, ⟨by (with_reducible repeat (first | refine blk_drewN ?_ _ | refine blk_drew ?_ | refine blk_alloc ?_ _)); exact BK135.out⟩, ⟨by repeat (first | (with_reducible first | exact HB.out | apply below_alloc | apply pw_below_drewN | apply below_drew1 | refine below_set ?_ GE135.out) | exact HB.out)⟩⟩
         case round =>
          clear H'
          try clear c1
          try clear p1
          try clear q1
          try clear hx1
          try clear c2
          try clear p2
          try clear c3
          try clear c5
          try clear c6
          try clear p6
          try clear c8
          try clear c12
          try clear c13
          try clear c13b0
          try clear c13b1
          try clear c13b2
          try clear p13
          try clear q13
          try clear hx13
          try clear c16
          try clear c16b0
          try clear c16b1
          try clear c17
          try clear c17b0
          try clear c18
          try clear c18b0
          try clear c21
          try clear hcz10_0
          try clear hcz10_1
          try clear hcz10_2
          try clear hcz11_0
          try clear hcz11_1
          try clear hcz11_2
          try clear hcz15_0
          try clear hcz15_1
          try clear hcz15_2
          try clear hcz19_0
          try clear hcz19_1
          try clear hcz19_2
          try clear hcz4_0
          try clear hcz4_1
          try clear hcz4_2
          try clear hfz10_0
          try clear hfz10_1
          try clear hfz10_2
          try clear hfz11_0
          try clear hfz11_1
          try clear hfz11_2
          try clear hfz15_0
          try clear hfz15_1
          try clear hfz15_2
          try clear hfz19_0
          try clear hfz19_1
          try clear hfz19_2
          try clear hfz4_0
          try clear hfz4_1
          try clear hfz4_2
          try clear hx139_0
          try clear hx139_1
          try clear p1
          try clear p13
          try clear p139
          try clear p2
          try clear p6
          try clear q1
          try clear q13
          try clear q139
          obtain ⟨x5_4, rfl, HA, HK4, BK135, HB⟩ := hrel
          cases gk with
          | zero => exact absurd HA.out (by simp [spec_RingOk.l0])
          | succ k4 =>
           have H := HA.out
           clear HA
           simp only [spec_RingOk.l0] at H
           by_cases c22 : x5_4 < (l0_0.length : Int)
           ·rw [if_pos c22] at H
            have c22b0 : decide (x5_4 < (l0_0.length : Int)) = true := decide_eq_true c22
            clear c22
            by_cases c23 : (l0_0.length : Int) = 0
            ·rw [if_pos c23] at H
             exact absurd H (by simp)
            ·rw [if_neg c23] at H
             have c23b0 : ((l0_0.length : Int) == 0) = false := beq_eq_false_iff_ne.mpr c23
             have c23b1 : ((l0_0.length : Int) != 0) = true := bne_iff_ne.mpr c23
             have c23b2 : ¬ (l0_0 = []) := fun h_ => c23 (by rw [h_]; rfl)
             obtain ⟨ji24, hji24⟩ : ∃ j_ : Int, (Int.tmod (wrap64 (a0_2 + x5_4)) (l0_0.length : Int)) = j_ := ⟨_, rfl⟩
             replace H : (if 0 ≤ (ji24) then (if (ji24) < (l0_0.length : Int) then (if x5_4 < x4_19 then (if ((rd_T105 l0_0 (ji24)).f0) = 1 then ((spec_l01In.f (((rd_T105 l0_0 (ji24)).f1).size : Int) 1 100).bind fun t142 => (if t142 = true then (if x5_4 ≥ x4_19 then (if ((rd_T105 l0_0 (ji24)).f0) = 0 then (if ((rd_T105 l0_0 (ji24)).f1).toList = ([] : List UInt8) then (spec_RingOk.l0 k4 (l0_0.length : Int) x4_19 (wrap64 (x5_4 + 1)) l0_0 a0_1 a0_2) else (some false)) else (some false)) else (spec_RingOk.l0 k4 (l0_0.length : Int) x4_19 (wrap64 (x5_4 + 1)) l0_0 a0_1 a0_2)) else (some false))) else (some false)) else (if x5_4 ≥ x4_19 then (if ((rd_T105 l0_0 (ji24)).f0) = 0 then (if ((rd_T105 l0_0 (ji24)).f1).toList = ([] : List UInt8) then (spec_RingOk.l0 k4 (l0_0.length : Int) x4_19 (wrap64 (x5_4 + 1)) l0_0 a0_1 a0_2) else (some false)) else (some false)) else (spec_RingOk.l0 k4 (l0_0.length : Int) x4_19 (wrap64 (x5_4 + 1)) l0_0 a0_1 a0_2))) else (none)) else (none)) = some r := by first | (rw [hji24] at H; exact H) | (simp only [hji24] at H ⊢; exact H)
             by_cases c25 : 0 ≤ (ji24)
             ·rw [if_pos c25] at H
              have c25b0 : decide (0 ≤ (ji24)) = true := decide_eq_true c25
              clear c25
              by_cases c26 : (ji24) < (l0_0.length : Int)
              ·rw [if_pos c26] at H
               have c26b0 : decide ((ji24) < (l0_0.length : Int)) = true := decide_eq_true c26
               clear c26
               by_cases c27 : x5_4 < x4_19
               ·rw [if_pos c27] at H
                have c27b0 : decide (x5_4 < x4_19) = true := decide_eq_true c27
                clear c27
                by_cases c28 : ((rd_T105 l0_0 (ji24)).f0) = 1
                ·rw [if_pos c28] at H
                 have c28b0 : (((rd_T105 l0_0 (ji24)).f0) == 1) = true := beq_iff_eq.mpr c28
                 have c28b1 : (((rd_T105 l0_0 (ji24)).f0) != 1) = false := bne_eq_false_iff_eq.mpr c28
                 clear c28
                 replace H := Option.bind_eq_some_iff.mp H
                 obtain ⟨t142, A290, H⟩ := H
                 (try dsimp only at H)
                 have A29 := Aside0.mk A290
                 clear A290
                 by_cases c30 : t142 = true
                 ·subst c30
                  rw [if_pos rfl] at H
                  by_cases c31 : x5_4 ≥ x4_19
                  ·exact absurd H (by exfalso; (try have h0_ := of_decide_eq_true c27b0); (try have g0_ := c27); omega)
                  ·rw [if_neg c31] at H
                   have c31b0 : decide (x4_19 ≤ x5_4) = false := decide_eq_false c31
                   clear c31
                   have H' := Aside0.mk H
                   clear H
                   try go_wp2
                   have n0_ := Aside0.mk (blk_drew BK135.out)
                   have n1_ := Aside0.mk (below_drew1 HB.out)
                   clear BK135
                   clear HB
                   have BK135 := n0_
                   have HB := n1_
                   clear n0_ n1_
                   have p140 : 0 ≤ ((ji24) : Int) := of_decide_eq_true B3x4_
                   have q140 : (ji24) < (l0_0.length : Int) := of_decide_eq_true B3x4_
                   obtain ⟨ad140, e140, hx140_0, hx140_1⟩ := at_T105 HR0_0.out (ji24) p140 q140
                   have hw140_1 := hx140_1
                   have hw140_0 := hx140_0
                   cases e140
                   replace hx140_0 := (HB.out.cell (World.block_lt_of_cell? w _ hx140_0)).trans hx140_0
                   replace hx140_1 := (HB.out.cell (World.block_lt_of_cell? w _ hx140_1)).trans hx140_1
                   replace p140 := eq_true p140
                   replace q140 := eq_true q140
                   refine start_ (n := 12) (S := fun w' => w'.cell? ⟨gb135, 0, none⟩ = some (.slice (some ad140) l0_0.length c0_0) ∧ w'.cell? ⟨gb135, 1, none⟩ = some (.int .i64 a0_1) ∧ w'.cell? ⟨gb135, 2, none⟩ = some (.int .i64 a0_2) ∧ w'.cell? (ad140.add (((ji24)).toNat * 2)) = some (.int .i64 ((rd_T105 l0_0 (ji24)).f0)) ∧ w'.cell? ⟨(ad140.add (((ji24)).toNat * 2)).block, (ad140.add (((ji24)).toNat * 2)).off + 1, none⟩ = some (.string ((rd_T105 l0_0 (ji24)).f1))) (ds := []) #[false, false, false, false, false, false, false, false, false, false, false, false] B3x5_ rfl rfl ⟨(blk_cell BK135.out 0).trans rfl, (blk_cell BK135.out 1).trans rfl, (blk_cell BK135.out 2).trans rfl, ((HB.out.cell (World.block_lt_of_cell? w _ hw140_0)).trans hw140_0), ((HB.out.cell (World.block_lt_of_cell? w _ hw140_1)).trans hw140_1)⟩ (fun hHeld => ?_); refine with_tabW spec_RingOk.tab10 spec_RingOk.bits10 (fun HT_ HW_ => ?_)
                   generalize wr.drew = w52 at BK135 HB hx140_0 hx140_1 hHeld ⊢
                   refine pu_ 0 56 HT_ ?_
                   refine pu_ 2 58 HT_ ?_
                   refine pu_ 4 60 HT_ ?_
                   refine pu_ 6 62 HT_ ?_
                   refine ta_ 1 57 HT_ HW_ hHeld ?_
                   refine ta_ 3 59 HT_ HW_ hHeld ?_
                   refine pu_ 5 61 HT_ ?_
                   refine pu_ 7 63 HT_ ?_
                   refine pu_ 8 64 HT_ ?_
                   refine ta_ 9 65 HT_ HW_ hHeld ?_
                   refine one_ (i := 10) (N := some 6) #[true, true, true, true, true, true, true, true, true, true, true, false] rfl rfl (one_of HT_.out B3x5_) (by decide) (fun K hK => ?_)
                   refine box_step ?hg (N := 6) ?hd (cs := #[.int .i64 0, .string (⟨#[]⟩ : ByteArray)]) (t := 105) ?hr ?_; (case hd => rfl); (case hg => rfl); (case hr => first | (go_simp; done) | (go_simp; rfl))
                   intro gb141 hg w53 hbox hb
                   have n0_ := Aside0.mk (blk_below (g := gb135) (o := .cells #[.slice (some ad140) l0_0.length c0_0, .int .i64 a0_1, .int .i64 a0_2] 45 (0, 0)) B3x3_ hb)
                   have n1_ := Aside0.mk (below_step B3x2_ hb)
                   have n2_ := Aside0.mk (hbox)
                   have n3_ := Aside0.mk ((by rw [hg]; exact (below_size B3x2_) : w.heap.size ≤ gb141))
                   have n4_ := Aside0.mk ((by rw [hg]; exact (below_size B3x2_) : w.heap.size ≤ gb141))
                   have n5_ := Aside0.mk ((by rw [hg]; exact Nat.ne_of_lt (blk_lt (g := gb135) (o := .cells #[.slice (some ad140) l0_0.length c0_0, .int .i64 a0_1, .int .i64 a0_2] 45 (0, 0)) B3x3_) : gb135 ≠ gb141))
                   have n6_ := Aside0.mk ((by rw [hg]; exact Nat.ne_of_gt (blk_lt (g := gb135) (o := .cells #[.slice (some ad140) l0_0.length c0_0, .int .i64 a0_1, .int .i64 a0_2] 45 (0, 0)) B3x3_) : gb141 ≠ gb135))
                   clear BK135
                   clear HB
                   have BK135 := n0_
                   have HB := n1_
                   have BK141 := n2_
                   have GW141 := n3_
                   have GE141 := n4_
                   have NB135_141 := n5_
                   have NB141_135 := n6_
                   clear n0_ n1_ n2_ n3_ n4_ n5_ n6_
                   clear hb hbox hg
                   refine hK.out _ _ ⟨(blk_cell BK135.out 0).trans rfl, (blk_cell BK135.out 1).trans rfl, (blk_cell BK135.out 2).trans rfl, ((HB.out.cell (World.block_lt_of_cell? w _ hw140_0)).trans hw140_0), ((HB.out.cell (World.block_lt_of_cell? w _ hw140_1)).trans hw140_1)⟩ (fun hHeld => ?_)
                   clear hK K
                   refine norm_ (a' := ?_) ?_ ?_
                   rotate_left
                   ·show Act.put _ (some 6) _ = _
                    simp only [Act.put, List.setIfInBounds_toArray, List.set_cons_zero, List.set_cons_succ, i64_w, i32_w]
                    rfl
                   refine one_ (i := 11) (N := none) #[true, true, true, true, true, true, true, true, true, true, true, true] rfl rfl (one_of HT_.out B3x5_) (by decide) (fun K hK => ?_)
                   have hs54 : w53.cell? ⟨gb141, 0, none⟩ = some (.int .i64 0) := (blk_cell BK141.out 0).trans rfl
                   have hfs54 := blk_frozen BK141.out 0
                   have hns54_0 := NB135_141.out
                   have hms54_0 := NB141_135.out
                   have hs55 : w53.cell? ⟨gb141, 1, none⟩ = some (.string (⟨#[]⟩ : ByteArray)) := (blk_cell BK141.out 1).trans rfl
                   have hfs55 := blk_frozen BK141.out 1
                   have hns55_0 := NB135_141.out
                   have hms55_0 := NB141_135.out
                   refine skip_ (w1 := ?_) (by rfl) rfl ?_ ?_
                   rotate_left
                   ·go_simp
                    rfl
                   refine hK.out _ _ ⟨((cell_far (p := ⟨gb141, _, none⟩) NB135_141.out _).trans (((cell_far (p := ⟨gb141, _, none⟩) NB135_141.out _).trans (hHeld.1)))), ((cell_far (p := ⟨gb141, _, none⟩) NB135_141.out _).trans (((cell_far (p := ⟨gb141, _, none⟩) NB135_141.out _).trans (hHeld.2.1)))), ((cell_far (p := ⟨gb141, _, none⟩) NB135_141.out _).trans (((cell_far (p := ⟨gb141, _, none⟩) NB135_141.out _).trans (hHeld.2.2.1)))), ((cell_far (p := ⟨gb141, _, none⟩) B3x0_ _).trans (((cell_far (p := ⟨gb141, _, none⟩) B3x0_ _).trans (hHeld.2.2.2.1)))), ((cell_far (p := ⟨gb141, _, none⟩) B3x1_ _).trans (((cell_far (p := ⟨gb141, _, none⟩) B3x1_ _).trans (hHeld.2.2.2.2))))⟩ (fun hHeld => ?_)
                   clear hK K
                   refine done_ (done_of HT_.out B3x5_) ?_
                   have hnb56 := NB141_135.out
                   have hnc56 := NB135_141.out
                   obtain ⟨hcz57_0, hcz57_1⟩ := cl2 BK141.out
                   obtain ⟨hfz57_0, hfz57_1⟩ := fr2 BK141.out
                   try go_wp2_with (first | (go_at_call 53; (with_reducible refine (spec_l01In.calls (((rd_T105 l0_0 (ji24)).f1).size : Int) 1 100 true _ A29.out).mono ?_); rintro e w' ⟨rfl, ⟨nd, rfl⟩⟩))
                   go_roundg k4
                   case measure => have := HJ1.out; have := HJ13.out; have := HJ19.out; have := HK4.out; omega
                   case rel => exact ⟨(wrap64 (x5_4 + 1)), (be_), H', ⟨by have := HJ1.out; have := HJ13.out; have := HJ19.out; have := HK4.out; omega⟩, ⟨by (with_reducible repeat (first | refine blk_drewN ?_ _ | refine blk_drew ?_ | refine blk_alloc ?_ _)); refine blk_far ?_ NB135_141.out _; (with_reducible repeat (first | refine blk_drewN ?_ _ | refine blk_drew ?_ | refine blk_alloc ?_ _)); refine blk_far ?_ NB135_141.out _; (with_reducible repeat (first | refine blk_drewN ?_ _ | refine blk_drew ?_ | refine blk_alloc ?_ _)); exact BK135.out⟩, ⟨by repeat (first | (with_reducible first | exact HB.out | apply below_alloc | apply pw_below_drewN | apply below_drew1 | refine below_set ?_ GE135.out | refine below_set ?_ GE141.out) | exact HB.out)⟩⟩
                 ·replace c30 := Bool.eq_false_iff.mpr c30
                  subst c30
                  rw [if_neg (show ¬ (false = true) by decide)] at H
                  obtain rfl := Option.some.inj H
                  try go_wp2
                  have n0_ := Aside0.mk (blk_drew BK135.out)
                  have n1_ := Aside0.mk (below_drew1 HB.out)
                  clear BK135
                  clear HB
                  have BK135 := n0_
                  have HB := n1_
                  clear n0_ n1_
                  have p140 : 0 ≤ ((ji24) : Int) := of_decide_eq_true B3x4_
                  have q140 : (ji24) < (l0_0.length : Int) := of_decide_eq_true B3x4_
                  obtain ⟨ad140, e140, hx140_0, hx140_1⟩ := at_T105 HR0_0.out (ji24) p140 q140
                  have hw140_1 := hx140_1
                  have hw140_0 := hx140_0
                  cases e140
                  replace hx140_0 := (HB.out.cell (World.block_lt_of_cell? w _ hx140_0)).trans hx140_0
                  replace hx140_1 := (HB.out.cell (World.block_lt_of_cell? w _ hx140_1)).trans hx140_1
                  replace p140 := eq_true p140
                  replace q140 := eq_true q140
                  refine start_ (n := 12) (S := fun w' => w'.cell? ⟨gb135, 0, none⟩ = some (.slice (some ad140) l0_0.length c0_0) ∧ w'.cell? ⟨gb135, 1, none⟩ = some (.int .i64 a0_1) ∧ w'.cell? ⟨gb135, 2, none⟩ = some (.int .i64 a0_2) ∧ w'.cell? (ad140.add (((ji24)).toNat * 2)) = some (.int .i64 ((rd_T105 l0_0 (ji24)).f0)) ∧ w'.cell? ⟨(ad140.add (((ji24)).toNat * 2)).block, (ad140.add (((ji24)).toNat * 2)).off + 1, none⟩ = some (.string ((rd_T105 l0_0 (ji24)).f1))) (ds := []) #[false, false, false, false, false, false, false, false, false, false, false, false] B3x5_ rfl rfl ⟨(blk_cell BK135.out 0).trans rfl, (blk_cell BK135.out 1).trans rfl, (blk_cell BK135.out 2).trans rfl, ((HB.out.cell (World.block_lt_of_cell? w _ hw140_0)).trans hw140_0), ((HB.out.cell (World.block_lt_of_cell? w _ hw140_1)).trans hw140_1)⟩ (fun hHeld => ?_); refine with_tabW spec_RingOk.tab10 spec_RingOk.bits10 (fun HT_ HW_ => ?_)
                  generalize wr.drew = w58 at BK135 HB hx140_0 hx140_1 hHeld ⊢
                  refine pu_ 0 56 HT_ ?_
                  refine pu_ 2 58 HT_ ?_
                  refine pu_ 4 60 HT_ ?_
                  refine pu_ 6 62 HT_ ?_
                  refine ta_ 1 57 HT_ HW_ hHeld ?_
                  refine ta_ 3 59 HT_ HW_ hHeld ?_
                  refine pu_ 5 61 HT_ ?_
                  refine pu_ 7 63 HT_ ?_
                  refine pu_ 8 64 HT_ ?_
                  refine ta_ 9 65 HT_ HW_ hHeld ?_
                  refine one_ (i := 10) (N := some 6) #[true, true, true, true, true, true, true, true, true, true, true, false] rfl rfl (one_of HT_.out B3x5_) (by decide) (fun K hK => ?_)
                  refine box_step ?hg (N := 6) ?hd (cs := #[.int .i64 0, .string (⟨#[]⟩ : ByteArray)]) (t := 105) ?hr ?_; (case hd => rfl); (case hg => rfl); (case hr => first | (go_simp; done) | (go_simp; rfl))
                  intro gb141 hg w59 hbox hb
                  have n0_ := Aside0.mk (blk_below (g := gb135) (o := .cells #[.slice (some ad140) l0_0.length c0_0, .int .i64 a0_1, .int .i64 a0_2] 45 (0, 0)) B3x3_ hb)
                  have n1_ := Aside0.mk (below_step B3x2_ hb)
                  have n2_ := Aside0.mk (hbox)
                  have n3_ := Aside0.mk ((by rw [hg]; exact (below_size B3x2_) : w.heap.size ≤ gb141))
                  have n4_ := Aside0.mk ((by rw [hg]; exact (below_size B3x2_) : w.heap.size ≤ gb141))
                  have n5_ := Aside0.mk ((by rw [hg]; exact Nat.ne_of_lt (blk_lt (g := gb135) (o := .cells #[.slice (some ad140) l0_0.length c0_0, .int .i64 a0_1, .int .i64 a0_2] 45 (0, 0)) B3x3_) : gb135 ≠ gb141))
                  have n6_ := Aside0.mk ((by rw [hg]; exact Nat.ne_of_gt (blk_lt (g := gb135) (o := .cells #[.slice (some ad140) l0_0.length c0_0, .int .i64 a0_1, .int .i64 a0_2] 45 (0, 0)) B3x3_) : gb141 ≠ gb135))
                  clear BK135
                  clear HB
                  have BK135 := n0_
                  have HB := n1_
                  have BK141 := n2_
                  have GW141 := n3_
                  have GE141 := n4_
                  have NB135_141 := n5_
                  have NB141_135 := n6_
                  clear n0_ n1_ n2_ n3_ n4_ n5_ n6_
                  clear hb hbox hg
                  refine hK.out _ _ ⟨(blk_cell BK135.out 0).trans rfl, (blk_cell BK135.out 1).trans rfl, (blk_cell BK135.out 2).trans rfl, ((HB.out.cell (World.block_lt_of_cell? w _ hw140_0)).trans hw140_0), ((HB.out.cell (World.block_lt_of_cell? w _ hw140_1)).trans hw140_1)⟩ (fun hHeld => ?_)
                  clear hK K
                  refine norm_ (a' := ?_) ?_ ?_
                  rotate_left
                  ·show Act.put _ (some 6) _ = _
                   simp only [Act.put, List.setIfInBounds_toArray, List.set_cons_zero, List.set_cons_succ, i64_w, i32_w]
                   rfl
                  refine one_ (i := 11) (N := none) #[true, true, true, true, true, true, true, true, true, true, true, true] rfl rfl (one_of HT_.out B3x5_) (by decide) (fun K hK => ?_)
                  have hs60 : w59.cell? ⟨gb141, 0, none⟩ = some (.int .i64 0) := (blk_cell BK141.out 0).trans rfl
                  have hfs60 := blk_frozen BK141.out 0
                  have hns60_0 := NB135_141.out
                  have hms60_0 := NB141_135.out
                  have hs61 : w59.cell? ⟨gb141, 1, none⟩ = some (.string (⟨#[]⟩ : ByteArray)) := (blk_cell BK141.out 1).trans rfl
                  have hfs61 := blk_frozen BK141.out 1
                  have hns61_0 := NB135_141.out
                  have hms61_0 := NB141_135.out
                  refine skip_ (w1 := ?_) (by rfl) rfl ?_ ?_
                  rotate_left
                  ·go_simp
                   rfl
                  refine hK.out _ _ ⟨((cell_far (p := ⟨gb141, _, none⟩) NB135_141.out _).trans (((cell_far (p := ⟨gb141, _, none⟩) NB135_141.out _).trans (hHeld.1)))), ((cell_far (p := ⟨gb141, _, none⟩) NB135_141.out _).trans (((cell_far (p := ⟨gb141, _, none⟩) NB135_141.out _).trans (hHeld.2.1)))), ((cell_far (p := ⟨gb141, _, none⟩) NB135_141.out _).trans (((cell_far (p := ⟨gb141, _, none⟩) NB135_141.out _).trans (hHeld.2.2.1)))), ((cell_far (p := ⟨gb141, _, none⟩) B3x0_ _).trans (((cell_far (p := ⟨gb141, _, none⟩) B3x0_ _).trans (hHeld.2.2.2.1)))), ((cell_far (p := ⟨gb141, _, none⟩) B3x1_ _).trans (((cell_far (p := ⟨gb141, _, none⟩) B3x1_ _).trans (hHeld.2.2.2.2))))⟩ (fun hHeld => ?_)
                  clear hK K
                  refine done_ (done_of HT_.out B3x5_) ?_
                  have hnb62 := NB141_135.out
                  have hnc62 := NB135_141.out
                  obtain ⟨hcz63_0, hcz63_1⟩ := cl2 BK141.out
                  obtain ⟨hfz63_0, hfz63_1⟩ := fr2 BK141.out
                  try go_wp2_with (first | (go_at_call 53; (with_reducible refine (spec_l01In.calls (((rd_T105 l0_0 (ji24)).f1).size : Int) 1 100 false _ A29.out).mono ?_); rintro e w' ⟨rfl, ⟨nd, rfl⟩⟩))
                  go_ret
                  exact ⟨by first | rfl | (simp [errW_none, errW_some] <;> rfl) | (simp only [← hji24]; first | rfl | (simp [errW_none, errW_some] <;> rfl)) | (simp [*, errW_none, errW_some] <;> rfl), by repeat (first | (with_reducible first | exact HB.out | apply below_alloc | apply pw_below_drewN | apply below_drew1 | refine below_set ?_ GE135.out | refine below_set ?_ GE141.out) | exact HB.out)⟩
                ·rw [if_neg c28] at H
                 have c28b0 : (((rd_T105 l0_0 (ji24)).f0) == 1) = false := beq_eq_false_iff_ne.mpr c28
                 have c28b1 : (((rd_T105 l0_0 (ji24)).f0) != 1) = true := bne_iff_ne.mpr c28
                 obtain rfl := Option.some.inj H
                 try go_wp2
                 have n0_ := Aside0.mk (blk_drew BK135.out)
                 have n1_ := Aside0.mk (below_drew1 HB.out)
                 clear BK135
                 clear HB
                 have BK135 := n0_
                 have HB := n1_
                 clear n0_ n1_
                 have p140 : 0 ≤ ((ji24) : Int) := of_decide_eq_true B3x4_
                 have q140 : (ji24) < (l0_0.length : Int) := of_decide_eq_true B3x4_
                 obtain ⟨ad140, e140, hx140_0, hx140_1⟩ := at_T105 HR0_0.out (ji24) p140 q140
                 have hw140_1 := hx140_1
                 have hw140_0 := hx140_0
                 cases e140
                 replace hx140_0 := (HB.out.cell (World.block_lt_of_cell? w _ hx140_0)).trans hx140_0
                 replace hx140_1 := (HB.out.cell (World.block_lt_of_cell? w _ hx140_1)).trans hx140_1
                 replace p140 := eq_true p140
                 replace q140 := eq_true q140
                 refine start_ (n := 12) (S := fun w' => w'.cell? ⟨gb135, 0, none⟩ = some (.slice (some ad140) l0_0.length c0_0) ∧ w'.cell? ⟨gb135, 1, none⟩ = some (.int .i64 a0_1) ∧ w'.cell? ⟨gb135, 2, none⟩ = some (.int .i64 a0_2) ∧ w'.cell? (ad140.add (((ji24)).toNat * 2)) = some (.int .i64 ((rd_T105 l0_0 (ji24)).f0)) ∧ w'.cell? ⟨(ad140.add (((ji24)).toNat * 2)).block, (ad140.add (((ji24)).toNat * 2)).off + 1, none⟩ = some (.string ((rd_T105 l0_0 (ji24)).f1))) (ds := []) #[false, false, false, false, false, false, false, false, false, false, false, false] B3x5_ rfl rfl ⟨(blk_cell BK135.out 0).trans rfl, (blk_cell BK135.out 1).trans rfl, (blk_cell BK135.out 2).trans rfl, ((HB.out.cell (World.block_lt_of_cell? w _ hw140_0)).trans hw140_0), ((HB.out.cell (World.block_lt_of_cell? w _ hw140_1)).trans hw140_1)⟩ (fun hHeld => ?_); refine with_tabW spec_RingOk.tab10 spec_RingOk.bits10 (fun HT_ HW_ => ?_)
                 generalize wr.drew = w64 at BK135 HB hx140_0 hx140_1 hHeld ⊢
                 refine pu_ 0 56 HT_ ?_
                 refine pu_ 2 58 HT_ ?_
                 refine pu_ 4 60 HT_ ?_
                 refine pu_ 6 62 HT_ ?_
                 refine ta_ 1 57 HT_ HW_ hHeld ?_
                 refine ta_ 3 59 HT_ HW_ hHeld ?_
                 refine pu_ 5 61 HT_ ?_
                 refine pu_ 7 63 HT_ ?_
                 refine pu_ 8 64 HT_ ?_
                 refine ta_ 9 65 HT_ HW_ hHeld ?_
                 refine one_ (i := 10) (N := some 6) #[true, true, true, true, true, true, true, true, true, true, true, false] rfl rfl (one_of HT_.out B3x5_) (by decide) (fun K hK => ?_)
                 refine box_step ?hg (N := 6) ?hd (cs := #[.int .i64 0, .string (⟨#[]⟩ : ByteArray)]) (t := 105) ?hr ?_; (case hd => rfl); (case hg => rfl); (case hr => first | (go_simp; done) | (go_simp; rfl))
                 intro gb141 hg w65 hbox hb
                 have n0_ := Aside0.mk (blk_below (g := gb135) (o := .cells #[.slice (some ad140) l0_0.length c0_0, .int .i64 a0_1, .int .i64 a0_2] 45 (0, 0)) B3x3_ hb)
                 have n1_ := Aside0.mk (below_step B3x2_ hb)
                 have n2_ := Aside0.mk (hbox)
                 have n3_ := Aside0.mk ((by rw [hg]; exact (below_size B3x2_) : w.heap.size ≤ gb141))
                 have n4_ := Aside0.mk ((by rw [hg]; exact (below_size B3x2_) : w.heap.size ≤ gb141))
                 have n5_ := Aside0.mk ((by rw [hg]; exact Nat.ne_of_lt (blk_lt (g := gb135) (o := .cells #[.slice (some ad140) l0_0.length c0_0, .int .i64 a0_1, .int .i64 a0_2] 45 (0, 0)) B3x3_) : gb135 ≠ gb141))
                 have n6_ := Aside0.mk ((by rw [hg]; exact Nat.ne_of_gt (blk_lt (g := gb135) (o := .cells #[.slice (some ad140) l0_0.length c0_0, .int .i64 a0_1, .int .i64 a0_2] 45 (0, 0)) B3x3_) : gb141 ≠ gb135))
                 clear BK135
                 clear HB
                 have BK135 := n0_
                 have HB := n1_
                 have BK141 := n2_
                 have GW141 := n3_
                 have GE141 := n4_
                 have NB135_141 := n5_
                 have NB141_135 := n6_
                 clear n0_ n1_ n2_ n3_ n4_ n5_ n6_
                 clear hb hbox hg
                 refine hK.out _ _ ⟨(blk_cell BK135.out 0).trans rfl, (blk_cell BK135.out 1).trans rfl, (blk_cell BK135.out 2).trans rfl, ((HB.out.cell (World.block_lt_of_cell? w _ hw140_0)).trans hw140_0), ((HB.out.cell (World.block_lt_of_cell? w _ hw140_1)).trans hw140_1)⟩ (fun hHeld => ?_)
                 clear hK K
                 refine norm_ (a' := ?_) ?_ ?_
                 rotate_left
                 ·show Act.put _ (some 6) _ = _
                  simp only [Act.put, List.setIfInBounds_toArray, List.set_cons_zero, List.set_cons_succ, i64_w, i32_w]
                  rfl
                 refine one_ (i := 11) (N := none) #[true, true, true, true, true, true, true, true, true, true, true, true] rfl rfl (one_of HT_.out B3x5_) (by decide) (fun K hK => ?_)
                 have hs66 : w65.cell? ⟨gb141, 0, none⟩ = some (.int .i64 0) := (blk_cell BK141.out 0).trans rfl
                 have hfs66 := blk_frozen BK141.out 0
                 have hns66_0 := NB135_141.out
                 have hms66_0 := NB141_135.out
                 have hs67 : w65.cell? ⟨gb141, 1, none⟩ = some (.string (⟨#[]⟩ : ByteArray)) := (blk_cell BK141.out 1).trans rfl
                 have hfs67 := blk_frozen BK141.out 1
                 have hns67_0 := NB135_141.out
                 have hms67_0 := NB141_135.out
                 refine skip_ (w1 := ?_) (by rfl) rfl ?_ ?_
                 rotate_left
                 ·go_simp
                  rfl
                 refine hK.out _ _ ⟨((cell_far (p := ⟨gb141, _, none⟩) NB135_141.out _).trans (((cell_far (p := ⟨gb141, _, none⟩) NB135_141.out _).trans (hHeld.1)))), ((cell_far (p := ⟨gb141, _, none⟩) NB135_141.out _).trans (((cell_far (p := ⟨gb141, _, none⟩) NB135_141.out _).trans (hHeld.2.1)))), ((cell_far (p := ⟨gb141, _, none⟩) NB135_141.out _).trans (((cell_far (p := ⟨gb141, _, none⟩) NB135_141.out _).trans (hHeld.2.2.1)))), ((cell_far (p := ⟨gb141, _, none⟩) B3x0_ _).trans (((cell_far (p := ⟨gb141, _, none⟩) B3x0_ _).trans (hHeld.2.2.2.1)))), ((cell_far (p := ⟨gb141, _, none⟩) B3x1_ _).trans (((cell_far (p := ⟨gb141, _, none⟩) B3x1_ _).trans (hHeld.2.2.2.2))))⟩ (fun hHeld => ?_)
                 clear hK K
                 refine done_ (done_of HT_.out B3x5_) ?_
                 have hnb68 := NB141_135.out
                 have hnc68 := NB135_141.out
                 obtain ⟨hcz69_0, hcz69_1⟩ := cl2 BK141.out
                 obtain ⟨hfz69_0, hfz69_1⟩ := fr2 BK141.out
                 try go_wp2
                 go_ret
                 exact ⟨by first | rfl | (simp [errW_none, errW_some] <;> rfl) | (simp only [← hji24]; first | rfl | (simp [errW_none, errW_some] <;> rfl)) | (simp [*, errW_none, errW_some] <;> rfl), by repeat (first | (with_reducible first | exact HB.out | apply below_alloc | apply pw_below_drewN | apply below_drew1 | refine below_set ?_ GE135.out | refine below_set ?_ GE141.out) | exact HB.out)⟩
               ·rw [if_neg c27] at H
                have c27b0 : decide (x5_4 < x4_19) = false := decide_eq_false c27
                clear c27
                by_cases c70 : x5_4 ≥ x4_19
                ·rw [if_pos c70] at H
                 have c70b0 : decide (x4_19 ≤ x5_4) = true := decide_eq_true c70
                 clear c70
                 by_cases c71 : ((rd_T105 l0_0 (ji24)).f0) = 0
                 ·rw [if_pos c71] at H
                  have c71b0 : (((rd_T105 l0_0 (ji24)).f0) == 0) = true := beq_iff_eq.mpr c71
                  have c71b1 : (((rd_T105 l0_0 (ji24)).f0) != 0) = false := bne_eq_false_iff_eq.mpr c71
                  clear c71
                  by_cases c72 : ((rd_T105 l0_0 (ji24)).f1).toList = ([] : List UInt8)
                  ·rw [if_pos c72] at H
                   have c72b0 : (((rd_T105 l0_0 (ji24)).f1).toList == ([] : List UInt8)) = true := beq_iff_eq.mpr c72
                   have c72b1 : (((rd_T105 l0_0 (ji24)).f1).toList != ([] : List UInt8)) = false := bne_eq_false_iff_eq.mpr c72
                   clear c72
                   have H' := Aside0.mk H
                   clear H
                   try go_wp2
                   have n0_ := Aside0.mk (blk_drew BK135.out)
                   have n1_ := Aside0.mk (below_drew1 HB.out)
                   clear BK135
                   clear HB
                   have BK135 := n0_
                   have HB := n1_
                   clear n0_ n1_
                   have p140 : 0 ≤ ((ji24) : Int) := of_decide_eq_true B3x4_
                   have q140 : (ji24) < (l0_0.length : Int) := of_decide_eq_true B3x4_
                   obtain ⟨ad140, e140, hx140_0, hx140_1⟩ := at_T105 HR0_0.out (ji24) p140 q140
                   have hw140_1 := hx140_1
                   have hw140_0 := hx140_0
                   cases e140
                   replace hx140_0 := (HB.out.cell (World.block_lt_of_cell? w _ hx140_0)).trans hx140_0
                   replace hx140_1 := (HB.out.cell (World.block_lt_of_cell? w _ hx140_1)).trans hx140_1
                   replace p140 := eq_true p140
                   replace q140 := eq_true q140
                   refine start_ (n := 12) (S := fun w' => w'.cell? ⟨gb135, 0, none⟩ = some (.slice (some ad140) l0_0.length c0_0) ∧ w'.cell? ⟨gb135, 1, none⟩ = some (.int .i64 a0_1) ∧ w'.cell? ⟨gb135, 2, none⟩ = some (.int .i64 a0_2) ∧ w'.cell? (ad140.add (((ji24)).toNat * 2)) = some (.int .i64 ((rd_T105 l0_0 (ji24)).f0)) ∧ w'.cell? ⟨(ad140.add (((ji24)).toNat * 2)).block, (ad140.add (((ji24)).toNat * 2)).off + 1, none⟩ = some (.string ((rd_T105 l0_0 (ji24)).f1))) (ds := []) #[false, false, false, false, false, false, false, false, false, false, false, false] B3x5_ rfl rfl ⟨(blk_cell BK135.out 0).trans rfl, (blk_cell BK135.out 1).trans rfl, (blk_cell BK135.out 2).trans rfl, ((HB.out.cell (World.block_lt_of_cell? w _ hw140_0)).trans hw140_0), ((HB.out.cell (World.block_lt_of_cell? w _ hw140_1)).trans hw140_1)⟩ (fun hHeld => ?_); refine with_tabW spec_RingOk.tab10 spec_RingOk.bits10 (fun HT_ HW_ => ?_)
                   generalize wr.drew = w73 at BK135 HB hx140_0 hx140_1 hHeld ⊢
                   refine pu_ 0 56 HT_ ?_
                   refine pu_ 2 58 HT_ ?_
                   refine pu_ 4 60 HT_ ?_
                   refine pu_ 6 62 HT_ ?_
                   refine ta_ 1 57 HT_ HW_ hHeld ?_
                   refine ta_ 3 59 HT_ HW_ hHeld ?_
                   refine pu_ 5 61 HT_ ?_
                   refine pu_ 7 63 HT_ ?_
                   refine pu_ 8 64 HT_ ?_
                   refine ta_ 9 65 HT_ HW_ hHeld ?_
                   refine one_ (i := 10) (N := some 6) #[true, true, true, true, true, true, true, true, true, true, true, false] rfl rfl (one_of HT_.out B3x5_) (by decide) (fun K hK => ?_)
                   refine box_step ?hg (N := 6) ?hd (cs := #[.int .i64 0, .string (⟨#[]⟩ : ByteArray)]) (t := 105) ?hr ?_; (case hd => rfl); (case hg => rfl); (case hr => first | (go_simp; done) | (go_simp; rfl))
                   intro gb141 hg w74 hbox hb
                   have n0_ := Aside0.mk (blk_below (g := gb135) (o := .cells #[.slice (some ad140) l0_0.length c0_0, .int .i64 a0_1, .int .i64 a0_2] 45 (0, 0)) B3x3_ hb)
                   have n1_ := Aside0.mk (below_step B3x2_ hb)
                   have n2_ := Aside0.mk (hbox)
                   have n3_ := Aside0.mk ((by rw [hg]; exact (below_size B3x2_) : w.heap.size ≤ gb141))
                   have n4_ := Aside0.mk ((by rw [hg]; exact (below_size B3x2_) : w.heap.size ≤ gb141))
                   have n5_ := Aside0.mk ((by rw [hg]; exact Nat.ne_of_lt (blk_lt (g := gb135) (o := .cells #[.slice (some ad140) l0_0.length c0_0, .int .i64 a0_1, .int .i64 a0_2] 45 (0, 0)) B3x3_) : gb135 ≠ gb141))
                   have n6_ := Aside0.mk ((by rw [hg]; exact Nat.ne_of_gt (blk_lt (g := gb135) (o := .cells #[.slice (some ad140) l0_0.length c0_0, .int .i64 a0_1, .int .i64 a0_2] 45 (0, 0)) B3x3_) : gb141 ≠ gb135))
                   clear BK135
                   clear HB
                   have BK135 := n0_
                   have HB := n1_
                   have BK141 := n2_
                   have GW141 := n3_
                   have GE141 := n4_
                   have NB135_141 := n5_
                   have NB141_135 := n6_
                   clear n0_ n1_ n2_ n3_ n4_ n5_ n6_
                   clear hb hbox hg
                   refine hK.out _ _ ⟨(blk_cell BK135.out 0).trans rfl, (blk_cell BK135.out 1).trans rfl, (blk_cell BK135.out 2).trans rfl, ((HB.out.cell (World.block_lt_of_cell? w _ hw140_0)).trans hw140_0), ((HB.out.cell (World.block_lt_of_cell? w _ hw140_1)).trans hw140_1)⟩ (fun hHeld => ?_)
                   clear hK K
                   refine norm_ (a' := ?_) ?_ ?_
                   rotate_left
                   ·show Act.put _ (some 6) _ = _
                    simp only [Act.put, List.setIfInBounds_toArray, List.set_cons_zero, List.set_cons_succ, i64_w, i32_w]
                    rfl
                   refine one_ (i := 11) (N := none) #[true, true, true, true, true, true, true, true, true, true, true, true] rfl rfl (one_of HT_.out B3x5_) (by decide) (fun K hK => ?_)
                   have hs75 : w74.cell? ⟨gb141, 0, none⟩ = some (.int .i64 0) := (blk_cell BK141.out 0).trans rfl
                   have hfs75 := blk_frozen BK141.out 0
                   have hns75_0 := NB135_141.out
                   have hms75_0 := NB141_135.out
                   have hs76 : w74.cell? ⟨gb141, 1, none⟩ = some (.string (⟨#[]⟩ : ByteArray)) := (blk_cell BK141.out 1).trans rfl
                   have hfs76 := blk_frozen BK141.out 1
                   have hns76_0 := NB135_141.out
                   have hms76_0 := NB141_135.out
                   refine skip_ (w1 := ?_) (by rfl) rfl ?_ ?_
                   rotate_left
                   ·go_simp
                    rfl
                   refine hK.out _ _ ⟨((cell_far (p := ⟨gb141, _, none⟩) NB135_141.out _).trans (((cell_far (p := ⟨gb141, _, none⟩) NB135_141.out _).trans (hHeld.1)))), ((cell_far (p := ⟨gb141, _, none⟩) NB135_141.out _).trans (((cell_far (p := ⟨gb141, _, none⟩) NB135_141.out _).trans (hHeld.2.1)))), ((cell_far (p := ⟨gb141, _, none⟩) NB135_141.out _).trans (((cell_far (p := ⟨gb141, _, none⟩) NB135_141.out _).trans (hHeld.2.2.1)))), ((cell_far (p := ⟨gb141, _, none⟩) B3x0_ _).trans (((cell_far (p := ⟨gb141, _, none⟩) B3x0_ _).trans (hHeld.2.2.2.1)))), ((cell_far (p := ⟨gb141, _, none⟩) B3x1_ _).trans (((cell_far (p := ⟨gb141, _, none⟩) B3x1_ _).trans (hHeld.2.2.2.2))))⟩ (fun hHeld => ?_)
                   clear hK K
                   refine done_ (done_of HT_.out B3x5_) ?_
                   have hnb77 := NB141_135.out
                   have hnc77 := NB135_141.out
                   obtain ⟨hcz78_0, hcz78_1⟩ := cl2 BK141.out
                   obtain ⟨hfz78_0, hfz78_1⟩ := fr2 BK141.out
                   try go_wp2
                   go_roundg k4
                   case measure => have := HJ1.out; have := HJ13.out; have := HJ19.out; have := HK4.out; omega
                   case rel => exact ⟨(wrap64 (x5_4 + 1)), (be_), H', ⟨by have := HJ1.out; have := HJ13.out; have := HJ19.out; have := HK4.out; omega⟩, ⟨by (with_reducible repeat (first | refine blk_drewN ?_ _ | refine blk_drew ?_ | refine blk_alloc ?_ _)); refine blk_far ?_ NB135_141.out _; (with_reducible repeat (first | refine blk_drewN ?_ _ | refine blk_drew ?_ | refine blk_alloc ?_ _)); refine blk_far ?_ NB135_141.out _; (with_reducible repeat (first | refine blk_drewN ?_ _ | refine blk_drew ?_ | refine blk_alloc ?_ _)); exact BK135.out⟩, ⟨by repeat (first | (with_reducible first | exact HB.out | apply below_alloc | apply pw_below_drewN | apply below_drew1 | refine below_set ?_ GE135.out | refine below_set ?_ GE141.out) | exact HB.out)⟩⟩
                  ·rw [if_neg c72] at H
                   have c72b0 : (((rd_T105 l0_0 (ji24)).f1).toList == ([] : List UInt8)) = false := beq_eq_false_iff_ne.mpr c72
                   have c72b1 : (((rd_T105 l0_0 (ji24)).f1).toList != ([] : List UInt8)) = true := bne_iff_ne.mpr c72
                   obtain rfl := Option.some.inj H
                   try go_wp2
                   have n0_ := Aside0.mk (blk_drew BK135.out)
                   have n1_ := Aside0.mk (below_drew1 HB.out)
                   clear BK135
                   clear HB
                   have BK135 := n0_
                   have HB := n1_
                   clear n0_ n1_
                   have p140 : 0 ≤ ((ji24) : Int) := of_decide_eq_true B3x4_
                   have q140 : (ji24) < (l0_0.length : Int) := of_decide_eq_true B3x4_
                   obtain ⟨ad140, e140, hx140_0, hx140_1⟩ := at_T105 HR0_0.out (ji24) p140 q140
                   have hw140_1 := hx140_1
                   have hw140_0 := hx140_0
                   cases e140
                   replace hx140_0 := (HB.out.cell (World.block_lt_of_cell? w _ hx140_0)).trans hx140_0
                   replace hx140_1 := (HB.out.cell (World.block_lt_of_cell? w _ hx140_1)).trans hx140_1
                   replace p140 := eq_true p140
                   replace q140 := eq_true q140
                   refine start_ (n := 12) (S := fun w' => w'.cell? ⟨gb135, 0, none⟩ = some (.slice (some ad140) l0_0.length c0_0) ∧ w'.cell? ⟨gb135, 1, none⟩ = some (.int .i64 a0_1) ∧ w'.cell? ⟨gb135, 2, none⟩ = some (.int .i64 a0_2) ∧ w'.cell? (ad140.add (((ji24)).toNat * 2)) = some (.int .i64 ((rd_T105 l0_0 (ji24)).f0)) ∧ w'.cell? ⟨(ad140.add (((ji24)).toNat * 2)).block, (ad140.add (((ji24)).toNat * 2)).off + 1, none⟩ = some (.string ((rd_T105 l0_0 (ji24)).f1))) (ds := []) #[false, false, false, false, false, false, false, false, false, false, false, false] B3x5_ rfl rfl ⟨(blk_cell BK135.out 0).trans rfl, (blk_cell BK135.out 1).trans rfl, (blk_cell BK135.out 2).trans rfl, ((HB.out.cell (World.block_lt_of_cell? w _ hw140_0)).trans hw140_0), ((HB.out.cell (World.block_lt_of_cell? w _ hw140_1)).trans hw140_1)⟩ (fun hHeld => ?_); refine with_tabW spec_RingOk.tab10 spec_RingOk.bits10 (fun HT_ HW_ => ?_)
                   generalize wr.drew = w79 at BK135 HB hx140_0 hx140_1 hHeld ⊢
                   refine pu_ 0 56 HT_ ?_
                   refine pu_ 2 58 HT_ ?_
                   refine pu_ 4 60 HT_ ?_
                   refine pu_ 6 62 HT_ ?_
                   refine ta_ 1 57 HT_ HW_ hHeld ?_
                   refine ta_ 3 59 HT_ HW_ hHeld ?_
                   refine pu_ 5 61 HT_ ?_
                   refine pu_ 7 63 HT_ ?_
                   refine pu_ 8 64 HT_ ?_
                   refine ta_ 9 65 HT_ HW_ hHeld ?_
                   refine one_ (i := 10) (N := some 6) #[true, true, true, true, true, true, true, true, true, true, true, false] rfl rfl (one_of HT_.out B3x5_) (by decide) (fun K hK => ?_)
                   refine box_step ?hg (N := 6) ?hd (cs := #[.int .i64 0, .string (⟨#[]⟩ : ByteArray)]) (t := 105) ?hr ?_; (case hd => rfl); (case hg => rfl); (case hr => first | (go_simp; done) | (go_simp; rfl))
                   intro gb141 hg w80 hbox hb
                   have n0_ := Aside0.mk (blk_below (g := gb135) (o := .cells #[.slice (some ad140) l0_0.length c0_0, .int .i64 a0_1, .int .i64 a0_2] 45 (0, 0)) B3x3_ hb)
                   have n1_ := Aside0.mk (below_step B3x2_ hb)
                   have n2_ := Aside0.mk (hbox)
                   have n3_ := Aside0.mk ((by rw [hg]; exact (below_size B3x2_) : w.heap.size ≤ gb141))
                   have n4_ := Aside0.mk ((by rw [hg]; exact (below_size B3x2_) : w.heap.size ≤ gb141))
                   have n5_ := Aside0.mk ((by rw [hg]; exact Nat.ne_of_lt (blk_lt (g := gb135) (o := .cells #[.slice (some ad140) l0_0.length c0_0, .int .i64 a0_1, .int .i64 a0_2] 45 (0, 0)) B3x3_) : gb135 ≠ gb141))
                   have n6_ := Aside0.mk ((by rw [hg]; exact Nat.ne_of_gt (blk_lt (g := gb135) (o := .cells #[.slice (some ad140) l0_0.length c0_0, .int .i64 a0_1, .int .i64 a0_2] 45 (0, 0)) B3x3_) : gb141 ≠ gb135))
                   clear BK135
                   clear HB
                   have BK135 := n0_
                   have HB := n1_
                   have BK141 := n2_
                   have GW141 := n3_
                   have GE141 := n4_
                   have NB135_141 := n5_
                   have NB141_135 := n6_
                   clear n0_ n1_ n2_ n3_ n4_ n5_ n6_
                   clear hb hbox hg
                   refine hK.out _ _ ⟨(blk_cell BK135.out 0).trans rfl, (blk_cell BK135.out 1).trans rfl, (blk_cell BK135.out 2).trans rfl, ((HB.out.cell (World.block_lt_of_cell? w _ hw140_0)).trans hw140_0), ((HB.out.cell (World.block_lt_of_cell? w _ hw140_1)).trans hw140_1)⟩ (fun hHeld => ?_)
                   clear hK K
                   refine norm_ (a' := ?_) ?_ ?_
                   rotate_left
                   ·show Act.put _ (some 6) _ = _
                    simp only [Act.put, List.setIfInBounds_toArray, List.set_cons_zero, List.set_cons_succ, i64_w, i32_w]
                    rfl
                   refine one_ (i := 11) (N := none) #[true, true, true, true, true, true, true, true, true, true, true, true] rfl rfl (one_of HT_.out B3x5_) (by decide) (fun K hK => ?_)
                   have hs81 : w80.cell? ⟨gb141, 0, none⟩ = some (.int .i64 0) := (blk_cell BK141.out 0).trans rfl
                   have hfs81 := blk_frozen BK141.out 0
                   have hns81_0 := NB135_141.out
                   have hms81_0 := NB141_135.out
                   have hs82 : w80.cell? ⟨gb141, 1, none⟩ = some (.string (⟨#[]⟩ : ByteArray)) := (blk_cell BK141.out 1).trans rfl
                   have hfs82 := blk_frozen BK141.out 1
                   have hns82_0 := NB135_141.out
                   have hms82_0 := NB141_135.out
                   refine skip_ (w1 := ?_) (by rfl) rfl ?_ ?_
                   rotate_left
                   ·go_simp
                    rfl
                   refine hK.out _ _ ⟨((cell_far (p := ⟨gb141, _, none⟩) NB135_141.out _).trans (((cell_far (p := ⟨gb141, _, none⟩) NB135_141.out _).trans (hHeld.1)))), ((cell_far (p := ⟨gb141, _, none⟩) NB135_141.out _).trans (((cell_far (p := ⟨gb141, _, none⟩) NB135_141.out _).trans (hHeld.2.1)))), ((cell_far (p := ⟨gb141, _, none⟩) NB135_141.out _).trans (((cell_far (p := ⟨gb141, _, none⟩) NB135_141.out _).trans (hHeld.2.2.1)))), ((cell_far (p := ⟨gb141, _, none⟩) B3x0_ _).trans (((cell_far (p := ⟨gb141, _, none⟩) B3x0_ _).trans (hHeld.2.2.2.1)))), ((cell_far (p := ⟨gb141, _, none⟩) B3x1_ _).trans (((cell_far (p := ⟨gb141, _, none⟩) B3x1_ _).trans (hHeld.2.2.2.2))))⟩ (fun hHeld => ?_)
                   clear hK K
                   refine done_ (done_of HT_.out B3x5_) ?_
                   have hnb83 := NB141_135.out
                   have hnc83 := NB135_141.out
                   obtain ⟨hcz84_0, hcz84_1⟩ := cl2 BK141.out
                   obtain ⟨hfz84_0, hfz84_1⟩ := fr2 BK141.out
                   try go_wp2
                   go_ret
                   exact ⟨by first | rfl | (simp [errW_none, errW_some] <;> rfl) | (simp only [← hji24]; first | rfl | (simp [errW_none, errW_some] <;> rfl)) | (simp [*, errW_none, errW_some] <;> rfl), by repeat (first | (with_reducible first | exact HB.out | apply below_alloc | apply pw_below_drewN | apply below_drew1 | refine below_set ?_ GE135.out | refine below_set ?_ GE141.out) | exact HB.out)⟩
                 ·rw [if_neg c71] at H
                  have c71b0 : (((rd_T105 l0_0 (ji24)).f0) == 0) = false := beq_eq_false_iff_ne.mpr c71
                  have c71b1 : (((rd_T105 l0_0 (ji24)).f0) != 0) = true := bne_iff_ne.mpr c71
                  obtain rfl := Option.some.inj H
                  try go_wp2
                  have n0_ := Aside0.mk (blk_drew BK135.out)
                  have n1_ := Aside0.mk (below_drew1 HB.out)
                  clear BK135
                  clear HB
                  have BK135 := n0_
                  have HB := n1_
                  clear n0_ n1_
                  have p140 : 0 ≤ ((ji24) : Int) := of_decide_eq_true B3x4_
                  have q140 : (ji24) < (l0_0.length : Int) := of_decide_eq_true B3x4_
                  obtain ⟨ad140, e140, hx140_0, hx140_1⟩ := at_T105 HR0_0.out (ji24) p140 q140
                  have hw140_1 := hx140_1
                  have hw140_0 := hx140_0
                  cases e140
                  replace hx140_0 := (HB.out.cell (World.block_lt_of_cell? w _ hx140_0)).trans hx140_0
                  replace hx140_1 := (HB.out.cell (World.block_lt_of_cell? w _ hx140_1)).trans hx140_1
                  replace p140 := eq_true p140
                  replace q140 := eq_true q140
                  refine start_ (n := 12) (S := fun w' => w'.cell? ⟨gb135, 0, none⟩ = some (.slice (some ad140) l0_0.length c0_0) ∧ w'.cell? ⟨gb135, 1, none⟩ = some (.int .i64 a0_1) ∧ w'.cell? ⟨gb135, 2, none⟩ = some (.int .i64 a0_2) ∧ w'.cell? (ad140.add (((ji24)).toNat * 2)) = some (.int .i64 ((rd_T105 l0_0 (ji24)).f0)) ∧ w'.cell? ⟨(ad140.add (((ji24)).toNat * 2)).block, (ad140.add (((ji24)).toNat * 2)).off + 1, none⟩ = some (.string ((rd_T105 l0_0 (ji24)).f1))) (ds := []) #[false, false, false, false, false, false, false, false, false, false, false, false] B3x5_ rfl rfl ⟨(blk_cell BK135.out 0).trans rfl, (blk_cell BK135.out 1).trans rfl, (blk_cell BK135.out 2).trans rfl, ((HB.out.cell (World.block_lt_of_cell? w _ hw140_0)).trans hw140_0), ((HB.out.cell (World.block_lt_of_cell? w _ hw140_1)).trans hw140_1)⟩ (fun hHeld => ?_); refine with_tabW spec_RingOk.tab10 spec_RingOk.bits10 (fun HT_ HW_ => ?_)
                  generalize wr.drew = w85 at BK135 HB hx140_0 hx140_1 hHeld ⊢
                  refine pu_ 0 56 HT_ ?_
                  refine pu_ 2 58 HT_ ?_
                  refine pu_ 4 60 HT_ ?_
                  refine pu_ 6 62 HT_ ?_
                  refine ta_ 1 57 HT_ HW_ hHeld ?_
                  refine ta_ 3 59 HT_ HW_ hHeld ?_
                  refine pu_ 5 61 HT_ ?_
                  refine pu_ 7 63 HT_ ?_
                  refine pu_ 8 64 HT_ ?_
                  refine ta_ 9 65 HT_ HW_ hHeld ?_
                  refine one_ (i := 10) (N := some 6) #[true, true, true, true, true, true, true, true, true, true, true, false] rfl rfl (one_of HT_.out B3x5_) (by decide) (fun K hK => ?_)
                  refine box_step ?hg (N := 6) ?hd (cs := #[.int .i64 0, .string (⟨#[]⟩ : ByteArray)]) (t := 105) ?hr ?_; (case hd => rfl); (case hg => rfl); (case hr => first | (go_simp; done) | (go_simp; rfl))
                  intro gb141 hg w86 hbox hb
                  have n0_ := Aside0.mk (blk_below (g := gb135) (o := .cells #[.slice (some ad140) l0_0.length c0_0, .int .i64 a0_1, .int .i64 a0_2] 45 (0, 0)) B3x3_ hb)
                  have n1_ := Aside0.mk (below_step B3x2_ hb)
                  have n2_ := Aside0.mk (hbox)
                  have n3_ := Aside0.mk ((by rw [hg]; exact (below_size B3x2_) : w.heap.size ≤ gb141))
                  have n4_ := Aside0.mk ((by rw [hg]; exact (below_size B3x2_) : w.heap.size ≤ gb141))
                  have n5_ := Aside0.mk ((by rw [hg]; exact Nat.ne_of_lt (blk_lt (g := gb135) (o := .cells #[.slice (some ad140) l0_0.length c0_0, .int .i64 a0_1, .int .i64 a0_2] 45 (0, 0)) B3x3_) : gb135 ≠ gb141))
                  have n6_ := Aside0.mk ((by rw [hg]; exact Nat.ne_of_gt (blk_lt (g := gb135) (o := .cells #[.slice (some ad140) l0_0.length c0_0, .int .i64 a0_1, .int .i64 a0_2] 45 (0, 0)) B3x3_) : gb141 ≠ gb135))
                  clear BK135
                  clear HB
                  have BK135 := n0_
                  have HB := n1_
                  have BK141 := n2_
                  have GW141 := n3_
                  have GE141 := n4_
                  have NB135_141 := n5_
                  have NB141_135 := n6_
                  clear n0_ n1_ n2_ n3_ n4_ n5_ n6_
                  clear hb hbox hg
                  refine hK.out _ _ ⟨(blk_cell BK135.out 0).trans rfl, (blk_cell BK135.out 1).trans rfl, (blk_cell BK135.out 2).trans rfl, ((HB.out.cell (World.block_lt_of_cell? w _ hw140_0)).trans hw140_0), ((HB.out.cell (World.block_lt_of_cell? w _ hw140_1)).trans hw140_1)⟩ (fun hHeld => ?_)
                  clear hK K
                  refine norm_ (a' := ?_) ?_ ?_
                  rotate_left
                  ·show Act.put _ (some 6) _ = _
                   simp only [Act.put, List.setIfInBounds_toArray, List.set_cons_zero, List.set_cons_succ, i64_w, i32_w]
                   rfl
                  refine one_ (i := 11) (N := none) #[true, true, true, true, true, true, true, true, true, true, true, true] rfl rfl (one_of HT_.out B3x5_) (by decide) (fun K hK => ?_)
                  have hs87 : w86.cell? ⟨gb141, 0, none⟩ = some (.int .i64 0) := (blk_cell BK141.out 0).trans rfl
                  have hfs87 := blk_frozen BK141.out 0
                  have hns87_0 := NB135_141.out
                  have hms87_0 := NB141_135.out
                  have hs88 : w86.cell? ⟨gb141, 1, none⟩ = some (.string (⟨#[]⟩ : ByteArray)) := (blk_cell BK141.out 1).trans rfl
                  have hfs88 := blk_frozen BK141.out 1
                  have hns88_0 := NB135_141.out
                  have hms88_0 := NB141_135.out
                  refine skip_ (w1 := ?_) (by rfl) rfl ?_ ?_
                  rotate_left
                  ·go_simp
                   rfl
                  refine hK.out _ _ ⟨((cell_far (p := ⟨gb141, _, none⟩) NB135_141.out _).trans (((cell_far (p := ⟨gb141, _, none⟩) NB135_141.out _).trans (hHeld.1)))), ((cell_far (p := ⟨gb141, _, none⟩) NB135_141.out _).trans (((cell_far (p := ⟨gb141, _, none⟩) NB135_141.out _).trans (hHeld.2.1)))), ((cell_far (p := ⟨gb141, _, none⟩) NB135_141.out _).trans (((cell_far (p := ⟨gb141, _, none⟩) NB135_141.out _).trans (hHeld.2.2.1)))), ((cell_far (p := ⟨gb141, _, none⟩) B3x0_ _).trans (((cell_far (p := ⟨gb141, _, none⟩) B3x0_ _).trans (hHeld.2.2.2.1)))), ((cell_far (p := ⟨gb141, _, none⟩) B3x1_ _).trans (((cell_far (p := ⟨gb141, _, none⟩) B3x1_ _).trans (hHeld.2.2.2.2))))⟩ (fun hHeld => ?_)
                  clear hK K
                  refine done_ (done_of HT_.out B3x5_) ?_
                  have hnb89 := NB141_135.out
                  have hnc89 := NB135_141.out
                  obtain ⟨hcz90_0, hcz90_1⟩ := cl2 BK141.out
                  obtain ⟨hfz90_0, hfz90_1⟩ := fr2 BK141.out
                  try go_wp2
                  go_ret
                  exact ⟨by first | rfl | (simp [errW_none, errW_some] <;> rfl) | (simp only [← hji24]; first | rfl | (simp [errW_none, errW_some] <;> rfl)) | (simp [*, errW_none, errW_some] <;> rfl), by repeat (first | (with_reducible first | exact HB.out | apply below_alloc | apply pw_below_drewN | apply below_drew1 | refine below_set ?_ GE135.out | refine below_set ?_ GE141.out) | exact HB.out)⟩
                ·exact absurd H (by exfalso; (try have h0_ := of_decide_eq_false c27b0); (try have g0_ := c27); omega)
              ·rw [if_neg c26] at H
               exact absurd H (by simp)
             ·rw [if_neg c25] at H
              exact absurd H (by simp)
           ·rw [if_neg c22] at H
            have c22b0 : decide (x5_4 < (l0_0.length : Int)) = false := decide_eq_false c22
            clear c22
            obtain rfl := Option.some.inj H
            go_wp2
            go_ret
            exact ⟨by first | rfl | (simp [errW_none, errW_some] <;> rfl) | (simp [*, errW_none, errW_some] <;> rfl), by repeat (first | (with_reducible first | exact HB.out | apply below_alloc | apply pw_below_drewN | apply below_drew1 | refine below_set ?_ GE135.out) | exact HB.out)⟩

end Go.Proofs.Ytideegpoakkgeaa.QFnRingsTold
