/- Functions that a law reaches, as functions of Lean, and the walks that show that the calls come to their answers: written by a program of this project out of the translation. No condition. -/
import Derived.Test.YtideegpoakkgeaaQFnCellsx0
import Derived.Test.YtideegpoakkgeaaQFnCellsx2
import Derived.Test.YtideegpoakkgeaaQFnCellsx4
import Derived.Test.YtideegpoakkgeaaQFnCellsx5
import Derived.Test.YtideegpoakkgeaaShort3
import Derived.Test.YtideegpoakkgeaaShort2
import Derived.Test.YtideegpoakkgeaaShort
namespace Go.Proofs.Ytideegpoakkgeaa.QFnCells
open Go.RowKit Go.Proofs.YtideegpoakkgeaaW.PrintWords Go.Proofs.YtideegpoakkgeaaW.PrintLast Go.Proofs.YtideegpoakkgeaaW.PrintMore Go.Proofs.Ytideegpoakkgeaa.Short
attribute [local go_sem] max2_int min2_int max_two min_two max_three min_three max_four min_four   -- for this text's walks alone
set_option linter.unusedVariables false
set_option linter.unusedSimpArgs false

theorem B7x0_ {p : Prop} (h : p := by (with_reducible repeat (first | refine blk_drewN ?_ _ | refine blk_drew ?_ | refine blk_alloc ?_ _)); refine blk_put (cs := #[.int .i64 (wrap64 (bt t305 0)), .int .i64 (wrap64 (bt t305 1)), .int .i64 (wrap64 (bt t305 2)), .string (⟨#[]⟩ : ByteArray)]) ?_ 3 _ rfl; (with_reducible repeat (first | refine blk_drewN ?_ _ | refine blk_drew ?_ | refine blk_alloc ?_ _)); refine blk_put (cs := #[.int .i64 (wrap64 (bt t305 0)), .int .i64 (wrap64 (bt t305 1)), .int .i64 0, .string (⟨#[]⟩ : ByteArray)]) ?_ 2 _ rfl; (with_reducible repeat (first | refine blk_drewN ?_ _ | refine blk_drew ?_ | refine blk_alloc ?_ _)); refine blk_put (cs := #[.int .i64 (wrap64 (bt t305 0)), .int .i64 0, .int .i64 0, .string (⟨#[]⟩ : ByteArray)]) ?_ 1 _ rfl; (with_reducible repeat (first | refine blk_drewN ?_ _ | refine blk_drew ?_ | refine blk_alloc ?_ _)); refine blk_put (cs := #[.int .i64 0, .int .i64 0, .int .i64 0, .string (⟨#[]⟩ : ByteArray)]) ?_ 0 _ rfl; (with_reducible repeat (first | refine blk_drewN ?_ _ | refine blk_drew ?_ | refine blk_alloc ?_ _)); exact BK307.out) : p := h
theorem B7x1_ {p : Prop} (h : p := by repeat (first | (with_reducible first | exact HB.out | apply below_alloc | apply pw_below_drewN | apply below_drew1 | refine below_set ?_ GE304.out) | exact HB.out)) : p := h
theorem B7x2_ {p : Prop} (h : p := by (with_reducible repeat (first | refine blk_drewN ?_ _ | refine blk_drew ?_ | refine blk_alloc ?_ _)); refine blk_put (cs := #[.int .i64 0, .int .i64 0, .int .i64 0, .string (⟨#[]⟩ : ByteArray)]) ?_ 3 _ rfl; (with_reducible repeat (first | refine blk_drewN ?_ _ | refine blk_drew ?_ | refine blk_alloc ?_ _)); refine blk_put (cs := #[.int .i64 0, .int .i64 0, .int .i64 0, .string (⟨#[]⟩ : ByteArray)]) ?_ 2 _ rfl; (with_reducible repeat (first | refine blk_drewN ?_ _ | refine blk_drew ?_ | refine blk_alloc ?_ _)); refine blk_put (cs := #[.int .i64 0, .int .i64 0, .int .i64 0, .string (⟨#[]⟩ : ByteArray)]) ?_ 1 _ rfl; (with_reducible repeat (first | refine blk_drewN ?_ _ | refine blk_drew ?_ | refine blk_alloc ?_ _)); refine blk_put (cs := #[.int .i64 0, .int .i64 0, .int .i64 0, .string (⟨#[]⟩ : ByteArray)]) ?_ 0 _ rfl; (with_reducible repeat (first | refine blk_drewN ?_ _ | refine blk_drew ?_ | refine blk_alloc ?_ _)); exact BK304.out) : p := h
theorem B7x3_ {p : Prop} (h : p := by (with_reducible repeat (first | refine blk_drewN ?_ _ | refine blk_drew ?_ | refine blk_alloc ?_ _)); exact BK304.out) : p := h
theorem B7x4_ {p : Prop} (h : p := by (try simp only [List.map_toArray, List.map_cons, List.map_nil]); first | done | rfl | (simp only [List.length_drop, List.length_take]; rfl)) : p := h
theorem B7x5_ {p : Prop} (h : p := by (with_reducible repeat (first | refine blk_drewN ?_ _ | refine blk_drew ?_ | refine blk_alloc ?_ _)); refine blk_far ?_ NB304_307.out _; (with_reducible repeat (first | refine blk_drewN ?_ _ | refine blk_drew ?_ | refine blk_alloc ?_ _)); refine blk_far ?_ NB304_307.out _; (with_reducible repeat (first | refine blk_drewN ?_ _ | refine blk_drew ?_ | refine blk_alloc ?_ _)); refine blk_far ?_ NB304_307.out _; (with_reducible repeat (first | refine blk_drewN ?_ _ | refine blk_drew ?_ | refine blk_alloc ?_ _)); refine blk_far ?_ NB304_307.out _; (with_reducible repeat (first | refine blk_drewN ?_ _ | refine blk_drew ?_ | refine blk_alloc ?_ _)); exact BK304.out) : p := h
theorem B7x6_ {p : Prop} (h : p := by first | (with_reducible assumption) | assumption) : p := h
theorem B7x7_ {p : Prop} (h : p := by repeat (first | (with_reducible first | exact HB.out | apply below_alloc | apply pw_below_drewN | apply below_drew1 | refine below_set ?_ (IsS131.ge HI312.out)) | exact HB.out)) : p := h
theorem B7x8_ {p : Prop} (h : p := by kernel_rfl) : p := h
theorem B7x9_ {p : Prop} (h : p := by repeat (first | (with_reducible first | exact HB.out | apply below_alloc | apply pw_below_drewN | apply below_drew1) | exact HB.out)) : p := h
theorem B7x10_ {p : Prop} (h : p := by repeat (first | (with_reducible first | exact HB.out | apply below_alloc | apply pw_below_drewN | apply below_drew1 | refine below_set ?_ GE304.out | refine below_set ?_ GE307.out) | exact HB.out)) : p := h
theorem B7x11_ {p : Prop} (h : p := by repeat (first | (with_reducible first | exact HI312.out | apply IsS131.alloc | apply IsS131.drewN | apply IsS131.drew | apply IsS131.set_1 | apply IsS131.set_2) | exact HI312.out)) : p := h
theorem B7x12_ {p : Prop} (h : p := by (with_reducible repeat (first | apply Kd.R_alloc | apply Kd.R_drewN | apply Kd.R_drew)); exact HO_4.out) : p := h
/-! ### spec_ReadCell: function 50 -/
def spec_ReadCell.j0 : Nat → ByteArray → Bool → Option (Int × Int × Int × ByteArray × Bool)
 | 0, _, _ => none
 | k + 1, x4, x18 => if x18 = true then (some (0, 0, 0, (⟨#[]⟩ : ByteArray), false)) else (if 0 < (x4.size : Int) then (if 1 < (x4.size : Int) then (if 2 < (x4.size : Int) then (if 3 ≤ (x4.size : Int) then ((spec_CellOk.f (wrap64 (bt x4 0)) (wrap64 (bt x4 1)) (wrap64 (bt x4 2)) (x4.extract 3 x4.size)).bind fun t308 => (if t308 = true then (some (wrap64 (bt x4 0), wrap64 (bt x4 1), wrap64 (bt x4 2), x4.extract 3 x4.size, true)) else (some (0, 0, 0, (⟨#[]⟩ : ByteArray), false)))) else (none)) else (none)) else (none)) else (none))
def spec_ReadCell.f (k : Nat) (a0 : ByteArray) : Option (Int × Int × Int × ByteArray × Bool) := (spec_Unsealed.f k a0).bind fun bt305 => (if bt305.2 = true then (spec_ReadCell.j0 k bt305.1 (decide ((bt305.1.size : Int) < 3))) else (spec_ReadCell.j0 k bt305.1 true))
theorem spec_ReadCell.mono_l : ∀ k, (∀ y0 y1, LeO (spec_ReadCell.j0 k y0 y1) (spec_ReadCell.j0 (k + 1) y0 y1))
 | 0 => fun _ _ r h => by simp [spec_ReadCell.j0] at h
 | k + 1 => by
  have ih0 := spec_ReadCell.mono_l k
  ·intro y0 y1
   unfold spec_ReadCell.j0
   repeat' first
   | (with_reducible exact ih0 _ _)
   | (with_reducible exact spec_Unsealed.mono _ _)
   | (with_reducible exact LeO.refl _)
   | (with_reducible exact LeO.none _)
   | (with_reducible refine LeO.ite ?_ ?_)
   | (with_reducible refine LeO.bind ?_ (fun _ => ?_))
   | exact ih0 _ _
   | exact spec_Unsealed.mono _ _
   | exact LeO.none _
   | refine LeO.ite ?_ ?_
   | refine LeO.bind ?_ (fun _ => ?_)
theorem spec_ReadCell.mono : ∀ a0 k, LeO (spec_ReadCell.f k a0) (spec_ReadCell.f (k + 1) a0) := by
 intro a0 k
 have ih0 := spec_ReadCell.mono_l k
 unfold spec_ReadCell.f
 repeat' first
   | (with_reducible exact ih0 _ _)
   | (with_reducible exact spec_Unsealed.mono _ _)
   | (with_reducible exact LeO.refl _)
   | (with_reducible exact LeO.none _)
   | (with_reducible refine LeO.ite ?_ ?_)
   | (with_reducible refine LeO.bind ?_ (fun _ => ?_))
   | exact ih0 _ _
   | exact spec_Unsealed.mono _ _
   | exact LeO.none _
   | refine LeO.ite ?_ ?_
   | refine LeO.bind ?_ (fun _ => ?_)
def spec_ReadCell.T4 : Bool × List (List Nat × List Nat) := (true, [([], []), ([0], [0]), ([1], [1]), ([], []), ([3], [3]), ([4], [4]), ([], []), ([6], [6]), ([7], [7]), ([], []), ([9], [9]), ([2, 5, 8, 10], [2, 5, 8, 10]), ([], []), ([12, 11, 0, 1, 2, 3, 4, 5, 6, 7, 8, 9, 10, 11, 12], [11, 12])])
def spec_ReadCell.B4 : List Nat := [0, 1, 3, 0, 8, 24, 0, 64, 192, 0, 512, 2047, 0, 8191]
theorem spec_ReadCell.tab4 : rtab .any (opsOf Try.f50 4) = spec_ReadCell.T4 := by kernel_rfl
theorem spec_ReadCell.bits4 : waitsOk spec_ReadCell.T4.2 spec_ReadCell.B4 = true := by kernel_rfl
set_option maxHeartbeats 8000000 in
set_option maxRecDepth 100000 in
theorem spec_ReadCell.calls (k : Nat) (a0 : ByteArray) (r1 : Int) (r2 : Int) (r3 : Int) (r4 : ByteArray) (r5 : Bool) (w : World) (h : spec_ReadCell.f k a0 = some (r1, r2, r3, r4, r5)) :
  Calls Try.prog 50 #[.string a0] w fun e w' => e = .returned (.tuple #[.agg #[.int .i64 r1, .int .i64 r2, .int .i64 r3, .string r4], .bool r5]) ∧ Below w.heap.size w w' := by
 have hu75 := Try.underlying75
 have HB := Aside0.mk (Below.refl w.heap.size w)
 have H : ((spec_Unsealed.f k a0).bind fun bt305 => (if bt305.2 = true then (spec_ReadCell.j0 k bt305.1 (decide ((bt305.1.size : Int) < 3))) else (spec_ReadCell.j0 k bt305.1 true))) = some (r1, r2, r3, r4, r5) := h
 clear h
 replace H := Option.bind_eq_some_iff.mp H
 obtain ⟨⟨t305, t306⟩, A20, H⟩ := H
 (try dsimp only at H)
 have A2 := Aside0.mk A20
 clear A20
 have HC3 := Aside0.mk H
 clear H
 go_enter Try.func50, Try.ntmps50
 go_upto_region 2 with (first | ((with_reducible refine gate_dst (N := 2) rfl ?_); (try (refine gate_guard (by rfl) ?_; dsimp only)); refine box_event ?hg (N := 2) ?hd (cs := #[.int .i64 0, .int .i64 0, .int .i64 0, .string (⟨#[]⟩ : ByteArray)]) (t := 75) ?hr ?_; (case hd => rfl); (case hg => rfl); (case hr => first | (go_simp; done) | (go_simp; rfl)); intro gb304 hg w4 hbox hb; have n0_ := Aside0.mk (below_step B7x9_ hb); have n1_ := Aside0.mk (hbox); have n2_ := Aside0.mk ((by rw [hg]; exact (below_size B7x9_) : w.heap.size ≤ gb304)); have n3_ := Aside0.mk ((by rw [hg]; exact (below_size B7x9_) : w.heap.size ≤ gb304)); clear HB; have HB := n0_; have BK304 := n1_; have GW304 := n2_; have GE304 := n3_; clear n0_ n1_ n2_ n3_; clear hb hbox hg) | ((with_reducible refine gate_callee (f := 93) rfl ?_); refine goesL_ (some 9) rfl rfl Try.func93 B7x8_ rfl #[.string a0] rfl B7x4_ ?_; (with_reducible refine (spec_Unsealed.calls k a0 t305 t306 _ A2.out).mono ?_); rintro e w5 ⟨rfl, hb⟩; refine ⟨_, rfl, ?_⟩; have n0_ := Aside0.mk (blk_below (g := gb304) (o := .cells #[.int .i64 0, .int .i64 0, .int .i64 0, .string (⟨#[]⟩ : ByteArray)] 75 (0, 0)) B7x3_ hb); have n1_ := Aside0.mk (below_step B7x1_ hb); clear BK304; clear HB; have BK304 := n0_; have HB := n1_; clear n0_ n1_; (try clear hb); (try clear hb2); (try clear hk); (try clear hi)))
 (try simp only [Act.put, List.setIfInBounds_toArray, List.set_cons_zero, List.set_cons_succ])
 go_cut [18] (fun v18 wc => ∃ (kq : Nat) (x18_2 : Bool), v18 = .bool x18_2 ∧ Aside0 (spec_ReadCell.j0 kq t305 x18_2 = some (r1, r2, r3, r4, r5)) ∧ Aside0 (kq ≤ k) ∧ Aside0 (wc.heap[gb304]? = some (.cells #[.int .i64 0, .int .i64 0, .int .i64 0, .string (⟨#[]⟩ : ByteArray)] 75 (0, 0))) ∧ Aside0 (Below w.heap.size w wc))
 case first =>
  have H := HC3.out
  clear HC3
  by_cases c6 : t306 = true
  ·subst c6
   rw [if_pos rfl] at H
   have H' := Aside0.mk H
   clear H
   go_wp2
   go_meet
   case rel => exact ⟨_, (decide ((t305.size : Int) < 3)), (be_), H', ⟨by first | omega | exact Nat.le_refl _⟩, ⟨by (with_reducible repeat (first | refine blk_drewN ?_ _ | refine blk_drew ?_ | refine blk_alloc ?_ _)); exact BK304.out⟩, ⟨by repeat (first | (with_reducible first | exact HB.out | apply below_alloc | apply pw_below_drewN | apply below_drew1 | refine below_set ?_ GE304.out) | exact HB.out)⟩⟩
  ·replace c6 := Bool.eq_false_iff.mpr c6
   subst c6
   rw [if_neg (show ¬ (false = true) by decide)] at H
   have H' := Aside0.mk H
   clear H
   go_wp2
   go_meet
   case rel => exact ⟨_, (true), (be_), H', ⟨by first | omega | exact Nat.le_refl _⟩, ⟨by (with_reducible repeat (first | refine blk_drewN ?_ _ | refine blk_drew ?_ | refine blk_alloc ?_ _)); exact BK304.out⟩, ⟨by repeat (first | (with_reducible first | exact HB.out | apply below_alloc | apply pw_below_drewN | apply below_drew1 | refine below_set ?_ GE304.out) | exact HB.out)⟩⟩
 case rest =>
  clear HC3
  try clear p2
  try clear c5
  try clear c6
  obtain ⟨kq, x18_2, rfl, HA, HJ2, BK304, HB⟩ := hcut
  cases kq with
  | zero => exact absurd HA.out (by simp [spec_ReadCell.j0])
  | succ kj2 =>
   have H := HA.out
   clear HA
   simp only [spec_ReadCell.j0] at H
   by_cases c7 : x18_2 = true
   ·subst c7
    rw [if_pos rfl] at H
    simp only [Option.some.injEq, Prod.mk.injEq] at H
    obtain ⟨rfl, rfl, rfl, rfl, rfl⟩ := H
    obtain ⟨hcz8_0, hcz8_1, hcz8_2, hcz8_3⟩ := cl4 BK304.out
    obtain ⟨hfz8_0, hfz8_1, hfz8_2, hfz8_3⟩ := fr4 BK304.out
    go_wp2
    refine bodyPost_ret (results_ct rfl _ _ gb304 75 #[.int .i64 0, .int .i64 0, .int .i64 0, .string (⟨#[]⟩ : ByteArray)] (0, 0) _ rfl B7x2_ Try.underlying75 rfl B7x8_) rfl ?_
    exact ⟨by first | rfl | (simp [errW_none, errW_some] <;> rfl) | (simp [*, errW_none, errW_some] <;> rfl), by repeat (first | (with_reducible first | exact HB.out | apply below_alloc | apply pw_below_drewN | apply below_drew1 | refine below_set ?_ GE304.out) | exact HB.out)⟩
   ·replace c7 := Bool.eq_false_iff.mpr c7
    subst c7
    rw [if_neg (show ¬ (false = true) by decide)] at H
    by_cases c9 : 0 < (t305.size : Int)
    ·rw [if_pos c9] at H
     have c9b0 : decide (0 < (t305.size : Int)) = true := decide_eq_true c9
     have c9b1 : decide (0 < t305.size) = true := decide_eq_true (by omega)
     clear c9
     by_cases c11 : 1 < (t305.size : Int)
     ·rw [if_pos c11] at H
      have c11b0 : decide (1 < (t305.size : Int)) = true := decide_eq_true c11
      have c11b1 : decide (1 < t305.size) = true := decide_eq_true (by omega)
      clear c11
      by_cases c13 : 2 < (t305.size : Int)
      ·rw [if_pos c13] at H
       have c13b0 : decide (2 < (t305.size : Int)) = true := decide_eq_true c13
       have c13b1 : decide (2 < t305.size) = true := decide_eq_true (by omega)
       clear c13
       by_cases c15 : 3 ≤ (t305.size : Int)
       ·rw [if_pos c15] at H
        have c15b0 := eq_true c15
        have c15b1 : decide (3 ≤ (t305.size : Int)) = true := decide_eq_true c15
        clear c15
        replace H := Option.bind_eq_some_iff.mp H
        obtain ⟨t308, A160, H⟩ := H
        (try dsimp only at H)
        have A16 := Aside0.mk A160
        clear A160
        by_cases c17 : t308 = true
        ·subst c17
         rw [if_pos rfl] at H
         simp only [Option.some.injEq, Prod.mk.injEq] at H
         obtain ⟨rfl, rfl, rfl, rfl, rfl⟩ := H
         try go_wp2
         have n0_ := Aside0.mk (blk_drew BK304.out)
         have n1_ := Aside0.mk (below_drew1 HB.out)
         clear BK304
         clear HB
         have BK304 := n0_
         have HB := n1_
         clear n0_ n1_
         have p10 : 0 ≤ (0 : Int) := (by omega)
         have q10 : 0 < t305.size := (by have : (0 : Int) < (t305.size : Int) := of_decide_eq_true B7x6_; omega)
         have hx10 : ∀ h : 0 < t305.size, ((t305[0]'h).toNat : Int) = bt t305 0 := bt_at t305 0
         clear p10
         have qi10 : (0 < (t305.size : Int)) = True := eq_true (of_decide_eq_true B7x6_)
         replace q10 := eq_true q10
         have p12 : 0 ≤ (1 : Int) := (by omega)
         have q12 : 1 < t305.size := (by have : (1 : Int) < (t305.size : Int) := of_decide_eq_true B7x6_; omega)
         have hx12 : ∀ h : 1 < t305.size, ((t305[1]'h).toNat : Int) = bt t305 1 := bt_at t305 1
         clear p12
         have qi12 : (1 < (t305.size : Int)) = True := eq_true (of_decide_eq_true B7x6_)
         replace q12 := eq_true q12
         have p14 : 0 ≤ (2 : Int) := (by omega)
         have q14 : 2 < t305.size := (by have : (2 : Int) < (t305.size : Int) := of_decide_eq_true B7x6_; omega)
         have hx14 : ∀ h : 2 < t305.size, ((t305[2]'h).toNat : Int) = bt t305 2 := bt_at t305 2
         clear p14
         have qi14 : (2 < (t305.size : Int)) = True := eq_true (of_decide_eq_true B7x6_)
         replace q14 := eq_true q14
         refine start_ (n := 14) (S := fun w' => True) (ds := []) #[false, false, false, false, false, false, false, false, false, false, false, false, false, false] B7x8_ rfl rfl trivial (fun hHeld => ?_); refine with_tabW spec_ReadCell.tab4 spec_ReadCell.bits4 (fun HT_ HW_ => ?_)
         generalize wc.drew = w18 at BK304 HB hHeld ⊢
         refine pu_ 0 20 HT_ ?_
         refine pu_ 3 23 HT_ ?_
         refine pu_ 6 26 HT_ ?_
         refine pu_ 9 29 HT_ ?_
         refine pu_ 10 30 HT_ ?_
         refine take_ (i := 1) (N := some 21) (v := ?_) (a' := ?_) #[true, true, false, true, false, false, true, false, false, true, true, false, false, false] rfl rfl (take_ofW HT_.out HW_.out B7x8_) (fun _ _ _ h => h) (Or.inl ⟨by rfl, ?_⟩) hHeld ?_ ?_
         rotate_left
         ·intro w' _
          go_simp
          with_reducible rfl
         rotate_left
         ·simp only [Act.put, List.setIfInBounds_toArray, List.set_cons_zero, List.set_cons_succ, i64_w, i32_w]
          rfl
         refine pu_ 2 22 HT_ ?_
         refine take_ (i := 4) (N := some 24) (v := ?_) (a' := ?_) #[true, true, true, true, true, false, true, false, false, true, true, false, false, false] rfl rfl (take_ofW HT_.out HW_.out B7x8_) (fun _ _ _ h => h) (Or.inl ⟨by rfl, ?_⟩) hHeld ?_ ?_
         rotate_left
         ·intro w' _
          go_simp
          with_reducible rfl
         rotate_left
         ·simp only [Act.put, List.setIfInBounds_toArray, List.set_cons_zero, List.set_cons_succ, i64_w, i32_w]
          rfl
         refine pu_ 5 25 HT_ ?_
         refine take_ (i := 7) (N := some 27) (v := ?_) (a' := ?_) #[true, true, true, true, true, true, true, true, false, true, true, false, false, false] rfl rfl (take_ofW HT_.out HW_.out B7x8_) (fun _ _ _ h => h) (Or.inl ⟨by rfl, ?_⟩) hHeld ?_ ?_
         rotate_left
         ·intro w' _
          go_simp
          with_reducible rfl
         rotate_left
         ·simp only [Act.put, List.setIfInBounds_toArray, List.set_cons_zero, List.set_cons_succ, i64_w, i32_w]
          rfl
         refine pu_ 8 28 HT_ ?_
         refine pu_ 11 31 HT_ ?_
         refine one_ (i := 12) (N := some 6) #[true, true, true, true, true, true, true, true, true, true, true, true, true, false] rfl rfl (one_of HT_.out B7x8_) (by decide) (fun K hK => ?_)
         refine box_step ?hg (N := 6) ?hd (cs := #[.int .i64 0, .int .i64 0, .int .i64 0, .string (⟨#[]⟩ : ByteArray)]) (t := 75) ?hr ?_; (case hd => rfl); (case hg => rfl); (case hr => first | (go_simp; done) | (go_simp; rfl))
         intro gb307 hg w19 hbox hb
         have n0_ := Aside0.mk (blk_below (g := gb304) (o := .cells #[.int .i64 0, .int .i64 0, .int .i64 0, .string (⟨#[]⟩ : ByteArray)] 75 (0, 0)) B7x3_ hb)
         have n1_ := Aside0.mk (below_step B7x1_ hb)
         have n2_ := Aside0.mk (hbox)
         have n3_ := Aside0.mk ((by rw [hg]; exact (below_size B7x1_) : w.heap.size ≤ gb307))
         have n4_ := Aside0.mk ((by rw [hg]; exact (below_size B7x1_) : w.heap.size ≤ gb307))
         have n5_ := Aside0.mk ((by rw [hg]; exact Nat.ne_of_lt (blk_lt (g := gb304) (o := .cells #[.int .i64 0, .int .i64 0, .int .i64 0, .string (⟨#[]⟩ : ByteArray)] 75 (0, 0)) B7x3_) : gb304 ≠ gb307))
         have n6_ := Aside0.mk ((by rw [hg]; exact Nat.ne_of_gt (blk_lt (g := gb304) (o := .cells #[.int .i64 0, .int .i64 0, .int .i64 0, .string (⟨#[]⟩ : ByteArray)] 75 (0, 0)) B7x3_) : gb307 ≠ gb304))
         clear BK304
         clear HB
         have BK304 := n0_
         have HB := n1_
         have BK307 := n2_
         have GW307 := n3_
         have GE307 := n4_
         have NB304_307 := n5_
         have NB307_304 := n6_
         clear n0_ n1_ n2_ n3_ n4_ n5_ n6_
         clear hb hbox hg
         refine hK.out _ _ trivial (fun hHeld => ?_)
         clear hK K
         refine norm_ (a' := ?_) ?_ ?_
         rotate_left
         ·show Act.put _ (some 6) _ = _
          simp only [Act.put, List.setIfInBounds_toArray, List.set_cons_zero, List.set_cons_succ, i64_w, i32_w]
          rfl
         refine one_ (i := 13) (N := none) #[true, true, true, true, true, true, true, true, true, true, true, true, true, true] rfl rfl (one_of HT_.out B7x8_) (by decide) (fun K hK => ?_)
         have hs20 : w19.cell? ⟨gb307, 0, none⟩ = some (.int .i64 0) := (blk_cell BK307.out 0).trans rfl
         have hfs20 := blk_frozen BK307.out 0
         have hns20_0 := NB304_307.out
         have hms20_0 := NB307_304.out
         have hs21 : w19.cell? ⟨gb307, 1, none⟩ = some (.int .i64 0) := (blk_cell BK307.out 1).trans rfl
         have hfs21 := blk_frozen BK307.out 1
         have hns21_0 := NB304_307.out
         have hms21_0 := NB307_304.out
         have hs22 : w19.cell? ⟨gb307, 2, none⟩ = some (.int .i64 0) := (blk_cell BK307.out 2).trans rfl
         have hfs22 := blk_frozen BK307.out 2
         have hns22_0 := NB304_307.out
         have hms22_0 := NB307_304.out
         have hs23 : w19.cell? ⟨gb307, 3, none⟩ = some (.string (⟨#[]⟩ : ByteArray)) := (blk_cell BK307.out 3).trans rfl
         have hfs23 := blk_frozen BK307.out 3
         have hns23_0 := NB304_307.out
         have hms23_0 := NB307_304.out
         refine skip_ (w1 := ?_) (by rfl) rfl ?_ ?_
         rotate_left
         ·go_simp
          rfl
         refine hK.out _ _ trivial (fun hHeld => ?_)
         clear hK K
         refine done_ (done_of HT_.out B7x8_) ?_
         have hnb24 := NB307_304.out
         have hnc24 := NB304_307.out
         obtain ⟨hcz25_0, hcz25_1, hcz25_2, hcz25_3⟩ := cl4 BK307.out
         obtain ⟨hfz25_0, hfz25_1, hfz25_2, hfz25_3⟩ := fr4 BK307.out
         try go_wp2_with (first | ((with_reducible refine gate_callee (f := 47) rfl ?_); refine goesL_ (some 33) rfl rfl Try.func47 B7x8_ rfl #[.agg #[.int .i64 (wrap64 (bt t305 0)), .int .i64 (wrap64 (bt t305 1)), .int .i64 (wrap64 (bt t305 2)), .string (t305.extract 3 t305.size)]] rfl B7x4_ ?_; (with_reducible refine (spec_CellOk.calls (wrap64 (bt t305 0)) (wrap64 (bt t305 1)) (wrap64 (bt t305 2)) (t305.extract 3 t305.size) true _ A16.out).mono ?_); rintro e w26 ⟨rfl, hb⟩; refine ⟨_, rfl, ?_⟩; have n0_ := Aside0.mk (blk_below (g := gb304) (o := .cells #[.int .i64 0, .int .i64 0, .int .i64 0, .string (⟨#[]⟩ : ByteArray)] 75 (0, 0)) B7x5_ hb); have n1_ := Aside0.mk (blk_below (g := gb307) (o := .cells #[.int .i64 (wrap64 (bt t305 0)), .int .i64 (wrap64 (bt t305 1)), .int .i64 (wrap64 (bt t305 2)), .string (t305.extract 3 t305.size)] 75 (0, 0)) B7x0_ hb); have n2_ := Aside0.mk (below_step B7x10_ hb); clear BK304; clear BK307; clear HB; have BK304 := n0_; have BK307 := n1_; have HB := n2_; clear n0_ n1_ n2_; (try clear hb); (try clear hb2); (try clear hk); (try clear hi); obtain ⟨hcz27_0, hcz27_1, hcz27_2, hcz27_3⟩ := cl4 BK307.out; obtain ⟨hfz27_0, hfz27_1, hfz27_2, hfz27_3⟩ := fr4 BK307.out; obtain ⟨hcz28_0, hcz28_1, hcz28_2, hcz28_3⟩ := cl4 BK304.out; obtain ⟨hfz28_0, hfz28_1, hfz28_2, hfz28_3⟩ := fr4 BK304.out))
         refine bodyPost_ret (results_ct rfl _ _ gb304 75 #[.int .i64 (wrap64 (bt t305 0)), .int .i64 (wrap64 (bt t305 1)), .int .i64 (wrap64 (bt t305 2)), .string (t305.extract 3 t305.size)] (0, 0) _ rfl (by (with_reducible repeat (first | refine blk_drewN ?_ _ | refine blk_drew ?_ | refine blk_alloc ?_ _)); refine blk_put (cs := #[.int .i64 (wrap64 (bt t305 0)), .int .i64 (wrap64 (bt t305 1)), .int .i64 (wrap64 (bt t305 2)), .string (⟨#[]⟩ : ByteArray)]) ?_ 3 _ rfl; (with_reducible repeat (first | refine blk_drewN ?_ _ | refine blk_drew ?_ | refine blk_alloc ?_ _)); refine blk_put (cs := #[.int .i64 (wrap64 (bt t305 0)), .int .i64 (wrap64 (bt t305 1)), .int .i64 0, .string (⟨#[]⟩ : ByteArray)]) ?_ 2 _ rfl; (with_reducible repeat (first | refine blk_drewN ?_ _ | refine blk_drew ?_ | refine blk_alloc ?_ _)); refine blk_put (cs := #[.int .i64 (wrap64 (bt t305 0)), .int .i64 0, .int .i64 0, .string (⟨#[]⟩ : ByteArray)]) ?_ 1 _ rfl; (with_reducible repeat (first | refine blk_drewN ?_ _ | refine blk_drew ?_ | refine blk_alloc ?_ _)); refine blk_put (cs := #[.int .i64 0, .int .i64 0, .int .i64 0, .string (⟨#[]⟩ : ByteArray)]) ?_ 0 _ rfl; (with_reducible repeat (first | refine blk_drewN ?_ _ | refine blk_drew ?_ | refine blk_alloc ?_ _)); exact BK304.out) Try.underlying75 rfl B7x8_) rfl ?_
         exact ⟨by first | rfl | (simp [errW_none, errW_some] <;> rfl) | (simp [*, errW_none, errW_some] <;> rfl), by repeat (first | (with_reducible first | exact HB.out | apply below_alloc | apply pw_below_drewN | apply below_drew1 | refine below_set ?_ GE304.out | refine below_set ?_ GE307.out) | exact HB.out)⟩
        ·replace c17 := Bool.eq_false_iff.mpr c17
         subst c17
         rw [if_neg (show ¬ (false = true) by decide)] at H
         simp only [Option.some.injEq, Prod.mk.injEq] at H
         obtain ⟨rfl, rfl, rfl, rfl, rfl⟩ := H
         try go_wp2
         have n0_ := Aside0.mk (blk_drew BK304.out)
         have n1_ := Aside0.mk (below_drew1 HB.out)
         clear BK304
         clear HB
         have BK304 := n0_
         have HB := n1_
         clear n0_ n1_
         have p10 : 0 ≤ (0 : Int) := (by omega)
         have q10 : 0 < t305.size := (by have : (0 : Int) < (t305.size : Int) := of_decide_eq_true B7x6_; omega)
         have hx10 : ∀ h : 0 < t305.size, ((t305[0]'h).toNat : Int) = bt t305 0 := bt_at t305 0
         clear p10
         have qi10 : (0 < (t305.size : Int)) = True := eq_true (of_decide_eq_true B7x6_)
         replace q10 := eq_true q10
         have p12 : 0 ≤ (1 : Int) := (by omega)
         have q12 : 1 < t305.size := (by have : (1 : Int) < (t305.size : Int) := of_decide_eq_true B7x6_; omega)
         have hx12 : ∀ h : 1 < t305.size, ((t305[1]'h).toNat : Int) = bt t305 1 := bt_at t305 1
         clear p12
         have qi12 : (1 < (t305.size : Int)) = True := eq_true (of_decide_eq_true B7x6_)
         replace q12 := eq_true q12
         have p14 : 0 ≤ (2 : Int) := (by omega)
         have q14 : 2 < t305.size := (by have : (2 : Int) < (t305.size : Int) := of_decide_eq_true B7x6_; omega)
         have hx14 : ∀ h : 2 < t305.size, ((t305[2]'h).toNat : Int) = bt t305 2 := bt_at t305 2
         clear p14
         have qi14 : (2 < (t305.size : Int)) = True := eq_true (of_decide_eq_true B7x6_)
         replace q14 := eq_true q14
         refine start_ (n := 14) (S := fun w' => True) (ds := []) #[false, false, false, false, false, false, false, false, false, false, false, false, false, false] B7x8_ rfl rfl trivial (fun hHeld => ?_); refine with_tabW spec_ReadCell.tab4 spec_ReadCell.bits4 (fun HT_ HW_ => ?_)
         generalize wc.drew = w29 at BK304 HB hHeld ⊢
         refine pu_ 0 20 HT_ ?_
         refine pu_ 3 23 HT_ ?_
         refine pu_ 6 26 HT_ ?_
         refine pu_ 9 29 HT_ ?_
         refine pu_ 10 30 HT_ ?_
         refine take_ (i := 1) (N := some 21) (v := ?_) (a' := ?_) #[true, true, false, true, false, false, true, false, false, true, true, false, false, false] rfl rfl (take_ofW HT_.out HW_.out B7x8_) (fun _ _ _ h => h) (Or.inl ⟨by rfl, ?_⟩) hHeld ?_ ?_
         rotate_left
         ·intro w' _
          go_simp
          with_reducible rfl
         rotate_left
         ·simp only [Act.put, List.setIfInBounds_toArray, List.set_cons_zero, List.set_cons_succ, i64_w, i32_w]
          rfl
         refine pu_ 2 22 HT_ ?_
         refine take_ (i := 4) (N := some 24) (v := ?_) (a' := ?_) #[true, true, true, true, true, false, true, false, false, true, true, false, false, false] rfl rfl (take_ofW HT_.out HW_.out B7x8_) (fun _ _ _ h => h) (Or.inl ⟨by rfl, ?_⟩) hHeld ?_ ?_
         rotate_left
         ·intro w' _
          go_simp
          with_reducible rfl
         rotate_left
         ·simp only [Act.put, List.setIfInBounds_toArray, List.set_cons_zero, List.set_cons_succ, i64_w, i32_w]
          rfl
         refine pu_ 5 25 HT_ ?_
         refine take_ (i := 7) (N := some 27) (v := ?_) (a' := ?_) #[true, true, true, true, true, true, true, true, false, true, true, false, false, false] rfl rfl (take_ofW HT_.out HW_.out B7x8_) (fun _ _ _ h => h) (Or.inl ⟨by rfl, ?_⟩) hHeld ?_ ?_
         rotate_left
         ·intro w' _
          go_simp
          with_reducible rfl
         rotate_left
         ·simp only [Act.put, List.setIfInBounds_toArray, List.set_cons_zero, List.set_cons_succ, i64_w, i32_w]
          rfl
         refine pu_ 8 28 HT_ ?_
         refine pu_ 11 31 HT_ ?_
         refine one_ (i := 12) (N := some 6) #[true, true, true, true, true, true, true, true, true, true, true, true, true, false] rfl rfl (one_of HT_.out B7x8_) (by decide) (fun K hK => ?_)
         refine box_step ?hg (N := 6) ?hd (cs := #[.int .i64 0, .int .i64 0, .int .i64 0, .string (⟨#[]⟩ : ByteArray)]) (t := 75) ?hr ?_; (case hd => rfl); (case hg => rfl); (case hr => first | (go_simp; done) | (go_simp; rfl))
         intro gb307 hg w30 hbox hb
         have n0_ := Aside0.mk (blk_below (g := gb304) (o := .cells #[.int .i64 0, .int .i64 0, .int .i64 0, .string (⟨#[]⟩ : ByteArray)] 75 (0, 0)) B7x3_ hb)
         have n1_ := Aside0.mk (below_step B7x1_ hb)
         have n2_ := Aside0.mk (hbox)
         have n3_ := Aside0.mk ((by rw [hg]; exact (below_size B7x1_) : w.heap.size ≤ gb307))
         have n4_ := Aside0.mk ((by rw [hg]; exact (below_size B7x1_) : w.heap.size ≤ gb307))
         have n5_ := Aside0.mk ((by rw [hg]; exact Nat.ne_of_lt (blk_lt (g := gb304) (o := .cells #[.int .i64 0, .int .i64 0, .int .i64 0, .string (⟨#[]⟩ : ByteArray)] 75 (0, 0)) B7x3_) : gb304 ≠ gb307))
         have n6_ := Aside0.mk ((by rw [hg]; exact Nat.ne_of_gt (blk_lt (g := gb304) (o := .cells #[.int .i64 0, .int .i64 0, .int .i64 0, .string (⟨#[]⟩ : ByteArray)] 75 (0, 0)) B7x3_) : gb307 ≠ gb304))
         clear BK304
         clear HB
         have BK304 := n0_
         have HB := n1_
         have BK307 := n2_
         have GW307 := n3_
         have GE307 := n4_
         have NB304_307 := n5_
         have NB307_304 := n6_
         clear n0_ n1_ n2_ n3_ n4_ n5_ n6_
         clear hb hbox hg
         refine hK.out _ _ trivial (fun hHeld => ?_)
         clear hK K
         refine norm_ (a' := ?_) ?_ ?_
         rotate_left
         ·show Act.put _ (some 6) _ = _
          simp only [Act.put, List.setIfInBounds_toArray, List.set_cons_zero, List.set_cons_succ, i64_w, i32_w]
          rfl
         refine one_ (i := 13) (N := none) #[true, true, true, true, true, true, true, true, true, true, true, true, true, true] rfl rfl (one_of HT_.out B7x8_) (by decide) (fun K hK => ?_)
         have hs31 : w30.cell? ⟨gb307, 0, none⟩ = some (.int .i64 0) := (blk_cell BK307.out 0).trans rfl
         have hfs31 := blk_frozen BK307.out 0
         have hns31_0 := NB304_307.out
         have hms31_0 := NB307_304.out
         have hs32 : w30.cell? ⟨gb307, 1, none⟩ = some (.int .i64 0) := (blk_cell BK307.out 1).trans rfl
         have hfs32 := blk_frozen BK307.out 1
         have hns32_0 := NB304_307.out
         have hms32_0 := NB307_304.out
         have hs33 : w30.cell? ⟨gb307, 2, none⟩ = some (.int .i64 0) := (blk_cell BK307.out 2).trans rfl
         have hfs33 := blk_frozen BK307.out 2
         have hns33_0 := NB304_307.out
         have hms33_0 := NB307_304.out
         have hs34 : w30.cell? ⟨gb307, 3, none⟩ = some (.string (⟨#[]⟩ : ByteArray)) := (blk_cell BK307.out 3).trans rfl
         have hfs34 := blk_frozen BK307.out 3
         have hns34_0 := NB304_307.out
         have hms34_0 := NB307_304.out
         refine skip_ (w1 := ?_) (by rfl) rfl ?_ ?_
         rotate_left
         ·go_simp
          rfl
         refine hK.out _ _ trivial (fun hHeld => ?_)
         clear hK K
         refine done_ (done_of HT_.out B7x8_) ?_
         have hnb35 := NB307_304.out
         have hnc35 := NB304_307.out
         obtain ⟨hcz36_0, hcz36_1, hcz36_2, hcz36_3⟩ := cl4 BK307.out
         obtain ⟨hfz36_0, hfz36_1, hfz36_2, hfz36_3⟩ := fr4 BK307.out
         try go_wp2_with (first | ((with_reducible refine gate_callee (f := 47) rfl ?_); refine goesL_ (some 33) rfl rfl Try.func47 B7x8_ rfl #[.agg #[.int .i64 (wrap64 (bt t305 0)), .int .i64 (wrap64 (bt t305 1)), .int .i64 (wrap64 (bt t305 2)), .string (t305.extract 3 t305.size)]] rfl B7x4_ ?_; (with_reducible refine (spec_CellOk.calls (wrap64 (bt t305 0)) (wrap64 (bt t305 1)) (wrap64 (bt t305 2)) (t305.extract 3 t305.size) false _ A16.out).mono ?_); rintro e w37 ⟨rfl, hb⟩; refine ⟨_, rfl, ?_⟩; have n0_ := Aside0.mk (blk_below (g := gb304) (o := .cells #[.int .i64 0, .int .i64 0, .int .i64 0, .string (⟨#[]⟩ : ByteArray)] 75 (0, 0)) B7x5_ hb); have n1_ := Aside0.mk (blk_below (g := gb307) (o := .cells #[.int .i64 (wrap64 (bt t305 0)), .int .i64 (wrap64 (bt t305 1)), .int .i64 (wrap64 (bt t305 2)), .string (t305.extract 3 t305.size)] 75 (0, 0)) B7x0_ hb); have n2_ := Aside0.mk (below_step B7x10_ hb); clear BK304; clear BK307; clear HB; have BK304 := n0_; have BK307 := n1_; have HB := n2_; clear n0_ n1_ n2_; (try clear hb); (try clear hb2); (try clear hk); (try clear hi); obtain ⟨hcz38_0, hcz38_1, hcz38_2, hcz38_3⟩ := cl4 BK304.out; obtain ⟨hfz38_0, hfz38_1, hfz38_2, hfz38_3⟩ := fr4 BK304.out))
         refine bodyPost_ret (results_ct rfl _ _ gb304 75 #[.int .i64 0, .int .i64 0, .int .i64 0, .string (⟨#[]⟩ : ByteArray)] (0, 0) _ rfl B7x2_ Try.underlying75 rfl B7x8_) rfl ?_
         exact ⟨by first | rfl | (simp [errW_none, errW_some] <;> rfl) | (simp [*, errW_none, errW_some] <;> rfl), by repeat (first | (with_reducible first | exact HB.out | apply below_alloc | apply pw_below_drewN | apply below_drew1 | refine below_set ?_ GE304.out | refine below_set ?_ GE307.out) | exact HB.out)⟩
       ·rw [if_neg c15] at H
        exact absurd H (by simp)
      ·rw [if_neg c13] at H
       exact absurd H (by simp)
     ·rw [if_neg c11] at H
      exact absurd H (by simp)
    ·rw [if_neg c9] at H
     exact absurd H (by simp)

/-! ### laws_bent: function 51 -/
def laws_bent.f (a0 : ByteArray) (l1 : List Int) : Option ByteArray :=
 if (a0.size : Int) ≤ 9223372036854775807 then (if (a0.size : Int) = 0 then some (⟨#[120]⟩ : ByteArray) else if 1 < (l1.length : Int) then (if 0 ≤ rd l1 0 then some (strOfNums ((bytesOf a0).set (Int.tmod (rd l1 0) (a0.size : Int)).toNat (Go.bits .xor .u8 (bt a0 (Int.tmod (rd l1 0) (a0.size : Int))) ((wrap64 (1 + Int.tmod (rd l1 1) 255)) % 256)))) else none) else none) else none
def laws_bent.T5 : Bool × List (List Nat × List Nat) := (true, [([], []), ([], []), ([], []), ([], []), ([2, 3], [2, 3]), ([4], [4]), ([], []), ([6], [6]), ([7], [7]), ([8], [8]), ([9], [9]), ([10], [10]), ([5, 11], [5, 11]), ([0, 1, 0, 1, 2, 3, 4, 5, 6, 7, 8, 9, 10, 11, 12], [0, 1]), ([13, 12, 0, 1, 2, 3, 4, 5, 6, 7, 8, 9, 10, 11, 12], [12, 13])])
def laws_bent.B5 : List Nat := [0, 0, 0, 0, 12, 28, 0, 64, 192, 448, 960, 1984, 4092, 8191, 16383]
theorem laws_bent.tab5 : rtab .any (opsOf Try.f51 5) = laws_bent.T5 := by kernel_rfl
theorem laws_bent.bits5 : waitsOk laws_bent.T5.2 laws_bent.B5 = true := by kernel_rfl
theorem bent_set {w : World} {k : IntKind} {g n : Nat} {xs : List Int} (h : ReadsInt w k (some ⟨g, 0, none⟩) n xs) (i : Nat) (v : Int) (hi : i < n) : ReadsInt (w.setCell ⟨g, i, none⟩ (.int k v)) k (some ⟨g, 0, none⟩) n (xs.set i v) := by
 refine ⟨by rw [List.length_set]; exact h.1, h.2.1, fun hn => ⟨_, rfl, fun j hj => ?_⟩⟩
 obtain ⟨ad, e, hc⟩ := h.2.2 hn
 injection e with e
 subst e
 rw [add_plain]
 have hci := hc i hi
 have hcj := hc j hj
 rw [add_plain] at hci hcj
 have hl := h.1
 by_cases hij : i = j
 ·subst hij
  rw [World.cell?_setCell_same _ _ _ hci]
  simp [List.getD_eq_getElem?_getD, hl, hi]
 ·rw [World.cell?_setCell_other _ _ _ _ (fun he => hij (by injection he)), hcj]
  simp [List.getD_eq_getElem?_getD, List.getElem?_set_ne hij]
set_option maxHeartbeats 8000000 in
set_option maxRecDepth 100000 in
theorem laws_bent.calls (a0 : ByteArray) (A1 : Option Addr) (c1 : Nat) (l1 : List Int) (r : ByteArray) (w : World) (hr1 : Kd.C (Kd.int .i64) w A1 l1.length l1) (hc1 : l1.length ≤ c1) (h : laws_bent.f a0 l1 = some r) :
  Calls Try.prog 51 #[.string a0, .slice A1 l1.length c1] w fun e w' => e = .returned (.string r) ∧ Below w.heap.size w w' := by
 have HB := Aside0.mk (Below.refl w.heap.size w)
 have kb := fun W => print_bytes (P := Try.prog) 9 41 5 Try.underlying9 Try.underlying41 Try.underlying5 a0 W
 unfold laws_bent.f at h
 by_cases c0 : (a0.size : Int) ≤ 9223372036854775807
 ·rw [if_pos c0] at h
  by_cases c1 : (a0.size : Int) = 0
  ·rw [if_pos c1] at h
   obtain rfl := Option.some.inj h
   have c1b : decide ((a0.size : Int) = 0) = true := decide_eq_true c1
   have c1b0 : ((a0.size : Int) == 0) = true := beq_iff_eq.mpr c1
   go_enter Try.func51, Try.ntmps51
   go_wp2
   go_ret
   exact ⟨by first | rfl | simp, bytes_below (Below.refl _ _) (Nat.le_refl _) 5 a0⟩
  ·rw [if_neg c1] at h
   by_cases c2 : 1 < (l1.length : Int)
   ·rw [if_pos c2] at h
    by_cases c3 : 0 ≤ rd l1 0
    ·rw [if_pos c3, Int.tmod_eq_emod_of_nonneg c3] at h
     obtain rfl := Option.some.inj h
     have c1b : decide ((a0.size : Int) = 0) = false := decide_eq_false c1
     have c1b0 : ((a0.size : Int) == 0) = false := beq_eq_false_iff_ne.mpr c1
     have hB1 := bytes_below (Below.refl w.heap.size w) (Nat.le_refl _) 5 a0
     have HR := Kd.C_below hr1 hB1
     have p1 : (0 : Int) ≤ 0 := Int.le_refl _
     have q1 : (0 : Int) < (l1.length : Int) := by omega
     obtain ⟨ad, e1, hx1⟩ := Kd.at_int HR 0 p1 q1
     obtain ⟨ad', e2, hx2⟩ := Kd.at_int HR 1 (by decide) c2
     subst e1
     injection e2 with e2
     subst e2
     have hx1' : (Lib.bytesWorld w 5 a0).cell? ad = some (.int .i64 (rd l1 0)) := by simpa [Addr.add] using hx1
     have hx2' : (Lib.bytesWorld w 5 a0).cell? ⟨ad.block, ad.off + 1, none⟩ = some (.int .i64 (rd l1 1)) := by simpa [Addr.add] using hx2
     replace q1 := eq_true q1
     have q2 := eq_true c2
     have hz : 0 < (a0.size : Int) := by omega
     have hi0 : 0 ≤ Int.tmod (rd l1 0) (a0.size : Int) := Int.tmod_nonneg _ c3
     have hi1 : Int.tmod (rd l1 0) (a0.size : Int) < (a0.size : Int) := Int.tmod_lt_of_pos _ hz
     have hi0t := eq_true hi0
     have hi1t := eq_true hi1
     go_enter Try.func51, Try.ntmps51
     go_wp2
     have hj0 : 0 ≤ rd l1 0 % (a0.size : Int) := Int.emod_nonneg _ c1
     have hj1 : rd l1 0 % (a0.size : Int) < (a0.size : Int) := Int.emod_lt_of_pos _ hz
     obtain ⟨ab, eb, hcell⟩ := ReadsInt.at_ (bytes_reads w 5 a0 (by omega)) _ hj0 hj1
     injection eb with eb
     subst eb
     rw [rd_bytesOf] at hcell
     clear hi0t hi1t hi0 hi1
     generalize hieq : rd l1 0 % (a0.size : Int) = i at hj0 hj1 hcell ⊢
     have hcell' : (Lib.bytesWorld w 5 a0).cell? ⟨w.heap.size, i.toNat, none⟩ = some (.int .u8 (bt a0 i)) := by rw [add_plain] at hcell; exact hcell
     have hi0t := eq_true hj0
     have hi1t := eq_true hj1
     have hf : (Lib.bytesWorld w 5 a0).frozen? ⟨w.heap.size, i.toNat, none⟩ = false := by
      unfold World.frozen?
      rw [Lib.bytesWorld_at_new]
      have hs : a0.size ≤ (Lib.bytesCells w 5 a0).size := by
       unfold Lib.bytesCells
       rw [Array.size_append, Array.size_map]
       have : a0.data.size = a0.size := rfl
       omega
      simp only [Bool.and_eq_false_iff, decide_eq_false_iff_not]
      left
      omega
     refine start_ (n := 15) (S := fun w' => w'.cell? ⟨w.heap.size, i.toNat, none⟩ = some (.int .u8 (bt a0 i)) ∧ w'.cell? ⟨ad.block, ad.off + 1, none⟩ = some (.int .i64 (rd l1 1))) (ds := [14]) #[false, false, false, false, false, false, false, false, false, false, false, false, false, false, false] B7x8_ rfl rfl ⟨hcell', hx2'⟩ (fun hHeld => ?_); refine with_tabW laws_bent.tab5 laws_bent.bits5 (fun HT_ HW_ => ?_)
     have hB2 : Below w.heap.size w (Lib.bytesWorld w 5 a0).drew := below_drew1 hB1
     have hr2 : ReadsInt (Lib.bytesWorld w 5 a0).drew .u8 (some ⟨w.heap.size, 0, none⟩) a0.size (bytesOf a0) := bytes_reads w 5 a0 (by omega)
     have hf2 : (Lib.bytesWorld w 5 a0).drew.frozen? ⟨w.heap.size, i.toNat, none⟩ = false := hf
     generalize (Lib.bytesWorld w 5 a0).drew = W1 at hHeld hB2 hr2 hf2 ⊢
     refine pu_ 0 18 HT_ ?_
     refine pu_ 1 19 HT_ ?_
     refine pu_ 2 20 HT_ ?_
     refine pu_ 3 21 HT_ ?_
     refine pu_ 4 22 HT_ ?_
     refine ta_ 5 23 HT_ HW_ hHeld ?_
     refine pu_ 6 24 HT_ ?_
     refine pu_ 7 25 HT_ ?_
     refine ta_ 8 26 HT_ HW_ hHeld ?_
     refine pu_ 9 27 HT_ ?_
     refine pu_ 10 28 HT_ ?_
     refine pu_ 11 29 HT_ ?_
     refine pu_ 12 30 HT_ ?_
     refine pu_ 13 31 HT_ ?_
     refine last_ (i := 14) (N := none) #[true, true, true, true, true, true, true, true, true, true, true, true, true, true, true] rfl rfl (one_of HT_.out B7x8_) (by decide) (fun K hK => ?_)
     have hcc := hHeld.1
     refine skip_ (w1 := ?_) (by rfl) rfl ?_ ?_
     rotate_left
     ·go_simp
      rfl
     refine hK.out _ _ ?_
     clear hK K
     refine done_ (done_of HT_.out B7x8_) ?_
     have hB3 : Below w.heap.size w (W1.setCell ⟨w.heap.size, i.toNat, none⟩ (.int .u8 (Go.bits .xor .u8 (bt a0 i) (IntKind.u8.wrap (wrap64 (1 + (rd l1 1).tmod 255)))))) := below_set hB2 (Nat.le_refl _)
     have hr3 := bent_set hr2 i.toNat (Go.bits .xor .u8 (bt a0 i) (IntKind.u8.wrap (wrap64 (1 + (rd l1 1).tmod 255)))) (by omega)
     rw [IntKind.wrap_u8] at hB3 hr3 ⊢
     generalize W1.setCell ⟨w.heap.size, i.toNat, none⟩ (.int .u8 (Go.bits .xor .u8 (bt a0 i) (wrap64 (1 + (rd l1 1).tmod 255) % 256))) = W2 at hB3 hr3 ⊢
     have hcv := fun c => string_of_reads (P := Try.prog) (c := c) Try.underlying41 Try.underlying5 Try.underlying9 hr3
     go_wp2
     go_ret
     exact ⟨by subst hieq; first | rfl | simp, hB3⟩
    ·rw [if_neg c3] at h
     exact absurd h (by simp)
   ·rw [if_neg c2] at h
    exact absurd h (by simp)
 ·rw [if_neg c0] at h
  exact absurd h (by simp)

/-! ### spec_DrawPlaces: function 52 -/
def spec_DrawPlaces.l0 : Nat → List Int → Int → List Int → Int → Int → Option (List Int)
 | 0, _, _, _, _, _ => none
 | k + 1, x4, x5, x313000, x313001, x313002 => if x5 < 12 then ((spec_l01Below.f x313000 x313001 x313002 10000).bind fun bt319 => (if x4.length < 17592186044416 then (spec_DrawPlaces.l0 k (x4 ++ [bt319.1]) (wrap64 (x5 + 1)) x313000 bt319.2.1 bt319.2.2) else (none))) else (some x4)
def spec_DrawPlaces.f (k : Nat) (l0 : List Int) : Option (List Int) := (spec_l01New.f k l0).bind fun bt309 => ((spec_l01Byte.f bt309.1 bt309.2.1 bt309.2.2).bind fun bt313 => (spec_DrawPlaces.l0 k (([] : List Int)) 0 bt309.1 bt313.2.1 bt313.2.2))
theorem spec_DrawPlaces.mono_l : ∀ k, (∀ y0 y1 y2 y3 y4, LeO (spec_DrawPlaces.l0 k y0 y1 y2 y3 y4) (spec_DrawPlaces.l0 (k + 1) y0 y1 y2 y3 y4))
 | 0 => fun _ _ _ _ _ r h => by simp [spec_DrawPlaces.l0] at h
 | k + 1 => by
  have ih0 := spec_DrawPlaces.mono_l k
  ·intro y0 y1 y2 y3 y4
   unfold spec_DrawPlaces.l0
   repeat' first
   | (with_reducible exact ih0 _ _ _ _ _)
   | (with_reducible exact spec_l01New.mono _ _)
   | (with_reducible exact LeO.refl _)
   | (with_reducible exact LeO.none _)
   | (with_reducible refine LeO.ite ?_ ?_)
   | (with_reducible refine LeO.bind ?_ (fun _ => ?_))
   | exact ih0 _ _ _ _ _
   | exact spec_l01New.mono _ _
   | exact LeO.none _
   | refine LeO.ite ?_ ?_
   | refine LeO.bind ?_ (fun _ => ?_)
theorem spec_DrawPlaces.mono : ∀ a0 k, LeO (spec_DrawPlaces.f k a0) (spec_DrawPlaces.f (k + 1) a0) := by
 intro a0 k
 have ih0 := spec_DrawPlaces.mono_l k
 unfold spec_DrawPlaces.f
 repeat' first
   | (with_reducible exact ih0 _ _ _ _ _)
   | (with_reducible exact spec_l01New.mono _ _)
   | (with_reducible exact LeO.refl _)
   | (with_reducible exact LeO.none _)
   | (with_reducible refine LeO.ite ?_ ?_)
   | (with_reducible refine LeO.bind ?_ (fun _ => ?_))
   | exact ih0 _ _ _ _ _
   | exact spec_l01New.mono _ _
   | exact LeO.none _
   | refine LeO.ite ?_ ?_
   | refine LeO.bind ?_ (fun _ => ?_)
set_option maxHeartbeats 8000000 in
set_option maxRecDepth 100000 in
theorem spec_DrawPlaces.calls (k : Nat) (A0 : Option Addr) (c0 : Nat) (l0 : List Int) (r : List Int) (w : World) (hr0 : Kd.C (Kd.int .u8) w A0 l0.length l0) (hc0 : l0.length ≤ c0) (h : spec_DrawPlaces.f k l0 = some r) :
  Calls Try.prog 52 #[.slice A0 l0.length c0] w fun e w' => ∃ v0_ : Value, e = .returned (v0_) ∧ Kd.R (Kd.int .i64) 3 w' w.heap.size (fun _ => True) v0_ r ∧ Below w.heap.size w w' := by
 have HR0 := Aside0.mk hr0
 have HC0 := Aside0.mk hc0
 clear hr0 hc0
 have HB := Aside0.mk (Below.refl w.heap.size w)
 have H : ((spec_l01New.f k l0).bind fun bt309 => ((spec_l01Byte.f bt309.1 bt309.2.1 bt309.2.2).bind fun bt313 => (spec_DrawPlaces.l0 k (([] : List Int)) 0 bt309.1 bt313.2.1 bt313.2.2))) = some r := h
 clear h
 replace H := Option.bind_eq_some_iff.mp H
 obtain ⟨⟨t309, t310, t311⟩, A20, H⟩ := H
 (try dsimp only at H)
 have A2 := Aside0.mk A20
 clear A20
 replace H := Option.bind_eq_some_iff.mp H
 obtain ⟨⟨t313, t314, t315⟩, A30, H⟩ := H
 (try dsimp only at H)
 have A3 := Aside0.mk A30
 clear A30
 obtain ⟨y316, hy316⟩ : ∃ y_ : List Int, y_ = (([] : List Int)) := ⟨_, rfl⟩
 replace H : (spec_DrawPlaces.l0 k y316 0 t309 t314 t315) = some r := by first | (rw [hy316]; with_reducible exact H) | (have H2_ := (Option.bind_some _ _).symm.trans H; rw [hy316]; with_reducible exact H2_) | (have H2_ := (Option.bind_some _ _).symm.trans H; with_reducible exact H2_) | with_reducible exact H | (rw [hy316]; exact H) | exact H
 have Ny316 := Aside0.mk hy316
 clear hy316
 have H' := Aside0.mk H
 clear H
 go_enter Try.func52, Try.ntmps52
 go_wp2_with (first | ((with_reducible refine gate_callee (f := 62) rfl ?_); refine goesL_ (some 7) rfl rfl Try.func62 B7x8_ rfl #[.slice A0 l0.length c0] rfl B7x4_ ?_; (with_reducible refine (spec_l01New.calls k _ _ l0 t309 t310 t311 w _ ?side1 ?side2 ?side3 A2.out).mono ?_); (case side1 => repeat (first | (with_reducible first | exact HB.out | apply below_alloc | apply pw_below_drewN | apply below_drew1) | exact HB.out)); (case side2 => exact HR0.out); (case side3 => exact HC0.out); rintro e w4 ⟨g312, rfl, hi, hb, hb2⟩; refine ⟨_, rfl, ?_⟩; have n0_ := Aside0.mk (hb); have n1_ := Aside0.mk (hi); clear HB; have HB := n0_; have HI312 := n1_; clear n0_ n1_; (try clear hb); (try clear hb2); (try clear hk); (try clear hi)) | ((with_reducible refine gate_callee (f := 96) rfl ?_); refine goesL_ (some 9) rfl rfl Try.func96 B7x8_ rfl #[.pointer (some ⟨g312, 0, none⟩)] rfl B7x4_ ?_; (with_reducible refine (spec_l01Byte.calls g312 t309 t310 t311 t313 t314 t315 w _ ?side1 ?side2 A3.out).mono ?_); (case side1 => repeat (first | (with_reducible first | exact HI312.out | apply IsS131.alloc | apply IsS131.drewN | apply IsS131.drew | apply IsS131.set_1 | apply IsS131.set_2) | exact HI312.out)); (case side2 => repeat (first | (with_reducible first | exact HB.out | apply below_alloc | apply pw_below_drewN | apply below_drew1 | refine below_set ?_ (IsS131.ge HI312.out)) | exact HB.out)); rintro e w5 ⟨rfl, hi, hb, hk⟩; refine ⟨_, rfl, ?_⟩; have n0_ := Aside0.mk (hb); have n1_ := Aside0.mk (hi); clear HB; clear HI312; have HB := n0_; have HI312 := n1_; clear n0_ n1_; (try clear hb); (try clear hb2); (try clear hk); (try clear hi)) | ((with_reducible refine gate_dst (N := 10) rfl ?_); refine Kd.R_lit (Kd.int .i64) _ 3 ?hg (N := 10) ?hd (xs := ([] : List Int)) (inner := []) (ok := fun _ => True) (okp := fun _ => True) ?hr ?hp (fun _ hk => hk) trivial (Below.refl _ _) (Nat.le_refl _) (by simp) ?_; (case hd => rfl); (case hg => rfl); (case hr => first | (go_simp; done) | (go_simp; rfl)); (case hp => exact (Reps.none _ _)); intro v317 w6 ho7 hb hg_ hnew_; clear hg_ hnew_; (first | rw [← Ny316.out] at ho7 | (simp only [Int.reduceToNat] at ho7; rw [← Ny316.out] at ho7)); have n0_ := Aside0.mk (Kd.R_lower ho7 (below_size B7x7_)); have n1_ := Aside0.mk (IsS131.below B7x11_ hb); have n2_ := Aside0.mk (below_step B7x7_ hb); clear HI312; clear HB; have HO318 := n0_; have HI312 := n1_; have HB := n2_; clear n0_ n1_ n2_; clear hb ho7))
 go_loopg [4, 5] k (fun kq v4 v5 w' => ∃ (x4_1 : List Int) (x5_1 : Int) (x313001_1 : Int) (x313002_1 : Int), v5 = .int .i64 x5_1 ∧ Aside0 (spec_DrawPlaces.l0 kq x4_1 x5_1 t309 x313001_1 x313002_1 = some r) ∧ Aside0 (kq ≤ k) ∧ Aside0 (Kd.R (Kd.int .i64) 3 w' w.heap.size (fun _ => True) v4 x4_1) ∧ Aside0 (IsS131 w w' g312 t309 x313001_1 x313002_1) ∧ Aside0 (Below w.heap.size w w'))
 case atStart => exact ⟨(y316), (0), (t314), (t315), (be_), H', ⟨Nat.le_refl _⟩, ⟨by (with_reducible repeat (first | apply Kd.R_alloc | apply Kd.R_drewN | apply Kd.R_drew)); exact HO318.out⟩, ⟨by repeat (first | (with_reducible first | exact HI312.out | apply IsS131.alloc | apply IsS131.drewN | apply IsS131.drew | apply IsS131.set_1 | apply IsS131.set_2) | exact HI312.out)⟩, ⟨by repeat (first | (with_reducible first | exact HB.out | apply below_alloc | apply pw_below_drewN | apply below_drew1 | refine below_set ?_ (IsS131.ge HI312.out)) | exact HB.out)⟩⟩
 case round =>
  clear H'
  try clear p2
  try clear c5
  try clear c6
  obtain ⟨x4_1, x5_1, x313001_1, x313002_1, rfl, HA, HK1, HO_4, HI312, HB⟩ := hrel
  cases gk with
  | zero => exact absurd HA.out (by simp [spec_DrawPlaces.l0])
  | succ k1 =>
   have H := HA.out
   clear HA
   simp only [spec_DrawPlaces.l0] at H
   by_cases c8 : x5_1 < 12
   ·rw [if_pos c8] at H
    have c8b0 : decide (x5_1 < 12) = true := decide_eq_true c8
    clear c8
    replace H := Option.bind_eq_some_iff.mp H
    obtain ⟨⟨t319, t320, t321⟩, A90, H⟩ := H
    (try dsimp only at H)
    have A9 := Aside0.mk A90
    clear A90
    by_cases c10 : x4_1.length < 17592186044416
    ·rw [if_pos c10] at H
     have LMc10 := Aside0.mk c10
     clear c10
     obtain ⟨y322, hy322⟩ : ∃ y_ : List Int, y_ = (x4_1 ++ [t319]) := ⟨_, rfl⟩
     replace H : (spec_DrawPlaces.l0 k1 y322 (wrap64 (x5_1 + 1)) t309 t320 t321) = some r := by first | (rw [hy322]; with_reducible exact H) | (have H2_ := (Option.bind_some _ _).symm.trans H; rw [hy322]; with_reducible exact H2_) | (have H2_ := (Option.bind_some _ _).symm.trans H; with_reducible exact H2_) | with_reducible exact H | (rw [hy322]; exact H) | exact H
     have Ny322 := Aside0.mk hy322
     clear hy322
     have H' := Aside0.mk H
     clear H
     go_wp2_with (first | ((with_reducible refine gate_callee (f := 63) rfl ?_); refine goesL_ (some 17) rfl rfl Try.func63 B7x8_ rfl #[.pointer (some ⟨g312, 0, none⟩), .int .i64 10000] rfl B7x4_ ?_; (with_reducible refine (spec_l01Below.calls g312 t309 x313001_1 x313002_1 10000 t319 t320 t321 w _ ?side1 ?side2 A9.out).mono ?_); (case side1 => repeat (first | (with_reducible first | exact HI312.out | apply IsS131.alloc | apply IsS131.drewN | apply IsS131.drew | apply IsS131.set_1 | apply IsS131.set_2) | exact HI312.out)); (case side2 => repeat (first | (with_reducible first | exact HB.out | apply below_alloc | apply pw_below_drewN | apply below_drew1 | refine below_set ?_ (IsS131.ge HI312.out)) | exact HB.out)); rintro e w11 ⟨rfl, hi, hb, hk⟩; refine ⟨_, rfl, ?_⟩; have n0_ := Aside0.mk (Kd.R_mono (Kd.R_keep (IsS131.apart (show IsS131 w _ g312 t309 x313001_1 x313002_1 from by repeat (first | (with_reducible first | exact HI312.out | apply IsS131.alloc | apply IsS131.drewN | apply IsS131.drew | apply IsS131.set_1 | apply IsS131.set_2) | exact HI312.out)) B7x12_ (by decide)) hk (fun _ h => h.2)) (fun _ h => h.1)); have n1_ := Aside0.mk (hb); have n2_ := Aside0.mk (hi); clear HO_4; clear HB; clear HI312; have HO_4 := n0_; have HB := n1_; have HI312 := n2_; clear n0_ n1_ n2_; (try clear hb); (try clear hb2); (try clear hk); (try clear hi)) | ((with_reducible refine gate_builtin (b := .append) (xs := #[.tmp 15, .tmp 18]) rfl ?_); at_builtin; refine Kd.R_append (Kd.int .i64) (w0 := w) w.heap.size rfl (.tmp 15) (.tmp 18) 84 3 (.int .i64 0) 8 rfl Try.underlying84 info3 rfl (by decide) (by omega) u4 x4_1 t319 [.int .i64 t319] (fun _ => True) (fun _ => False) rfl rfl ?aP (fun _ hk => hk.elim) ?aF ?aO ?aB ?aS ?aL ?_; (case aP => exact rfl); (case aB => exact B7x7_); (case aF => exact (fun _ _ => trivial)); (case aO => exact B7x12_); (case aS => exact (below_size B7x7_)); (case aL => have := LMc10.out; omega); intro v323 w12 ho hb hg hat; rw [← Ny322.out] at ho; have n0_ := Aside0.mk (IsS131.grown B7x11_ hg (IsS131.own_ne HI312.out HO_4.out (by decide))); have n1_ := Aside0.mk (hb); have n2_ := Aside0.mk (ho); clear HI312; clear HB; clear HO_4; have HI312 := n0_; have HB := n1_; have HO324 := n2_; clear n0_ n1_ n2_; clear ho hb hg hat))
     go_roundg k1
     case measure => have := HK1.out; omega
     case rel => exact ⟨(y322), (wrap64 (x5_1 + 1)), (t320), (t321), (be_), H', ⟨by have := HK1.out; omega⟩, ⟨by (with_reducible repeat (first | apply Kd.R_alloc | apply Kd.R_drewN | apply Kd.R_drew)); exact HO324.out⟩, ⟨by repeat (first | (with_reducible first | exact HI312.out | apply IsS131.alloc | apply IsS131.drewN | apply IsS131.drew | apply IsS131.set_1 | apply IsS131.set_2) | exact HI312.out)⟩, ⟨by repeat (first | (with_reducible first | exact HB.out | apply below_alloc | apply pw_below_drewN | apply below_drew1 | refine below_set ?_ (IsS131.ge HI312.out)) | exact HB.out)⟩⟩
    ·rw [if_neg c10] at H
     exact absurd H (by simp)
   ·rw [if_neg c8] at H
    have c8b0 : decide (x5_1 < 12) = false := decide_eq_false c8
    clear c8
    obtain rfl := Option.some.inj H
    go_wp2
    go_ret
    exact ⟨_, by first | rfl | (simp [errW_none, errW_some] <;> rfl) | (simp [*, errW_none, errW_some] <;> rfl), by (with_reducible repeat (first | apply Kd.R_alloc | apply Kd.R_drewN | apply Kd.R_drew)); exact HO_4.out, by repeat (first | (with_reducible first | exact HB.out | apply below_alloc | apply pw_below_drewN | apply below_drew1 | refine below_set ?_ (IsS131.ge HI312.out)) | exact HB.out)⟩

end Go.Proofs.Ytideegpoakkgeaa.QFnCells
