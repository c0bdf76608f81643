/- Functions that a law reaches, as functions of Lean, and the walks that show that the calls come to their answers: written by a program of this project out of the translation. No condition. -/
import Derived.Test.YtmknnoeggkgkgaaQFnExactTidyBitsx0
import Derived.Test.YtmknnoeggkgkgaaQFnExactTidyBitsx4
import Derived.Test.YtmknnoeggkgkgaaShort4
import Derived.Test.YtmknnoeggkgkgaaShort2
import Derived.Test.YtmknnoeggkgkgaaShort
namespace Go.Proofs.Ytmknnoeggkgkgaa.QFnExactTidyBits
open Go.RowKit Go.Proofs.YtmknnoeggkgkgaaW.PrintWords Go.Proofs.YtmknnoeggkgkgaaW.PrintLast Go.Proofs.YtmknnoeggkgkgaaW.PrintMore Go.Proofs.Ytmknnoeggkgkgaa.Short
attribute [local go_sem] max2_int min2_int max_two min_two max_three min_three max_four min_four   -- for this text's walks alone
set_option linter.unusedVariables false
set_option linter.unusedSimpArgs false

theorem B5x0_ {p : Prop} (h : p := by first | (with_reducible assumption) | assumption) : p := h
theorem B5x1_ {p : Prop} (h : p := by repeat (first | (with_reducible first | exact HB.out | apply below_alloc | apply pw_below_drewN | apply below_drew1) | exact HB.out)) : p := h
theorem B5x2_ {p : Prop} (h : p := by (try simp only [List.map_toArray, List.map_cons, List.map_nil]); first | done | rfl | (simp only [List.length_drop, List.length_take]; rfl)) : p := h
theorem B5x3_ {p : Prop} (h : p := by repeat (first | exact (Kd.C_below HR217_2.out HB.out) | (with_reducible refine Kd.C_alloc ?_ _) | (with_reducible refine Kd.C_drewN ?_ _) | (with_reducible refine Kd.C_drew ?_))) : p := h
theorem B5x4_ {p : Prop} (h : p := by first | rfl | (simp [errW_none, errW_some] <;> rfl) | (simp [*, errW_none, errW_some] <;> rfl)) : p := h
theorem B5x5_ {p : Prop} (h : p := by repeat (first | exact (Kd.C_below HR219_3.out HB.out) | (with_reducible refine Kd.C_alloc ?_ _) | (with_reducible refine Kd.C_drewN ?_ _) | (with_reducible refine Kd.C_drew ?_))) : p := h
theorem B5x6_ {p : Prop} (h : p := by kernel_rfl) : p := h
theorem B5x7_ {p : Prop} (h : p := by injection e216) : p := h
theorem B5x8_ {p : Prop} (h : p := by injection e217) : p := h
theorem B5x9_ {p : Prop} (h : p := by injection e219) : p := h
/-! ### laws_heldBitsS: function 46 -/
def laws_heldBitsS.l0 : Nat → List (S82) → Int → Int → Option (Int)
 | 0, _, _, _ => none
 | k + 1, x0, x1, x5 => if x5 < (x0.length : Int) then (if 0 ≤ x5 then (if ((rd_T82 x0 x5).f0) = x1 then (if ((rd_T82 x0 x5).f1) = (wrap64 (x1 + 1)) then ((laws_heldStringS.f k ((rd_T82 x0 x5).f2) (wrap64 ((wrap64 (x1 + 1)) + 1))).bind fun t218 => (if t218 < 0 then (some (-1)) else ((laws_heldIntS.f k ((rd_T82 x0 x5).f3) t218).bind fun t220 => (if t220 < 0 then (some (-1)) else (if ((rd_T82 x0 x5).f4) = t220 then (if ((rd_T82 x0 x5).f5) = (wrap64 (t220 + 1)) then (laws_heldBitsS.l0 k x0 (wrap64 ((wrap64 (t220 + 1)) + 1)) (wrap64 (x5 + 1))) else (some (-1))) else (some (-1))))))) else (some (-1))) else (some (-1))) else (none)) else (some x1)
def laws_heldBitsS.f (k : Nat) (l0 : List (S82)) (a1 : Int) : Option (Int) := laws_heldBitsS.l0 k l0 a1 0
theorem laws_heldBitsS.mono_l : ∀ k, (∀ y0 y1 y2, LeO (laws_heldBitsS.l0 k y0 y1 y2) (laws_heldBitsS.l0 (k + 1) y0 y1 y2))
 | 0 => fun _ _ _ r h => by simp [laws_heldBitsS.l0] at h
 | k + 1 => by
  have ih0 := laws_heldBitsS.mono_l k
  ·intro y0 y1 y2
   unfold laws_heldBitsS.l0
   repeat' first
   | (with_reducible exact ih0 _ _ _)
   | (with_reducible exact laws_heldIntS.mono _ _ _)
   | (with_reducible exact laws_heldStringS.mono _ _ _)
   | (with_reducible first | exact LeO.refl _ | exact LeO.none _ | refine LeO.ite ?_ ?_ | refine LeO.bind ?_ (fun _ => ?_))
   | exact ih0 _ _ _
   | exact laws_heldIntS.mono _ _ _
   | exact laws_heldStringS.mono _ _ _
theorem laws_heldBitsS.mono : ∀ a0 a1 k, LeO (laws_heldBitsS.f k a0 a1) (laws_heldBitsS.f (k + 1) a0 a1) := by
 intro a0 a1 k
 have ih0 := laws_heldBitsS.mono_l k
 unfold laws_heldBitsS.f
 repeat' first
   | (with_reducible exact ih0 _ _ _)
   | (with_reducible exact laws_heldIntS.mono _ _ _)
   | (with_reducible exact laws_heldStringS.mono _ _ _)
   | (with_reducible first | exact LeO.refl _ | exact LeO.none _ | refine LeO.ite ?_ ?_ | refine LeO.bind ?_ (fun _ => ?_))
   | exact ih0 _ _ _
   | exact laws_heldIntS.mono _ _ _
   | exact laws_heldStringS.mono _ _ _
set_option maxHeartbeats 8000000 in
set_option maxRecDepth 100000 in
theorem laws_heldBitsS.calls (k : Nat) (A0 : Option Addr) (c0 : Nat) (l0 : List (S82)) (a1 : Int) (r : Int) (w : World) (hr0 : Kd.C k82 w A0 l0.length l0) (hc0 : l0.length ≤ c0) (h : laws_heldBitsS.f k l0 a1 = some r) :
  Calls Try.prog 46 #[.slice A0 l0.length c0, .int .i64 a1] w fun e w' => e = .returned (.int .i64 r) ∧ Below w.heap.size w w' := by
 have HR0 := Aside0.mk hr0
 have HC0 := Aside0.mk hc0
 clear hr0 hc0
 have HB := Aside0.mk (Below.refl w.heap.size w)
 have H : (laws_heldBitsS.l0 k l0 a1 0) = some r := h
 clear h
 have H' := Aside0.mk H
 clear H
 go_enter Try.func46, Try.ntmps46
 go_wp2
 go_loopg [1, 5] k (fun kq v1 v5 w' => ∃ (x1_1 : Int) (x5_1 : Int), v1 = .int .i64 x1_1 ∧ v5 = .int .i64 x5_1 ∧ Aside0 (laws_heldBitsS.l0 kq l0 x1_1 x5_1 = some r) ∧ Aside0 (kq ≤ k) ∧ Aside0 (Below w.heap.size w w'))
 case atStart => exact ⟨(a1), (0), (be_), (be_), H', ⟨Nat.le_refl _⟩, ⟨B5x1_⟩⟩
 case round =>
  clear H'
  obtain ⟨x1_1, x5_1, rfl, rfl, HA, HK1, HB⟩ := hrel
  cases gk with
  | zero => exact absurd HA.out (by simp [laws_heldBitsS.l0])
  | succ k1 =>
   have H := HA.out
   clear HA
   simp only [laws_heldBitsS.l0] at H
   by_cases c3 : x5_1 < (l0.length : Int)
   ·rw [if_pos c3] at H
    have c3b0 : decide (x5_1 < (l0.length : Int)) = true := decide_eq_true c3
    clear c3
    by_cases c4 : 0 ≤ x5_1
    rotate_left
    ·rw [if_neg c4] at H
     exact absurd H (by simp)
    rw [if_pos c4] at H
    have c4b0 : decide (0 ≤ x5_1) = true := decide_eq_true c4
    clear c4
    by_cases c5 : ((rd_T82 l0 x5_1).f0) = x1_1
    ·rw [if_pos c5] at H
     have c5b0 := beq_iff_eq.mpr c5
     have c5b1 := bne_eq_false_iff_eq.mpr c5
     clear c5
     by_cases c6 : ((rd_T82 l0 x5_1).f1) = (wrap64 (x1_1 + 1))
     ·rw [if_pos c6] at H
      have c6b0 := beq_iff_eq.mpr c6
      have c6b1 := bne_eq_false_iff_eq.mpr c6
      clear c6
      replace H := bsi H
      obtain ⟨t218, A7, H⟩ := H
      (try dsimp only at H)
      by_cases c8 : t218 < 0
      ·rw [if_pos c8] at H
       have c8b0 : decide (t218 < 0) = true := decide_eq_true c8
       clear c8
       obtain rfl := Option.some.inj H
       have p215 : 0 ≤ (x5_1 : Int) := of_decide_eq_true B5x0_
       have q215 : x5_1 < (l0.length : Int) := of_decide_eq_true B5x0_
       obtain ⟨ad215, A215_2, c215_2, A215_3, c215_3, e215, hx215_0, hx215_1, hx215_2, hx215_3, hx215_4, hx215_5, hl215_2, hi215_2, hl215_3, hi215_3⟩ := at_T82 HR0.out x5_1 p215 q215
       cases e215
       replace hx215_0 := (HB.out.cell (World.block_lt_of_cell? w _ hx215_0)).trans hx215_0
       replace hx215_1 := (HB.out.cell (World.block_lt_of_cell? w _ hx215_1)).trans hx215_1
       replace hx215_2 := (HB.out.cell (World.block_lt_of_cell? w _ hx215_2)).trans hx215_2
       replace hx215_3 := (HB.out.cell (World.block_lt_of_cell? w _ hx215_3)).trans hx215_3
       replace hx215_4 := (HB.out.cell (World.block_lt_of_cell? w _ hx215_4)).trans hx215_4
       replace hx215_5 := (HB.out.cell (World.block_lt_of_cell? w _ hx215_5)).trans hx215_5
       have HR215_2 := Aside0.mk hi215_2
       have HC215_2 := Aside0.mk hl215_2
       clear hi215_2 hl215_2
       have HR215_3 := Aside0.mk hi215_3
       have HC215_3 := Aside0.mk hl215_3
       clear hi215_3 hl215_3
       replace p215 := eq_true p215
       replace q215 := eq_true q215
       have p216 : 0 ≤ (x5_1 : Int) := of_decide_eq_true B5x0_
       have q216 : x5_1 < (l0.length : Int) := of_decide_eq_true B5x0_
       obtain ⟨ad216, A216_2, c216_2, A216_3, c216_3, e216, hx216_0, hx216_1, hx216_2, hx216_3, hx216_4, hx216_5, hl216_2, hi216_2, hl216_3, hi216_3⟩ := at_T82 HR0.out x5_1 p216 q216
       obtain rfl : ad215 = ad216 := B5x7_
       replace hx216_0 := (HB.out.cell (World.block_lt_of_cell? w _ hx216_0)).trans hx216_0
       replace hx216_1 := (HB.out.cell (World.block_lt_of_cell? w _ hx216_1)).trans hx216_1
       replace hx216_2 := (HB.out.cell (World.block_lt_of_cell? w _ hx216_2)).trans hx216_2
       replace hx216_3 := (HB.out.cell (World.block_lt_of_cell? w _ hx216_3)).trans hx216_3
       replace hx216_4 := (HB.out.cell (World.block_lt_of_cell? w _ hx216_4)).trans hx216_4
       replace hx216_5 := (HB.out.cell (World.block_lt_of_cell? w _ hx216_5)).trans hx216_5
       have HR216_2 := Aside0.mk hi216_2
       have HC216_2 := Aside0.mk hl216_2
       clear hi216_2 hl216_2
       have HR216_3 := Aside0.mk hi216_3
       have HC216_3 := Aside0.mk hl216_3
       clear hi216_3 hl216_3
       replace p216 := eq_true p216
       replace q216 := eq_true q216
       have ea_ := Option.some.inj (hx215_2.symm.trans hx216_2)
       injection ea_ with ea_ en_ ec_
       subst ea_
       subst ec_
       clear en_
       have ea_ := Option.some.inj (hx215_3.symm.trans hx216_3)
       injection ea_ with ea_ en_ ec_
       subst ea_
       subst ec_
       clear en_
       have p217 : 0 ≤ (x5_1 : Int) := of_decide_eq_true B5x0_
       have q217 : x5_1 < (l0.length : Int) := of_decide_eq_true B5x0_
       obtain ⟨ad217, A217_2, c217_2, A217_3, c217_3, e217, hx217_0, hx217_1, hx217_2, hx217_3, hx217_4, hx217_5, hl217_2, hi217_2, hl217_3, hi217_3⟩ := at_T82 HR0.out x5_1 p217 q217
       obtain rfl : ad215 = ad217 := B5x8_
       replace hx217_0 := (HB.out.cell (World.block_lt_of_cell? w _ hx217_0)).trans hx217_0
       replace hx217_1 := (HB.out.cell (World.block_lt_of_cell? w _ hx217_1)).trans hx217_1
       replace hx217_2 := (HB.out.cell (World.block_lt_of_cell? w _ hx217_2)).trans hx217_2
       replace hx217_3 := (HB.out.cell (World.block_lt_of_cell? w _ hx217_3)).trans hx217_3
       replace hx217_4 := (HB.out.cell (World.block_lt_of_cell? w _ hx217_4)).trans hx217_4
       replace hx217_5 := (HB.out.cell (World.block_lt_of_cell? w _ hx217_5)).trans hx217_5
       have HR217_2 := Aside0.mk hi217_2
       have HC217_2 := Aside0.mk hl217_2
       clear hi217_2 hl217_2
       have HR217_3 := Aside0.mk hi217_3
       have HC217_3 := Aside0.mk hl217_3
       clear hi217_3 hl217_3
       replace p217 := eq_true p217
       replace q217 := eq_true q217
       have ea_ := Option.some.inj (hx215_2.symm.trans hx217_2)
       injection ea_ with ea_ en_ ec_
       subst ea_
       subst ec_
       clear en_
       have ea_ := Option.some.inj (hx215_3.symm.trans hx217_3)
       injection ea_ with ea_ en_ ec_
       subst ea_
       subst ec_
       clear en_
       go_wp2_with (first | ((with_reducible refine gate_callee (f := 17) rfl ?_); refine goesL_ (some 36) rfl rfl Try.func17 B5x6_ rfl #[.slice A215_2 ((rd_T82 l0 x5_1).f2).length c215_2, .int .i64 (wrap64 ((wrap64 (x1_1 + 1)) + 1))] rfl B5x2_ ?_; (with_reducible refine (laws_heldStringS.calls k1 _ _ ((rd_T82 l0 x5_1).f2) (wrap64 ((wrap64 (x1_1 + 1)) + 1)) t218 _ ?side1 ?side2 A7.out).mono ?_); (case side1 => exact B5x3_); (case side2 => exact HC217_2.out); rintro e w9 ⟨rfl, hb⟩; refine ⟨_, rfl, ?_⟩; replace HB := Aside0.mk (below_step B5x1_ hb); (try clear hb); (try clear hl)))
       go_ret
       exact ⟨B5x4_, B5x1_⟩
      ·rw [if_neg c8] at H
       have c8b0 : decide (t218 < 0) = false := decide_eq_false c8
       clear c8
       replace H := bsi H
       obtain ⟨t220, A10, H⟩ := H
       (try dsimp only at H)
       by_cases c11 : t220 < 0
       ·rw [if_pos c11] at H
        have c11b0 : decide (t220 < 0) = true := decide_eq_true c11
        clear c11
        obtain rfl := Option.some.inj H
        have p215 : 0 ≤ (x5_1 : Int) := of_decide_eq_true B5x0_
        have q215 : x5_1 < (l0.length : Int) := of_decide_eq_true B5x0_
        obtain ⟨ad215, A215_2, c215_2, A215_3, c215_3, e215, hx215_0, hx215_1, hx215_2, hx215_3, hx215_4, hx215_5, hl215_2, hi215_2, hl215_3, hi215_3⟩ := at_T82 HR0.out x5_1 p215 q215
        cases e215
        replace hx215_0 := (HB.out.cell (World.block_lt_of_cell? w _ hx215_0)).trans hx215_0
        replace hx215_1 := (HB.out.cell (World.block_lt_of_cell? w _ hx215_1)).trans hx215_1
        replace hx215_2 := (HB.out.cell (World.block_lt_of_cell? w _ hx215_2)).trans hx215_2
        replace hx215_3 := (HB.out.cell (World.block_lt_of_cell? w _ hx215_3)).trans hx215_3
        replace hx215_4 := (HB.out.cell (World.block_lt_of_cell? w _ hx215_4)).trans hx215_4
        replace hx215_5 := (HB.out.cell (World.block_lt_of_cell? w _ hx215_5)).trans hx215_5
        have HR215_2 := Aside0.mk hi215_2
        have HC215_2 := Aside0.mk hl215_2
        clear hi215_2 hl215_2
        have HR215_3 := Aside0.mk hi215_3
        have HC215_3 := Aside0.mk hl215_3
        clear hi215_3 hl215_3
        replace p215 := eq_true p215
        replace q215 := eq_true q215
        have p216 : 0 ≤ (x5_1 : Int) := of_decide_eq_true B5x0_
        have q216 : x5_1 < (l0.length : Int) := of_decide_eq_true B5x0_
        obtain ⟨ad216, A216_2, c216_2, A216_3, c216_3, e216, hx216_0, hx216_1, hx216_2, hx216_3, hx216_4, hx216_5, hl216_2, hi216_2, hl216_3, hi216_3⟩ := at_T82 HR0.out x5_1 p216 q216
        obtain rfl : ad215 = ad216 := B5x7_
        replace hx216_0 := (HB.out.cell (World.block_lt_of_cell? w _ hx216_0)).trans hx216_0
        replace hx216_1 := (HB.out.cell (World.block_lt_of_cell? w _ hx216_1)).trans hx216_1
        replace hx216_2 := (HB.out.cell (World.block_lt_of_cell? w _ hx216_2)).trans hx216_2
        replace hx216_3 := (HB.out.cell (World.block_lt_of_cell? w _ hx216_3)).trans hx216_3
        replace hx216_4 := (HB.out.cell (World.block_lt_of_cell? w _ hx216_4)).trans hx216_4
        replace hx216_5 := (HB.out.cell (World.block_lt_of_cell? w _ hx216_5)).trans hx216_5
        have HR216_2 := Aside0.mk hi216_2
        have HC216_2 := Aside0.mk hl216_2
        clear hi216_2 hl216_2
        have HR216_3 := Aside0.mk hi216_3
        have HC216_3 := Aside0.mk hl216_3
        clear hi216_3 hl216_3
        replace p216 := eq_true p216
        replace q216 := eq_true q216
        have ea_ := Option.some.inj (hx215_2.symm.trans hx216_2)
        injection ea_ with ea_ en_ ec_
        subst ea_
        subst ec_
        clear en_
        have ea_ := Option.some.inj (hx215_3.symm.trans hx216_3)
        injection ea_ with ea_ en_ ec_
        subst ea_
        subst ec_
        clear en_
        have p217 : 0 ≤ (x5_1 : Int) := of_decide_eq_true B5x0_
        have q217 : x5_1 < (l0.length : Int) := of_decide_eq_true B5x0_
        obtain ⟨ad217, A217_2, c217_2, A217_3, c217_3, e217, hx217_0, hx217_1, hx217_2, hx217_3, hx217_4, hx217_5, hl217_2, hi217_2, hl217_3, hi217_3⟩ := at_T82 HR0.out x5_1 p217 q217
        obtain rfl : ad215 = ad217 := B5x8_
        replace hx217_0 := (HB.out.cell (World.block_lt_of_cell? w _ hx217_0)).trans hx217_0
        replace hx217_1 := (HB.out.cell (World.block_lt_of_cell? w _ hx217_1)).trans hx217_1
        replace hx217_2 := (HB.out.cell (World.block_lt_of_cell? w _ hx217_2)).trans hx217_2
        replace hx217_3 := (HB.out.cell (World.block_lt_of_cell? w _ hx217_3)).trans hx217_3
        replace hx217_4 := (HB.out.cell (World.block_lt_of_cell? w _ hx217_4)).trans hx217_4
        replace hx217_5 := (HB.out.cell (World.block_lt_of_cell? w _ hx217_5)).trans hx217_5
        have HR217_2 := Aside0.mk hi217_2
        have HC217_2 := Aside0.mk hl217_2
        clear hi217_2 hl217_2
        have HR217_3 := Aside0.mk hi217_3
        have HC217_3 := Aside0.mk hl217_3
        clear hi217_3 hl217_3
        replace p217 := eq_true p217
        replace q217 := eq_true q217
        have ea_ := Option.some.inj (hx215_2.symm.trans hx217_2)
        injection ea_ with ea_ en_ ec_
        subst ea_
        subst ec_
        clear en_
        have ea_ := Option.some.inj (hx215_3.symm.trans hx217_3)
        injection ea_ with ea_ en_ ec_
        subst ea_
        subst ec_
        clear en_
        go_wp2_with (first | ((with_reducible refine gate_callee (f := 17) rfl ?_); refine goesL_ (some 36) rfl rfl Try.func17 B5x6_ rfl #[.slice A215_2 ((rd_T82 l0 x5_1).f2).length c215_2, .int .i64 (wrap64 ((wrap64 (x1_1 + 1)) + 1))] rfl B5x2_ ?_; (with_reducible refine (laws_heldStringS.calls k1 _ _ ((rd_T82 l0 x5_1).f2) (wrap64 ((wrap64 (x1_1 + 1)) + 1)) t218 _ ?side1 ?side2 A7.out).mono ?_); (case side1 => exact B5x3_); (case side2 => exact HC217_2.out); rintro e w12 ⟨rfl, hb⟩; refine ⟨_, rfl, ?_⟩; replace HB := Aside0.mk (below_step B5x1_ hb); (try clear hb); (try clear hl); have p219 : 0 ≤ (x5_1 : Int) := of_decide_eq_true B5x0_; have q219 : x5_1 < (l0.length : Int) := of_decide_eq_true B5x0_; obtain ⟨ad219, A219_2, c219_2, A219_3, c219_3, e219, hx219_0, hx219_1, hx219_2, hx219_3, hx219_4, hx219_5, hl219_2, hi219_2, hl219_3, hi219_3⟩ := at_T82 HR0.out x5_1 p219 q219; obtain rfl : ad215 = ad219 := B5x9_; replace hx219_0 := (HB.out.cell (World.block_lt_of_cell? w _ hx219_0)).trans hx219_0; replace hx219_1 := (HB.out.cell (World.block_lt_of_cell? w _ hx219_1)).trans hx219_1; replace hx219_2 := (HB.out.cell (World.block_lt_of_cell? w _ hx219_2)).trans hx219_2; replace hx219_3 := (HB.out.cell (World.block_lt_of_cell? w _ hx219_3)).trans hx219_3; replace hx219_4 := (HB.out.cell (World.block_lt_of_cell? w _ hx219_4)).trans hx219_4; replace hx219_5 := (HB.out.cell (World.block_lt_of_cell? w _ hx219_5)).trans hx219_5; have HR219_2 := Aside0.mk hi219_2; have HC219_2 := Aside0.mk hl219_2; clear hi219_2 hl219_2; have HR219_3 := Aside0.mk hi219_3; have HC219_3 := Aside0.mk hl219_3; clear hi219_3 hl219_3; replace p219 := eq_true p219; replace q219 := eq_true q219) | ((with_reducible refine gate_callee (f := 90) rfl ?_); refine goesL_ (some 45) rfl rfl Try.func90 B5x6_ rfl #[.slice A219_3 ((rd_T82 l0 x5_1).f3).length c219_3, .int .i64 t218] rfl B5x2_ ?_; (with_reducible refine (laws_heldIntS.calls k1 _ _ ((rd_T82 l0 x5_1).f3) t218 t220 _ ?side1 ?side2 A10.out).mono ?_); (case side1 => exact B5x5_); (case side2 => exact HC219_3.out); rintro e w' ⟨rfl, ⟨nd, rfl⟩⟩; refine ⟨_, rfl, ?_⟩))
        go_ret
        exact ⟨B5x4_, B5x1_⟩
       ·rw [if_neg c11] at H
        have c11b0 : decide (t220 < 0) = false := decide_eq_false c11
        clear c11
        by_cases c13 : ((rd_T82 l0 x5_1).f4) = t220
        ·rw [if_pos c13] at H
         have c13b0 := beq_iff_eq.mpr c13
         have c13b1 := bne_eq_false_iff_eq.mpr c13
         clear c13
         by_cases c14 : ((rd_T82 l0 x5_1).f5) = (wrap64 (t220 + 1))
         ·rw [if_pos c14] at H
          have c14b0 := beq_iff_eq.mpr c14
          have c14b1 := bne_eq_false_iff_eq.mpr c14
          clear c14
          have H' := Aside0.mk H
          clear H
          have p215 : 0 ≤ (x5_1 : Int) := of_decide_eq_true B5x0_
          have q215 : x5_1 < (l0.length : Int) := of_decide_eq_true B5x0_
          obtain ⟨ad215, A215_2, c215_2, A215_3, c215_3, e215, hx215_0, hx215_1, hx215_2, hx215_3, hx215_4, hx215_5, hl215_2, hi215_2, hl215_3, hi215_3⟩ := at_T82 HR0.out x5_1 p215 q215
          cases e215
          replace hx215_0 := (HB.out.cell (World.block_lt_of_cell? w _ hx215_0)).trans hx215_0
          replace hx215_1 := (HB.out.cell (World.block_lt_of_cell? w _ hx215_1)).trans hx215_1
          replace hx215_2 := (HB.out.cell (World.block_lt_of_cell? w _ hx215_2)).trans hx215_2
          replace hx215_3 := (HB.out.cell (World.block_lt_of_cell? w _ hx215_3)).trans hx215_3
          replace hx215_4 := (HB.out.cell (World.block_lt_of_cell? w _ hx215_4)).trans hx215_4
          replace hx215_5 := (HB.out.cell (World.block_lt_of_cell? w _ hx215_5)).trans hx215_5
          have HR215_2 := Aside0.mk hi215_2
          have HC215_2 := Aside0.mk hl215_2
          clear hi215_2 hl215_2
          have HR215_3 := Aside0.mk hi215_3
          have HC215_3 := Aside0.mk hl215_3
          clear hi215_3 hl215_3
          replace p215 := eq_true p215
          replace q215 := eq_true q215
          have p216 : 0 ≤ (x5_1 : Int) := of_decide_eq_true B5x0_
          have q216 : x5_1 < (l0.length : Int) := of_decide_eq_true B5x0_
          obtain ⟨ad216, A216_2, c216_2, A216_3, c216_3, e216, hx216_0, hx216_1, hx216_2, hx216_3, hx216_4, hx216_5, hl216_2, hi216_2, hl216_3, hi216_3⟩ := at_T82 HR0.out x5_1 p216 q216
          obtain rfl : ad215 = ad216 := B5x7_
          replace hx216_0 := (HB.out.cell (World.block_lt_of_cell? w _ hx216_0)).trans hx216_0
          replace hx216_1 := (HB.out.cell (World.block_lt_of_cell? w _ hx216_1)).trans hx216_1
          replace hx216_2 := (HB.out.cell (World.block_lt_of_cell? w _ hx216_2)).trans hx216_2
          replace hx216_3 := (HB.out.cell (World.block_lt_of_cell? w _ hx216_3)).trans hx216_3
          replace hx216_4 := (HB.out.cell (World.block_lt_of_cell? w _ hx216_4)).trans hx216_4
          replace hx216_5 := (HB.out.cell (World.block_lt_of_cell? w _ hx216_5)).trans hx216_5
          have HR216_2 := Aside0.mk hi216_2
          have HC216_2 := Aside0.mk hl216_2
          clear hi216_2 hl216_2
          have HR216_3 := Aside0.mk hi216_3
          have HC216_3 := Aside0.mk hl216_3
          clear hi216_3 hl216_3
          replace p216 := eq_true p216
          replace q216 := eq_true q216
          have ea_ := Option.some.inj (hx215_2.symm.trans hx216_2)
          injection ea_ with ea_ en_ ec_
          subst ea_
          subst ec_
          clear en_
          have ea_ := Option.some.inj (hx215_3.symm.trans hx216_3)
          injection ea_ with ea_ en_ ec_
          subst ea_
          subst ec_
          clear en_
          have p217 : 0 ≤ (x5_1 : Int) := of_decide_eq_true B5x0_
          have q217 : x5_1 < (l0.length : Int) := of_decide_eq_true B5x0_
          obtain ⟨ad217, A217_2, c217_2, A217_3, c217_3, e217, hx217_0, hx217_1, hx217_2, hx217_3, hx217_4, hx217_5, hl217_2, hi217_2, hl217_3, hi217_3⟩ := at_T82 HR0.out x5_1 p217 q217
          obtain rfl : ad215 = ad217 := B5x8_
          replace hx217_0 := (HB.out.cell (World.block_lt_of_cell? w _ hx217_0)).trans hx217_0
          replace hx217_1 := (HB.out.cell (World.block_lt_of_cell? w _ hx217_1)).trans hx217_1
          replace hx217_2 := (HB.out.cell (World.block_lt_of_cell? w _ hx217_2)).trans hx217_2
          replace hx217_3 := (HB.out.cell (World.block_lt_of_cell? w _ hx217_3)).trans hx217_3
          replace hx217_4 := (HB.out.cell (World.block_lt_of_cell? w _ hx217_4)).trans hx217_4
          replace hx217_5 := (HB.out.cell (World.block_lt_of_cell? w _ hx217_5)).trans hx217_5
          have HR217_2 := Aside0.mk hi217_2
          have HC217_2 := Aside0.mk hl217_2
          clear hi217_2 hl217_2
          have HR217_3 := Aside0.mk hi217_3
          have HC217_3 := Aside0.mk hl217_3
          clear hi217_3 hl217_3
          replace p217 := eq_true p217
          replace q217 := eq_true q217
          have ea_ := Option.some.inj (hx215_2.symm.trans hx217_2)
          injection ea_ with ea_ en_ ec_
          subst ea_
          subst ec_
          clear en_
          have ea_ := Option.some.inj (hx215_3.symm.trans hx217_3)
          injection ea_ with ea_ en_ ec_
          subst ea_
          subst ec_
          clear en_
          go_wp2_with (first | ((with_reducible refine gate_callee (f := 17) rfl ?_); refine goesL_ (some 36) rfl rfl Try.func17 B5x6_ rfl #[.slice A215_2 ((rd_T82 l0 x5_1).f2).length c215_2, .int .i64 (wrap64 ((wrap64 (x1_1 + 1)) + 1))] rfl B5x2_ ?_; (with_reducible refine (laws_heldStringS.calls k1 _ _ ((rd_T82 l0 x5_1).f2) (wrap64 ((wrap64 (x1_1 + 1)) + 1)) t218 _ ?side1 ?side2 A7.out).mono ?_); (case side1 => exact B5x3_); (case side2 => exact HC217_2.out); rintro e w15 ⟨rfl, hb⟩; refine ⟨_, rfl, ?_⟩; replace HB := Aside0.mk (below_step B5x1_ hb); (try clear hb); (try clear hl); have p219 : 0 ≤ (x5_1 : Int) := of_decide_eq_true B5x0_; have q219 : x5_1 < (l0.length : Int) := of_decide_eq_true B5x0_; obtain ⟨ad219, A219_2, c219_2, A219_3, c219_3, e219, hx219_0, hx219_1, hx219_2, hx219_3, hx219_4, hx219_5, hl219_2, hi219_2, hl219_3, hi219_3⟩ := at_T82 HR0.out x5_1 p219 q219; obtain rfl : ad215 = ad219 := B5x9_; replace hx219_0 := (HB.out.cell (World.block_lt_of_cell? w _ hx219_0)).trans hx219_0; replace hx219_1 := (HB.out.cell (World.block_lt_of_cell? w _ hx219_1)).trans hx219_1; replace hx219_2 := (HB.out.cell (World.block_lt_of_cell? w _ hx219_2)).trans hx219_2; replace hx219_3 := (HB.out.cell (World.block_lt_of_cell? w _ hx219_3)).trans hx219_3; replace hx219_4 := (HB.out.cell (World.block_lt_of_cell? w _ hx219_4)).trans hx219_4; replace hx219_5 := (HB.out.cell (World.block_lt_of_cell? w _ hx219_5)).trans hx219_5; have HR219_2 := Aside0.mk hi219_2; have HC219_2 := Aside0.mk hl219_2; clear hi219_2 hl219_2; have HR219_3 := Aside0.mk hi219_3; have HC219_3 := Aside0.mk hl219_3; clear hi219_3 hl219_3; replace p219 := eq_true p219; replace q219 := eq_true q219) | ((with_reducible refine gate_callee (f := 90) rfl ?_); refine goesL_ (some 45) rfl rfl Try.func90 B5x6_ rfl #[.slice A219_3 ((rd_T82 l0 x5_1).f3).length c219_3, .int .i64 t218] rfl B5x2_ ?_; (with_reducible refine (laws_heldIntS.calls k1 _ _ ((rd_T82 l0 x5_1).f3) t218 t220 _ ?side1 ?side2 A10.out).mono ?_); (case side1 => exact B5x5_); (case side2 => exact HC219_3.out); rintro e w' ⟨rfl, ⟨nd, rfl⟩⟩; refine ⟨_, rfl, ?_⟩; have p221 : 0 ≤ (x5_1 : Int) := of_decide_eq_true B5x0_; have q221 : x5_1 < (l0.length : Int) := of_decide_eq_true B5x0_; obtain ⟨ad221, A221_2, c221_2, A221_3, c221_3, e221, hx221_0, hx221_1, hx221_2, hx221_3, hx221_4, hx221_5, hl221_2, hi221_2, hl221_3, hi221_3⟩ := at_T82 HR0.out x5_1 p221 q221; obtain rfl : ad215 = ad221 := (by injection e221); replace hx221_0 := (HB.out.cell (World.block_lt_of_cell? w _ hx221_0)).trans hx221_0; replace hx221_1 := (HB.out.cell (World.block_lt_of_cell? w _ hx221_1)).trans hx221_1; replace hx221_2 := (HB.out.cell (World.block_lt_of_cell? w _ hx221_2)).trans hx221_2; replace hx221_3 := (HB.out.cell (World.block_lt_of_cell? w _ hx221_3)).trans hx221_3; replace hx221_4 := (HB.out.cell (World.block_lt_of_cell? w _ hx221_4)).trans hx221_4; replace hx221_5 := (HB.out.cell (World.block_lt_of_cell? w _ hx221_5)).trans hx221_5; have HR221_2 := Aside0.mk hi221_2; have HC221_2 := Aside0.mk hl221_2; clear hi221_2 hl221_2; have HR221_3 := Aside0.mk hi221_3; have HC221_3 := Aside0.mk hl221_3; clear hi221_3 hl221_3; replace p221 := eq_true p221; replace q221 := eq_true q221; have ea_ := Option.some.inj (hx219_2.symm.trans hx221_2); injection ea_ with ea_ en_ ec_; subst ea_; subst ec_; clear en_; have ea_ := Option.some.inj (hx219_3.symm.trans hx221_3); injection ea_ with ea_ en_ ec_; subst ea_; subst ec_; clear en_; have p222 : 0 ≤ (x5_1 : Int) := of_decide_eq_true B5x0_; have q222 : x5_1 < (l0.length : Int) := of_decide_eq_true B5x0_; obtain ⟨ad222, A222_2, c222_2, A222_3, c222_3, e222, hx222_0, hx222_1, hx222_2, hx222_3, hx222_4, hx222_5, hl222_2, hi222_2, hl222_3, hi222_3⟩ := at_T82 HR0.out x5_1 p222 q222; obtain rfl : ad215 = ad222 := (by injection e222); replace hx222_0 := (HB.out.cell (World.block_lt_of_cell? w _ hx222_0)).trans hx222_0; replace hx222_1 := (HB.out.cell (World.block_lt_of_cell? w _ hx222_1)).trans hx222_1; replace hx222_2 := (HB.out.cell (World.block_lt_of_cell? w _ hx222_2)).trans hx222_2; replace hx222_3 := (HB.out.cell (World.block_lt_of_cell? w _ hx222_3)).trans hx222_3; replace hx222_4 := (HB.out.cell (World.block_lt_of_cell? w _ hx222_4)).trans hx222_4; replace hx222_5 := (HB.out.cell (World.block_lt_of_cell? w _ hx222_5)).trans hx222_5; have HR222_2 := Aside0.mk hi222_2; have HC222_2 := Aside0.mk hl222_2; clear hi222_2 hl222_2; have HR222_3 := Aside0.mk hi222_3; have HC222_3 := Aside0.mk hl222_3; clear hi222_3 hl222_3; replace p222 := eq_true p222; replace q222 := eq_true q222; have ea_ := Option.some.inj (hx219_2.symm.trans hx222_2); injection ea_ with ea_ en_ ec_; subst ea_; subst ec_; clear en_; have ea_ := Option.some.inj (hx219_3.symm.trans hx222_3); injection ea_ with ea_ en_ ec_; subst ea_; subst ec_; clear en_))
          go_roundg k1
          case measure => have := HK1.out; omega
          case rel => exact ⟨(wrap64 ((wrap64 (t220 + 1)) + 1)), (wrap64 (x5_1 + 1)), (be_), (be_), H', ⟨(by have := HK1.out; omega)⟩, ⟨B5x1_⟩⟩
         ·rw [if_neg c14] at H
          have c14b0 := beq_eq_false_iff_ne.mpr c14
          have c14b1 := bne_iff_ne.mpr c14
          obtain rfl := Option.some.inj H
          have p215 : 0 ≤ (x5_1 : Int) := of_decide_eq_true B5x0_
          have q215 : x5_1 < (l0.length : Int) := of_decide_eq_true B5x0_
          obtain ⟨ad215, A215_2, c215_2, A215_3, c215_3, e215, hx215_0, hx215_1, hx215_2, hx215_3, hx215_4, hx215_5, hl215_2, hi215_2, hl215_3, hi215_3⟩ := at_T82 HR0.out x5_1 p215 q215
          cases e215
          replace hx215_0 := (HB.out.cell (World.block_lt_of_cell? w _ hx215_0)).trans hx215_0
          replace hx215_1 := (HB.out.cell (World.block_lt_of_cell? w _ hx215_1)).trans hx215_1
          replace hx215_2 := (HB.out.cell (World.block_lt_of_cell? w _ hx215_2)).trans hx215_2
          replace hx215_3 := (HB.out.cell (World.block_lt_of_cell? w _ hx215_3)).trans hx215_3
          replace hx215_4 := (HB.out.cell (World.block_lt_of_cell? w _ hx215_4)).trans hx215_4
          replace hx215_5 := (HB.out.cell (World.block_lt_of_cell? w _ hx215_5)).trans hx215_5
          have HR215_2 := Aside0.mk hi215_2
          have HC215_2 := Aside0.mk hl215_2
          clear hi215_2 hl215_2
          have HR215_3 := Aside0.mk hi215_3
          have HC215_3 := Aside0.mk hl215_3
          clear hi215_3 hl215_3
          replace p215 := eq_true p215
          replace q215 := eq_true q215
          have p216 : 0 ≤ (x5_1 : Int) := of_decide_eq_true B5x0_
          have q216 : x5_1 < (l0.length : Int) := of_decide_eq_true B5x0_
          obtain ⟨ad216, A216_2, c216_2, A216_3, c216_3, e216, hx216_0, hx216_1, hx216_2, hx216_3, hx216_4, hx216_5, hl216_2, hi216_2, hl216_3, hi216_3⟩ := at_T82 HR0.out x5_1 p216 q216
          obtain rfl : ad215 = ad216 := B5x7_
          replace hx216_0 := (HB.out.cell (World.block_lt_of_cell? w _ hx216_0)).trans hx216_0
          replace hx216_1 := (HB.out.cell (World.block_lt_of_cell? w _ hx216_1)).trans hx216_1
          replace hx216_2 := (HB.out.cell (World.block_lt_of_cell? w _ hx216_2)).trans hx216_2
          replace hx216_3 := (HB.out.cell (World.block_lt_of_cell? w _ hx216_3)).trans hx216_3
          replace hx216_4 := (HB.out.cell (World.block_lt_of_cell? w _ hx216_4)).trans hx216_4
          replace hx216_5 := (HB.out.cell (World.block_lt_of_cell? w _ hx216_5)).trans hx216_5
          have HR216_2 := Aside0.mk hi216_2
          have HC216_2 := Aside0.mk hl216_2
          clear hi216_2 hl216_2
          have HR216_3 := Aside0.mk hi216_3
          have HC216_3 := Aside0.mk hl216_3
          clear hi216_3 hl216_3
          replace p216 := eq_true p216
          replace q216 := eq_true q216
          have ea_ := Option.some.inj (hx215_2.symm.trans hx216_2)
          injection ea_ with ea_ en_ ec_
          subst ea_
          subst ec_
          clear en_
          have ea_ := Option.some.inj (hx215_3.symm.trans hx216_3)
          injection ea_ with ea_ en_ ec_
          subst ea_
          subst ec_
          clear en_
          have p217 : 0 ≤ (x5_1 : Int) := of_decide_eq_true B5x0_
          have q217 : x5_1 < (l0.length : Int) := of_decide_eq_true B5x0_
          obtain ⟨ad217, A217_2, c217_2, A217_3, c217_3, e217, hx217_0, hx217_1, hx217_2, hx217_3, hx217_4, hx217_5, hl217_2, hi217_2, hl217_3, hi217_3⟩ := at_T82 HR0.out x5_1 p217 q217
          obtain rfl : ad215 = ad217 := B5x8_
          replace hx217_0 := (HB.out.cell (World.block_lt_of_cell? w _ hx217_0)).trans hx217_0
          replace hx217_1 := (HB.out.cell (World.block_lt_of_cell? w _ hx217_1)).trans hx217_1
          replace hx217_2 := (HB.out.cell (World.block_lt_of_cell? w _ hx217_2)).trans hx217_2
          replace hx217_3 := (HB.out.cell (World.block_lt_of_cell? w _ hx217_3)).trans hx217_3
          replace hx217_4 := (HB.out.cell (World.block_lt_of_cell? w _ hx217_4)).trans hx217_4
          replace hx217_5 := (HB.out.cell (World.block_lt_of_cell? w _ hx217_5)).trans hx217_5
          have HR217_2 := Aside0.mk hi217_2
          have HC217_2 := Aside0.mk hl217_2
          clear hi217_2 hl217_2
          have HR217_3 := Aside0.mk hi217_3
          have HC217_3 := Aside0.mk hl217_3
          clear hi217_3 hl217_3
          replace p217 := eq_true p217
          replace q217 := eq_true q217
          have ea_ := Option.some.inj (hx215_2.symm.trans hx217_2)
          injection ea_ with ea_ en_ ec_
          subst ea_
          subst ec_
          clear en_
          have ea_ := Option.some.inj (hx215_3.symm.trans hx217_3)
          injection ea_ with ea_ en_ ec_
          subst ea_
          subst ec_
          clear en_
          go_wp2_with (first | ((with_reducible refine gate_callee (f := 17) rfl ?_); refine goesL_ (some 36) rfl rfl Try.func17 B5x6_ rfl #[.slice A215_2 ((rd_T82 l0 x5_1).f2).length c215_2, .int .i64 (wrap64 ((wrap64 (x1_1 + 1)) + 1))] rfl B5x2_ ?_; (with_reducible refine (laws_heldStringS.calls k1 _ _ ((rd_T82 l0 x5_1).f2) (wrap64 ((wrap64 (x1_1 + 1)) + 1)) t218 _ ?side1 ?side2 A7.out).mono ?_); (case side1 => exact B5x3_); (case side2 => exact HC217_2.out); rintro e w16 ⟨rfl, hb⟩; refine ⟨_, rfl, ?_⟩; replace HB := Aside0.mk (below_step B5x1_ hb); (try clear hb); (try clear hl); have p219 : 0 ≤ (x5_1 : Int) := of_decide_eq_true B5x0_; have q219 : x5_1 < (l0.length : Int) := of_decide_eq_true B5x0_; obtain ⟨ad219, A219_2, c219_2, A219_3, c219_3, e219, hx219_0, hx219_1, hx219_2, hx219_3, hx219_4, hx219_5, hl219_2, hi219_2, hl219_3, hi219_3⟩ := at_T82 HR0.out x5_1 p219 q219; obtain rfl : ad215 = ad219 := B5x9_; replace hx219_0 := (HB.out.cell (World.block_lt_of_cell? w _ hx219_0)).trans hx219_0; replace hx219_1 := (HB.out.cell (World.block_lt_of_cell? w _ hx219_1)).trans hx219_1; replace hx219_2 := (HB.out.cell (World.block_lt_of_cell? w _ hx219_2)).trans hx219_2; replace hx219_3 := (HB.out.cell (World.block_lt_of_cell? w _ hx219_3)).trans hx219_3; replace hx219_4 := (HB.out.cell (World.block_lt_of_cell? w _ hx219_4)).trans hx219_4; replace hx219_5 := (HB.out.cell (World.block_lt_of_cell? w _ hx219_5)).trans hx219_5; have HR219_2 := Aside0.mk hi219_2; have HC219_2 := Aside0.mk hl219_2; clear hi219_2 hl219_2; have HR219_3 := Aside0.mk hi219_3; have HC219_3 := Aside0.mk hl219_3; clear hi219_3 hl219_3; replace p219 := eq_true p219; replace q219 := eq_true q219) | ((with_reducible refine gate_callee (f := 90) rfl ?_); refine goesL_ (some 45) rfl rfl Try.func90 B5x6_ rfl #[.slice A219_3 ((rd_T82 l0 x5_1).f3).length c219_3, .int .i64 t218] rfl B5x2_ ?_; (with_reducible refine (laws_heldIntS.calls k1 _ _ ((rd_T82 l0 x5_1).f3) t218 t220 _ ?side1 ?side2 A10.out).mono ?_); (case side1 => exact B5x5_); (case side2 => exact HC219_3.out); rintro e w' ⟨rfl, ⟨nd, rfl⟩⟩; refine ⟨_, rfl, ?_⟩; have p221 : 0 ≤ (x5_1 : Int) := of_decide_eq_true B5x0_; have q221 : x5_1 < (l0.length : Int) := of_decide_eq_true B5x0_; obtain ⟨ad221, A221_2, c221_2, A221_3, c221_3, e221, hx221_0, hx221_1, hx221_2, hx221_3, hx221_4, hx221_5, hl221_2, hi221_2, hl221_3, hi221_3⟩ := at_T82 HR0.out x5_1 p221 q221; obtain rfl : ad215 = ad221 := (by injection e221); replace hx221_0 := (HB.out.cell (World.block_lt_of_cell? w _ hx221_0)).trans hx221_0; replace hx221_1 := (HB.out.cell (World.block_lt_of_cell? w _ hx221_1)).trans hx221_1; replace hx221_2 := (HB.out.cell (World.block_lt_of_cell? w _ hx221_2)).trans hx221_2; replace hx221_3 := (HB.out.cell (World.block_lt_of_cell? w _ hx221_3)).trans hx221_3; replace hx221_4 := (HB.out.cell (World.block_lt_of_cell? w _ hx221_4)).trans hx221_4; replace hx221_5 := (HB.out.cell (World.block_lt_of_cell? w _ hx221_5)).trans hx221_5; have HR221_2 := Aside0.mk hi221_2; have HC221_2 := Aside0.mk hl221_2; clear hi221_2 hl221_2; have HR221_3 := Aside0.mk hi221_3; have HC221_3 := Aside0.mk hl221_3; clear hi221_3 hl221_3; replace p221 := eq_true p221; replace q221 := eq_true q221; have ea_ := Option.some.inj (hx219_2.symm.trans hx221_2); injection ea_ with ea_ en_ ec_; subst ea_; subst ec_; clear en_; have ea_ := Option.some.inj (hx219_3.symm.trans hx221_3); injection ea_ with ea_ en_ ec_; subst ea_; subst ec_; clear en_; have p222 : 0 ≤ (x5_1 : Int) := of_decide_eq_true B5x0_; have q222 : x5_1 < (l0.length : Int) := of_decide_eq_true B5x0_; obtain ⟨ad222, A222_2, c222_2, A222_3, c222_3, e222, hx222_0, hx222_1, hx222_2, hx222_3, hx222_4, hx222_5, hl222_2, hi222_2, hl222_3, hi222_3⟩ := at_T82 HR0.out x5_1 p222 q222; obtain rfl : ad215 = ad222 := (by injection e222); replace hx222_0 := (HB.out.cell (World.block_lt_of_cell? w _ hx222_0)).trans hx222_0; replace hx222_1 := (HB.out.cell (World.block_lt_of_cell? w _ hx222_1)).trans hx222_1; replace hx222_2 := (HB.out.cell (World.block_lt_of_cell? w _ hx222_2)).trans hx222_2; replace hx222_3 := (HB.out.cell (World.block_lt_of_cell? w _ hx222_3)).trans hx222_3; replace hx222_4 := (HB.out.cell (World.block_lt_of_cell? w _ hx222_4)).trans hx222_4; replace hx222_5 := (HB.out.cell (World.block_lt_of_cell? w _ hx222_5)).trans hx222_5; have HR222_2 := Aside0.mk hi222_2; have HC222_2 := Aside0.mk hl222_2; clear hi222_2 hl222_2; have HR222_3 := Aside0.mk hi222_3; have HC222_3 := Aside0.mk hl222_3; clear hi222_3 hl222_3; replace p222 := eq_true p222; replace q222 := eq_true q222; have ea_ := Option.some.inj (hx219_2.symm.trans hx222_2); injection ea_ with ea_ en_ ec_; subst ea_; subst ec_; clear en_; have ea_ := Option.some.inj (hx219_3.symm.trans hx222_3); injection ea_ with ea_ en_ ec_; subst ea_; subst ec_; clear en_))
          go_ret
          exact ⟨B5x4_, B5x1_⟩
        ·rw [if_neg c13] at H
         have c13b0 := beq_eq_false_iff_ne.mpr c13
         have c13b1 := bne_iff_ne.mpr c13
         obtain rfl := Option.some.inj H
         have p215 : 0 ≤ (x5_1 : Int) := of_decide_eq_true B5x0_
         have q215 : x5_1 < (l0.length : Int) := of_decide_eq_true B5x0_
         obtain ⟨ad215, A215_2, c215_2, A215_3, c215_3, e215, hx215_0, hx215_1, hx215_2, hx215_3, hx215_4, hx215_5, hl215_2, hi215_2, hl215_3, hi215_3⟩ := at_T82 HR0.out x5_1 p215 q215
         cases e215
         replace hx215_0 := (HB.out.cell (World.block_lt_of_cell? w _ hx215_0)).trans hx215_0
         replace hx215_1 := (HB.out.cell (World.block_lt_of_cell? w _ hx215_1)).trans hx215_1
         replace hx215_2 := (HB.out.cell (World.block_lt_of_cell? w _ hx215_2)).trans hx215_2
         replace hx215_3 := (HB.out.cell (World.block_lt_of_cell? w _ hx215_3)).trans hx215_3
         replace hx215_4 := (HB.out.cell (World.block_lt_of_cell? w _ hx215_4)).trans hx215_4
         replace hx215_5 := (HB.out.cell (World.block_lt_of_cell? w _ hx215_5)).trans hx215_5
         have HR215_2 := Aside0.mk hi215_2
         have HC215_2 := Aside0.mk hl215_2
         clear hi215_2 hl215_2
         have HR215_3 := Aside0.mk hi215_3
         have HC215_3 := Aside0.mk hl215_3
         clear hi215_3 hl215_3
         replace p215 := eq_true p215
         replace q215 := eq_true q215
         have p216 : 0 ≤ (x5_1 : Int) := of_decide_eq_true B5x0_
         have q216 : x5_1 < (l0.length : Int) := of_decide_eq_true B5x0_
         obtain ⟨ad216, A216_2, c216_2, A216_3, c216_3, e216, hx216_0, hx216_1, hx216_2, hx216_3, hx216_4, hx216_5, hl216_2, hi216_2, hl216_3, hi216_3⟩ := at_T82 HR0.out x5_1 p216 q216
         obtain rfl : ad215 = ad216 := B5x7_
         replace hx216_0 := (HB.out.cell (World.block_lt_of_cell? w _ hx216_0)).trans hx216_0
         replace hx216_1 := (HB.out.cell (World.block_lt_of_cell? w _ hx216_1)).trans hx216_1
         replace hx216_2 := (HB.out.cell (World.block_lt_of_cell? w _ hx216_2)).trans hx216_2
         replace hx216_3 := (HB.out.cell (World.block_lt_of_cell? w _ hx216_3)).trans hx216_3
         replace hx216_4 := (HB.out.cell (World.block_lt_of_cell? w _ hx216_4)).trans hx216_4
         replace hx216_5 := (HB.out.cell (World.block_lt_of_cell? w _ hx216_5)).trans hx216_5
         have HR216_2 := Aside0.mk hi216_2
         have HC216_2 := Aside0.mk hl216_2
         clear hi216_2 hl216_2
         have HR216_3 := Aside0.mk hi216_3
         have HC216_3 := Aside0.mk hl216_3
         clear hi216_3 hl216_3
         replace p216 := eq_true p216
         replace q216 := eq_true q216
         have ea_ := Option.some.inj (hx215_2.symm.trans hx216_2)
         injection ea_ with ea_ en_ ec_
         subst ea_
         subst ec_
         clear en_
         have ea_ := Option.some.inj (hx215_3.symm.trans hx216_3)
         injection ea_ with ea_ en_ ec_
         subst ea_
         subst ec_
         clear en_
         have p217 : 0 ≤ (x5_1 : Int) := of_decide_eq_true B5x0_
         have q217 : x5_1 < (l0.length : Int) := of_decide_eq_true B5x0_
         obtain ⟨ad217, A217_2, c217_2, A217_3, c217_3, e217, hx217_0, hx217_1, hx217_2, hx217_3, hx217_4, hx217_5, hl217_2, hi217_2, hl217_3, hi217_3⟩ := at_T82 HR0.out x5_1 p217 q217
         obtain rfl : ad215 = ad217 := B5x8_
         replace hx217_0 := (HB.out.cell (World.block_lt_of_cell? w _ hx217_0)).trans hx217_0
         replace hx217_1 := (HB.out.cell (World.block_lt_of_cell? w _ hx217_1)).trans hx217_1
         replace hx217_2 := (HB.out.cell (World.block_lt_of_cell? w _ hx217_2)).trans hx217_2
         replace hx217_3 := (HB.out.cell (World.block_lt_of_cell? w _ hx217_3)).trans hx217_3
         replace hx217_4 := (HB.out.cell (World.block_lt_of_cell? w _ hx217_4)).trans hx217_4
         replace hx217_5 := (HB.out.cell (World.block_lt_of_cell? w _ hx217_5)).trans hx217_5
         have HR217_2 := Aside0.mk hi217_2
         have HC217_2 := Aside0.mk hl217_2
         clear hi217_2 hl217_2
         have HR217_3 := Aside0.mk hi217_3
         have HC217_3 := Aside0.mk hl217_3
         clear hi217_3 hl217_3
         replace p217 := eq_true p217
         replace q217 := eq_true q217
         have ea_ := Option.some.inj (hx215_2.symm.trans hx217_2)
         injection ea_ with ea_ en_ ec_
         subst ea_
         subst ec_
         clear en_
         have ea_ := Option.some.inj (hx215_3.symm.trans hx217_3)
         injection ea_ with ea_ en_ ec_
         subst ea_
         subst ec_
         clear en_
         go_wp2_with (first | ((with_reducible refine gate_callee (f := 17) rfl ?_); refine goesL_ (some 36) rfl rfl Try.func17 B5x6_ rfl #[.slice A215_2 ((rd_T82 l0 x5_1).f2).length c215_2, .int .i64 (wrap64 ((wrap64 (x1_1 + 1)) + 1))] rfl B5x2_ ?_; (with_reducible refine (laws_heldStringS.calls k1 _ _ ((rd_T82 l0 x5_1).f2) (wrap64 ((wrap64 (x1_1 + 1)) + 1)) t218 _ ?side1 ?side2 A7.out).mono ?_); (case side1 => exact B5x3_); (case side2 => exact HC217_2.out); rintro e w17 ⟨rfl, hb⟩; refine ⟨_, rfl, ?_⟩; replace HB := Aside0.mk (below_step B5x1_ hb); (try clear hb); (try clear hl); have p219 : 0 ≤ (x5_1 : Int) := of_decide_eq_true B5x0_; have q219 : x5_1 < (l0.length : Int) := of_decide_eq_true B5x0_; obtain ⟨ad219, A219_2, c219_2, A219_3, c219_3, e219, hx219_0, hx219_1, hx219_2, hx219_3, hx219_4, hx219_5, hl219_2, hi219_2, hl219_3, hi219_3⟩ := at_T82 HR0.out x5_1 p219 q219; obtain rfl : ad215 = ad219 := B5x9_; replace hx219_0 := (HB.out.cell (World.block_lt_of_cell? w _ hx219_0)).trans hx219_0; replace hx219_1 := (HB.out.cell (World.block_lt_of_cell? w _ hx219_1)).trans hx219_1; replace hx219_2 := (HB.out.cell (World.block_lt_of_cell? w _ hx219_2)).trans hx219_2; replace hx219_3 := (HB.out.cell (World.block_lt_of_cell? w _ hx219_3)).trans hx219_3; replace hx219_4 := (HB.out.cell (World.block_lt_of_cell? w _ hx219_4)).trans hx219_4; replace hx219_5 := (HB.out.cell (World.block_lt_of_cell? w _ hx219_5)).trans hx219_5; have HR219_2 := Aside0.mk hi219_2; have HC219_2 := Aside0.mk hl219_2; clear hi219_2 hl219_2; have HR219_3 := Aside0.mk hi219_3; have HC219_3 := Aside0.mk hl219_3; clear hi219_3 hl219_3; replace p219 := eq_true p219; replace q219 := eq_true q219) | ((with_reducible refine gate_callee (f := 90) rfl ?_); refine goesL_ (some 45) rfl rfl Try.func90 B5x6_ rfl #[.slice A219_3 ((rd_T82 l0 x5_1).f3).length c219_3, .int .i64 t218] rfl B5x2_ ?_; (with_reducible refine (laws_heldIntS.calls k1 _ _ ((rd_T82 l0 x5_1).f3) t218 t220 _ ?side1 ?side2 A10.out).mono ?_); (case side1 => exact B5x5_); (case side2 => exact HC219_3.out); rintro e w' ⟨rfl, ⟨nd, rfl⟩⟩; refine ⟨_, rfl, ?_⟩; have p221 : 0 ≤ (x5_1 : Int) := of_decide_eq_true B5x0_; have q221 : x5_1 < (l0.length : Int) := of_decide_eq_true B5x0_; obtain ⟨ad221, A221_2, c221_2, A221_3, c221_3, e221, hx221_0, hx221_1, hx221_2, hx221_3, hx221_4, hx221_5, hl221_2, hi221_2, hl221_3, hi221_3⟩ := at_T82 HR0.out x5_1 p221 q221; obtain rfl : ad215 = ad221 := (by injection e221); replace hx221_0 := (HB.out.cell (World.block_lt_of_cell? w _ hx221_0)).trans hx221_0; replace hx221_1 := (HB.out.cell (World.block_lt_of_cell? w _ hx221_1)).trans hx221_1; replace hx221_2 := (HB.out.cell (World.block_lt_of_cell? w _ hx221_2)).trans hx221_2; replace hx221_3 := (HB.out.cell (World.block_lt_of_cell? w _ hx221_3)).trans hx221_3; replace hx221_4 := (HB.out.cell (World.block_lt_of_cell? w _ hx221_4)).trans hx221_4; replace hx221_5 := (HB.out.cell (World.block_lt_of_cell? w _ hx221_5)).trans hx221_5; have HR221_2 := Aside0.mk hi221_2; have HC221_2 := Aside0.mk hl221_2; clear hi221_2 hl221_2; have HR221_3 := Aside0.mk hi221_3; have HC221_3 := Aside0.mk hl221_3; clear hi221_3 hl221_3; replace p221 := eq_true p221; replace q221 := eq_true q221; have ea_ := Option.some.inj (hx219_2.symm.trans hx221_2); injection ea_ with ea_ en_ ec_; subst ea_; subst ec_; clear en_; have ea_ := Option.some.inj (hx219_3.symm.trans hx221_3); injection ea_ with ea_ en_ ec_; subst ea_; subst ec_; clear en_))
         go_ret
         exact ⟨B5x4_, B5x1_⟩
     ·rw [if_neg c6] at H
      have c6b0 := beq_eq_false_iff_ne.mpr c6
      have c6b1 := bne_iff_ne.mpr c6
      obtain rfl := Option.some.inj H
      have p215 : 0 ≤ (x5_1 : Int) := of_decide_eq_true B5x0_
      have q215 : x5_1 < (l0.length : Int) := of_decide_eq_true B5x0_
      obtain ⟨ad215, A215_2, c215_2, A215_3, c215_3, e215, hx215_0, hx215_1, hx215_2, hx215_3, hx215_4, hx215_5, hl215_2, hi215_2, hl215_3, hi215_3⟩ := at_T82 HR0.out x5_1 p215 q215
      cases e215
      replace hx215_0 := (HB.out.cell (World.block_lt_of_cell? w _ hx215_0)).trans hx215_0
      replace hx215_1 := (HB.out.cell (World.block_lt_of_cell? w _ hx215_1)).trans hx215_1
      replace hx215_2 := (HB.out.cell (World.block_lt_of_cell? w _ hx215_2)).trans hx215_2
      replace hx215_3 := (HB.out.cell (World.block_lt_of_cell? w _ hx215_3)).trans hx215_3
      replace hx215_4 := (HB.out.cell (World.block_lt_of_cell? w _ hx215_4)).trans hx215_4
      replace hx215_5 := (HB.out.cell (World.block_lt_of_cell? w _ hx215_5)).trans hx215_5
      have HR215_2 := Aside0.mk hi215_2
      have HC215_2 := Aside0.mk hl215_2
      clear hi215_2 hl215_2
      have HR215_3 := Aside0.mk hi215_3
      have HC215_3 := Aside0.mk hl215_3
      clear hi215_3 hl215_3
      replace p215 := eq_true p215
      replace q215 := eq_true q215
      have p216 : 0 ≤ (x5_1 : Int) := of_decide_eq_true B5x0_
      have q216 : x5_1 < (l0.length : Int) := of_decide_eq_true B5x0_
      obtain ⟨ad216, A216_2, c216_2, A216_3, c216_3, e216, hx216_0, hx216_1, hx216_2, hx216_3, hx216_4, hx216_5, hl216_2, hi216_2, hl216_3, hi216_3⟩ := at_T82 HR0.out x5_1 p216 q216
      obtain rfl : ad215 = ad216 := B5x7_
      replace hx216_0 := (HB.out.cell (World.block_lt_of_cell? w _ hx216_0)).trans hx216_0
      replace hx216_1 := (HB.out.cell (World.block_lt_of_cell? w _ hx216_1)).trans hx216_1
      replace hx216_2 := (HB.out.cell (World.block_lt_of_cell? w _ hx216_2)).trans hx216_2
      replace hx216_3 := (HB.out.cell (World.block_lt_of_cell? w _ hx216_3)).trans hx216_3
      replace hx216_4 := (HB.out.cell (World.block_lt_of_cell? w _ hx216_4)).trans hx216_4
      replace hx216_5 := (HB.out.cell (World.block_lt_of_cell? w _ hx216_5)).trans hx216_5
      have HR216_2 := Aside0.mk hi216_2
      have HC216_2 := Aside0.mk hl216_2
      clear hi216_2 hl216_2
      have HR216_3 := Aside0.mk hi216_3
      have HC216_3 := Aside0.mk hl216_3
      clear hi216_3 hl216_3
      replace p216 := eq_true p216
      replace q216 := eq_true q216
      have ea_ := Option.some.inj (hx215_2.symm.trans hx216_2)
      injection ea_ with ea_ en_ ec_
      subst ea_
      subst ec_
      clear en_
      have ea_ := Option.some.inj (hx215_3.symm.trans hx216_3)
      injection ea_ with ea_ en_ ec_
      subst ea_
      subst ec_
      clear en_
      go_wp2
      go_ret
      exact ⟨B5x4_, B5x1_⟩
    ·rw [if_neg c5] at H
     have c5b0 := beq_eq_false_iff_ne.mpr c5
     have c5b1 := bne_iff_ne.mpr c5
     obtain rfl := Option.some.inj H
     have p215 : 0 ≤ (x5_1 : Int) := of_decide_eq_true B5x0_
     have q215 : x5_1 < (l0.length : Int) := of_decide_eq_true B5x0_
     obtain ⟨ad215, A215_2, c215_2, A215_3, c215_3, e215, hx215_0, hx215_1, hx215_2, hx215_3, hx215_4, hx215_5, hl215_2, hi215_2, hl215_3, hi215_3⟩ := at_T82 HR0.out x5_1 p215 q215
     cases e215
     replace hx215_0 := (HB.out.cell (World.block_lt_of_cell? w _ hx215_0)).trans hx215_0
     replace hx215_1 := (HB.out.cell (World.block_lt_of_cell? w _ hx215_1)).trans hx215_1
     replace hx215_2 := (HB.out.cell (World.block_lt_of_cell? w _ hx215_2)).trans hx215_2
     replace hx215_3 := (HB.out.cell (World.block_lt_of_cell? w _ hx215_3)).trans hx215_3
     replace hx215_4 := (HB.out.cell (World.block_lt_of_cell? w _ hx215_4)).trans hx215_4
     replace hx215_5 := (HB.out.cell (World.block_lt_of_cell? w _ hx215_5)).trans hx215_5
     have HR215_2 := Aside0.mk hi215_2
     have HC215_2 := Aside0.mk hl215_2
     clear hi215_2 hl215_2
     have HR215_3 := Aside0.mk hi215_3
     have HC215_3 := Aside0.mk hl215_3
     clear hi215_3 hl215_3
     replace p215 := eq_true p215
     replace q215 := eq_true q215
     go_wp2
     go_ret
     exact ⟨B5x4_, B5x1_⟩
   ·rw [if_neg c3] at H
    have c3b0 : decide (x5_1 < (l0.length : Int)) = false := decide_eq_false c3
    clear c3
    obtain rfl := Option.some.inj H
    go_wp2
    go_ret
    exact ⟨B5x4_, B5x1_⟩

-- NOT PRINTED: function 7 (laws_FnExactTidyBits)

end Go.Proofs.Ytmknnoeggkgkgaa.QFnExactTidyBits
