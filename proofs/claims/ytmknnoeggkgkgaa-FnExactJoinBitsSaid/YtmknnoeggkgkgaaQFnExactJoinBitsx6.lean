/- Functions that a law reaches, as functions of Lean, and the walks that show that the calls come to their answers: written by a program of this project out of the translation. No condition. -/
import Derived.Test.YtmknnoeggkgkgaaQFnExactJoinBitsx0
import Derived.Test.YtmknnoeggkgkgaaQFnExactJoinBitsx5
import Derived.Test.YtmknnoeggkgkgaaVFnExactJoinBitshort4
import Derived.Test.YtmknnoeggkgkgaaVFnExactJoinBitshort3
import Derived.Test.YtmknnoeggkgkgaaVFnExactJoinBitsShort2
import Derived.Test.YtmknnoeggkgkgaaVFnExactJoinBitsShort
namespace Go.Proofs.Ytmknnoeggkgkgaa.QFnExactJoinBits
open Go.RowKit Go.Proofs.YtmknnoeggkgkgaaW.PrintWords Go.Proofs.YtmknnoeggkgkgaaW.PrintLast Go.Proofs.YtmknnoeggkgkgaaW.PrintMore Go.Proofs.Ytmknnoeggkgkgaa.Short
attribute [local go_sem] max2_int min2_int max_two min_two max_three min_three max_four min_four   -- for this text's walks alone
set_option linter.unusedVariables false
set_option linter.unusedSimpArgs false

theorem B6x0_ {p : Prop} (h : p := by repeat (first | (with_reducible first | exact HB.out | apply below_alloc | apply pw_below_drewN | apply below_drew1) | exact HB.out)) : p := h
theorem B6x1_ {p : Prop} (h : p := by first | (with_reducible assumption) | assumption) : p := h
theorem B6x2_ {p : Prop} (h : p := by (try simp only [List.map_toArray, List.map_cons, List.map_nil]); first | done | rfl | (simp only [List.length_drop, List.length_take]; rfl)) : p := h
theorem B6x3_ {p : Prop} (h : p := by first | rfl | (simp [errW_none, errW_some] <;> rfl) | (simp [*, errW_none, errW_some] <;> rfl)) : p := h
theorem B6x4_ {p : Prop} (h : p := by repeat (first | (with_reducible first | exact HB.out | apply below_alloc | apply pw_below_drewN | apply below_drew1 | refine below_set ?_ GE212.out) | exact HB.out)) : p := h
theorem B6x5_ {p : Prop} (h : p := by repeat (first | exact (Kd.C_below HR206_2.out HB.out) | (with_reducible refine Kd.C_alloc ?_ _) | (with_reducible refine Kd.C_drewN ?_ _) | (with_reducible refine Kd.C_drew ?_))) : p := h
theorem B6x6_ {p : Prop} (h : p := by repeat (first | exact (Kd.C_below HR208_3.out HB.out) | (with_reducible refine Kd.C_alloc ?_ _) | (with_reducible refine Kd.C_drewN ?_ _) | (with_reducible refine Kd.C_drew ?_))) : p := h
theorem B6x7_ {p : Prop} (h : p := by first | (go_simp; done) | (go_simp; rfl)) : p := h
theorem B6x8_ {p : Prop} (h : p := by kernel_rfl) : p := h
theorem B6x9_ {p : Prop} (h : p := by injection e205) : p := h
theorem B6x10_ {p : Prop} (h : p := by injection e206) : p := h
theorem B6x11_ {p : Prop} (h : p := by repeat (first | exact Drawn0.refl _ | apply Drawn0.step)) : p := h
theorem B6x12_ {p : Prop} (h : p := by first | rfl | (simp; done) | (simp [*]; done)) : p := h
theorem B6x13_ {p : Prop} (h : p := by injection e208) : p := h
/-! ### laws_heldBitsS: function 46 -/
def laws_heldBitsS.l0 : Nat → List (S82) → Int → Int → Option (Int)
 | 0, _, _, _ => none
 | k + 1, x0, x1, x5 => if x5 < (x0.length : Int) then (if 0 ≤ x5 then (if ((rd_T82 x0 x5).f0) = x1 then (if ((rd_T82 x0 x5).f1) = (wrap64 (x1 + 1)) then ((laws_heldStringS.f k ((rd_T82 x0 x5).f2) (wrap64 ((wrap64 (x1 + 1)) + 1))).bind fun t207 => (if t207 < 0 then (some (-1)) else ((laws_heldIntS.f k ((rd_T82 x0 x5).f3) t207).bind fun t209 => (if t209 < 0 then (some (-1)) else (if ((rd_T82 x0 x5).f4) = t209 then (if ((rd_T82 x0 x5).f5) = (wrap64 (t209 + 1)) then (laws_heldBitsS.l0 k x0 (wrap64 ((wrap64 (t209 + 1)) + 1)) (wrap64 (x5 + 1))) else (some (-1))) else (some (-1))))))) else (some (-1))) else (some (-1))) else (none)) else (some x1)
def laws_heldBitsS.f (k : Nat) (l0 : List (S82)) (a1 : Int) : Option (Int) := laws_heldBitsS.l0 k l0 a1 0
theorem laws_heldBitsS.mono_l : ∀ k, (∀ y0 y1 y2, LeO (laws_heldBitsS.l0 k y0 y1 y2) (laws_heldBitsS.l0 (k + 1) y0 y1 y2))
 | 0 => fun _ _ _ r h => by simp [laws_heldBitsS.l0] at h
 | k + 1 => by
  have ih0 := laws_heldBitsS.mono_l k
  ·intro y0 y1 y2
   unfold laws_heldBitsS.l0
   repeat' first
   | (with_reducible exact ih0 _ _ _)
   | (with_reducible exact laws_heldIntS.mono _ _ _)
   | (with_reducible exact laws_heldStringS.mono _ _ _)
   | (with_reducible first | exact LeO.refl _ | exact LeO.none _ | refine LeO.ite ?_ ?_ | refine LeO.bind ?_ (fun _ => ?_))
   | exact ih0 _ _ _
   | exact laws_heldIntS.mono _ _ _
   | exact laws_heldStringS.mono _ _ _
theorem laws_heldBitsS.mono : ∀ a0 a1 k, LeO (laws_heldBitsS.f k a0 a1) (laws_heldBitsS.f (k + 1) a0 a1) := by
 intro a0 a1 k
 have ih0 := laws_heldBitsS.mono_l k
 unfold laws_heldBitsS.f
 repeat' first
   | (with_reducible exact ih0 _ _ _)
   | (with_reducible exact laws_heldIntS.mono _ _ _)
   | (with_reducible exact laws_heldStringS.mono _ _ _)
   | (with_reducible first | exact LeO.refl _ | exact LeO.none _ | refine LeO.ite ?_ ?_ | refine LeO.bind ?_ (fun _ => ?_))
   | exact ih0 _ _ _
   | exact laws_heldIntS.mono _ _ _
   | exact laws_heldStringS.mono _ _ _
set_option maxHeartbeats 8000000 in
set_option maxRecDepth 100000 in
theorem laws_heldBitsS.calls (k : Nat) (A0 : Option Addr) (c0 : Nat) (l0 : List (S82)) (a1 : Int) (r : Int) (w : World) (hr0 : Kd.C k82 w A0 l0.length l0) (hc0 : l0.length ≤ c0) (h : laws_heldBitsS.f k l0 a1 = some r) :
  Calls Try.prog 46 #[.slice A0 l0.length c0, .int .i64 a1] w fun e w' => e = .returned (.int .i64 r) ∧ Below w.heap.size w w' := by
 have HR0 := Aside0.mk hr0
 have HC0 := Aside0.mk hc0
 clear hr0 hc0
 have HB := Aside0.mk (Below.refl w.heap.size w)
 have H : (laws_heldBitsS.l0 k l0 a1 0) = some r := h
 clear h
 have H' := Aside0.mk H
 clear H
 go_enter Try.func46, Try.ntmps46
 go_wp2
 go_loopg [1, 5] k (fun kq v1 v5 w' => ∃ (x1_1 : Int) (x5_1 : Int), v1 = .int .i64 x1_1 ∧ v5 = .int .i64 x5_1 ∧ Aside0 (laws_heldBitsS.l0 kq l0 x1_1 x5_1 = some r) ∧ Aside0 (kq ≤ k) ∧ Aside0 (Below w.heap.size w w'))
 case atStart => exact ⟨(a1), (0), (be_), (be_), H', ⟨Nat.le_refl _⟩, ⟨B6x0_⟩⟩
 case round =>
  clear H'
  obtain ⟨x1_1, x5_1, rfl, rfl, HA, HK1, HB⟩ := hrel
  cases gk with
  | zero => exact absurd HA.out (by simp [laws_heldBitsS.l0])
  | succ k1 =>
   have H := HA.out
   clear HA
   simp only [laws_heldBitsS.l0] at H
   by_cases c3 : x5_1 < (l0.length : Int)
   ·rw [if_pos c3] at H
    have c3b0 : decide (x5_1 < (l0.length : Int)) = true := decide_eq_true c3
    clear c3
    by_cases c4 : 0 ≤ x5_1
    rotate_left
    ·rw [if_neg c4] at H
     exact absurd H (by simp)
    rw [if_pos c4] at H
    have c4b0 : decide (0 ≤ x5_1) = true := decide_eq_true c4
    clear c4
    by_cases c5 : ((rd_T82 l0 x5_1).f0) = x1_1
    ·rw [if_pos c5] at H
     have c5b0 := beq_iff_eq.mpr c5
     have c5b1 := bne_eq_false_iff_eq.mpr c5
     clear c5
     by_cases c6 : ((rd_T82 l0 x5_1).f1) = (wrap64 (x1_1 + 1))
     ·rw [if_pos c6] at H
      have c6b0 := beq_iff_eq.mpr c6
      have c6b1 := bne_eq_false_iff_eq.mpr c6
      clear c6
      replace H := bsi H
      obtain ⟨t207, A7, H⟩ := H
      (try dsimp only at H)
      by_cases c8 : t207 < 0
      ·rw [if_pos c8] at H
       have c8b0 : decide (t207 < 0) = true := decide_eq_true c8
       clear c8
       obtain rfl := Option.some.inj H
       have p204 : 0 ≤ (x5_1 : Int) := of_decide_eq_true B6x1_
       have q204 : x5_1 < (l0.length : Int) := of_decide_eq_true B6x1_
       obtain ⟨ad204, A204_2, c204_2, A204_3, c204_3, e204, hx204_0, hx204_1, hx204_2, hx204_3, hx204_4, hx204_5, hl204_2, hi204_2, hl204_3, hi204_3⟩ := at_T82 HR0.out x5_1 p204 q204
       cases e204
       replace hx204_0 := (HB.out.cell (World.block_lt_of_cell? w _ hx204_0)).trans hx204_0
       replace hx204_1 := (HB.out.cell (World.block_lt_of_cell? w _ hx204_1)).trans hx204_1
       replace hx204_2 := (HB.out.cell (World.block_lt_of_cell? w _ hx204_2)).trans hx204_2
       replace hx204_3 := (HB.out.cell (World.block_lt_of_cell? w _ hx204_3)).trans hx204_3
       replace hx204_4 := (HB.out.cell (World.block_lt_of_cell? w _ hx204_4)).trans hx204_4
       replace hx204_5 := (HB.out.cell (World.block_lt_of_cell? w _ hx204_5)).trans hx204_5
       have HR204_2 := Aside0.mk hi204_2
       have HC204_2 := Aside0.mk hl204_2
       clear hi204_2 hl204_2
       have HR204_3 := Aside0.mk hi204_3
       have HC204_3 := Aside0.mk hl204_3
       clear hi204_3 hl204_3
       replace p204 := eq_true p204
       replace q204 := eq_true q204
       have p205 : 0 ≤ (x5_1 : Int) := of_decide_eq_true B6x1_
       have q205 : x5_1 < (l0.length : Int) := of_decide_eq_true B6x1_
       obtain ⟨ad205, A205_2, c205_2, A205_3, c205_3, e205, hx205_0, hx205_1, hx205_2, hx205_3, hx205_4, hx205_5, hl205_2, hi205_2, hl205_3, hi205_3⟩ := at_T82 HR0.out x5_1 p205 q205
       obtain rfl : ad204 = ad205 := B6x9_
       replace hx205_0 := (HB.out.cell (World.block_lt_of_cell? w _ hx205_0)).trans hx205_0
       replace hx205_1 := (HB.out.cell (World.block_lt_of_cell? w _ hx205_1)).trans hx205_1
       replace hx205_2 := (HB.out.cell (World.block_lt_of_cell? w _ hx205_2)).trans hx205_2
       replace hx205_3 := (HB.out.cell (World.block_lt_of_cell? w _ hx205_3)).trans hx205_3
       replace hx205_4 := (HB.out.cell (World.block_lt_of_cell? w _ hx205_4)).trans hx205_4
       replace hx205_5 := (HB.out.cell (World.block_lt_of_cell? w _ hx205_5)).trans hx205_5
       have HR205_2 := Aside0.mk hi205_2
       have HC205_2 := Aside0.mk hl205_2
       clear hi205_2 hl205_2
       have HR205_3 := Aside0.mk hi205_3
       have HC205_3 := Aside0.mk hl205_3
       clear hi205_3 hl205_3
       replace p205 := eq_true p205
       replace q205 := eq_true q205
       have ea_ := Option.some.inj (hx204_2.symm.trans hx205_2)
       injection ea_ with ea_ en_ ec_
       subst ea_
       subst ec_
       clear en_
       have ea_ := Option.some.inj (hx204_3.symm.trans hx205_3)
       injection ea_ with ea_ en_ ec_
       subst ea_
       subst ec_
       clear en_
       have p206 : 0 ≤ (x5_1 : Int) := of_decide_eq_true B6x1_
       have q206 : x5_1 < (l0.length : Int) := of_decide_eq_true B6x1_
       obtain ⟨ad206, A206_2, c206_2, A206_3, c206_3, e206, hx206_0, hx206_1, hx206_2, hx206_3, hx206_4, hx206_5, hl206_2, hi206_2, hl206_3, hi206_3⟩ := at_T82 HR0.out x5_1 p206 q206
       obtain rfl : ad204 = ad206 := B6x10_
       replace hx206_0 := (HB.out.cell (World.block_lt_of_cell? w _ hx206_0)).trans hx206_0
       replace hx206_1 := (HB.out.cell (World.block_lt_of_cell? w _ hx206_1)).trans hx206_1
       replace hx206_2 := (HB.out.cell (World.block_lt_of_cell? w _ hx206_2)).trans hx206_2
       replace hx206_3 := (HB.out.cell (World.block_lt_of_cell? w _ hx206_3)).trans hx206_3
       replace hx206_4 := (HB.out.cell (World.block_lt_of_cell? w _ hx206_4)).trans hx206_4
       replace hx206_5 := (HB.out.cell (World.block_lt_of_cell? w _ hx206_5)).trans hx206_5
       have HR206_2 := Aside0.mk hi206_2
       have HC206_2 := Aside0.mk hl206_2
       clear hi206_2 hl206_2
       have HR206_3 := Aside0.mk hi206_3
       have HC206_3 := Aside0.mk hl206_3
       clear hi206_3 hl206_3
       replace p206 := eq_true p206
       replace q206 := eq_true q206
       have ea_ := Option.some.inj (hx204_2.symm.trans hx206_2)
       injection ea_ with ea_ en_ ec_
       subst ea_
       subst ec_
       clear en_
       have ea_ := Option.some.inj (hx204_3.symm.trans hx206_3)
       injection ea_ with ea_ en_ ec_
       subst ea_
       subst ec_
       clear en_
       go_wp2_with (first | ((with_reducible refine gate_callee (f := 17) rfl ?_); refine goesL_ (some 36) rfl rfl Try.func17 B6x8_ rfl #[.slice A204_2 ((rd_T82 l0 x5_1).f2).length c204_2, .int .i64 (wrap64 ((wrap64 (x1_1 + 1)) + 1))] rfl B6x2_ ?_; (with_reducible refine (laws_heldStringS.calls k1 _ _ ((rd_T82 l0 x5_1).f2) (wrap64 ((wrap64 (x1_1 + 1)) + 1)) t207 _ ?side1 ?side2 A7.out).mono ?_); (case side1 => exact B6x5_); (case side2 => exact HC206_2.out); rintro e w9 ⟨rfl, hb⟩; refine ⟨_, rfl, ?_⟩; replace HB := Aside0.mk (below_step B6x0_ hb); (try clear hb); (try clear hl)))
       go_ret
       exact ⟨B6x3_, B6x0_⟩
      ·rw [if_neg c8] at H
       have c8b0 : decide (t207 < 0) = false := decide_eq_false c8
       clear c8
       replace H := bsi H
       obtain ⟨t209, A10, H⟩ := H
       (try dsimp only at H)
       by_cases c11 : t209 < 0
       ·rw [if_pos c11] at H
        have c11b0 : decide (t209 < 0) = true := decide_eq_true c11
        clear c11
        obtain rfl := Option.some.inj H
        have p204 : 0 ≤ (x5_1 : Int) := of_decide_eq_true B6x1_
        have q204 : x5_1 < (l0.length : Int) := of_decide_eq_true B6x1_
        obtain ⟨ad204, A204_2, c204_2, A204_3, c204_3, e204, hx204_0, hx204_1, hx204_2, hx204_3, hx204_4, hx204_5, hl204_2, hi204_2, hl204_3, hi204_3⟩ := at_T82 HR0.out x5_1 p204 q204
        cases e204
        replace hx204_0 := (HB.out.cell (World.block_lt_of_cell? w _ hx204_0)).trans hx204_0
        replace hx204_1 := (HB.out.cell (World.block_lt_of_cell? w _ hx204_1)).trans hx204_1
        replace hx204_2 := (HB.out.cell (World.block_lt_of_cell? w _ hx204_2)).trans hx204_2
        replace hx204_3 := (HB.out.cell (World.block_lt_of_cell? w _ hx204_3)).trans hx204_3
        replace hx204_4 := (HB.out.cell (World.block_lt_of_cell? w _ hx204_4)).trans hx204_4
        replace hx204_5 := (HB.out.cell (World.block_lt_of_cell? w _ hx204_5)).trans hx204_5
        have HR204_2 := Aside0.mk hi204_2
        have HC204_2 := Aside0.mk hl204_2
        clear hi204_2 hl204_2
        have HR204_3 := Aside0.mk hi204_3
        have HC204_3 := Aside0.mk hl204_3
        clear hi204_3 hl204_3
        replace p204 := eq_true p204
        replace q204 := eq_true q204
        have p205 : 0 ≤ (x5_1 : Int) := of_decide_eq_true B6x1_
        have q205 : x5_1 < (l0.length : Int) := of_decide_eq_true B6x1_
        obtain ⟨ad205, A205_2, c205_2, A205_3, c205_3, e205, hx205_0, hx205_1, hx205_2, hx205_3, hx205_4, hx205_5, hl205_2, hi205_2, hl205_3, hi205_3⟩ := at_T82 HR0.out x5_1 p205 q205
        obtain rfl : ad204 = ad205 := B6x9_
        replace hx205_0 := (HB.out.cell (World.block_lt_of_cell? w _ hx205_0)).trans hx205_0
        replace hx205_1 := (HB.out.cell (World.block_lt_of_cell? w _ hx205_1)).trans hx205_1
        replace hx205_2 := (HB.out.cell (World.block_lt_of_cell? w _ hx205_2)).trans hx205_2
        replace hx205_3 := (HB.out.cell (World.block_lt_of_cell? w _ hx205_3)).trans hx205_3
        replace hx205_4 := (HB.out.cell (World.block_lt_of_cell? w _ hx205_4)).trans hx205_4
        replace hx205_5 := (HB.out.cell (World.block_lt_of_cell? w _ hx205_5)).trans hx205_5
        have HR205_2 := Aside0.mk hi205_2
        have HC205_2 := Aside0.mk hl205_2
        clear hi205_2 hl205_2
        have HR205_3 := Aside0.mk hi205_3
        have HC205_3 := Aside0.mk hl205_3
        clear hi205_3 hl205_3
        replace p205 := eq_true p205
        replace q205 := eq_true q205
        have ea_ := Option.some.inj (hx204_2.symm.trans hx205_2)
        injection ea_ with ea_ en_ ec_
        subst ea_
        subst ec_
        clear en_
        have ea_ := Option.some.inj (hx204_3.symm.trans hx205_3)
        injection ea_ with ea_ en_ ec_
        subst ea_
        subst ec_
        clear en_
        have p206 : 0 ≤ (x5_1 : Int) := of_decide_eq_true B6x1_
        have q206 : x5_1 < (l0.length : Int) := of_decide_eq_true B6x1_
        obtain ⟨ad206, A206_2, c206_2, A206_3, c206_3, e206, hx206_0, hx206_1, hx206_2, hx206_3, hx206_4, hx206_5, hl206_2, hi206_2, hl206_3, hi206_3⟩ := at_T82 HR0.out x5_1 p206 q206
        obtain rfl : ad204 = ad206 := B6x10_
        replace hx206_0 := (HB.out.cell (World.block_lt_of_cell? w _ hx206_0)).trans hx206_0
        replace hx206_1 := (HB.out.cell (World.block_lt_of_cell? w _ hx206_1)).trans hx206_1
        replace hx206_2 := (HB.out.cell (World.block_lt_of_cell? w _ hx206_2)).trans hx206_2
        replace hx206_3 := (HB.out.cell (World.block_lt_of_cell? w _ hx206_3)).trans hx206_3
        replace hx206_4 := (HB.out.cell (World.block_lt_of_cell? w _ hx206_4)).trans hx206_4
        replace hx206_5 := (HB.out.cell (World.block_lt_of_cell? w _ hx206_5)).trans hx206_5
        have HR206_2 := Aside0.mk hi206_2
        have HC206_2 := Aside0.mk hl206_2
        clear hi206_2 hl206_2
        have HR206_3 := Aside0.mk hi206_3
        have HC206_3 := Aside0.mk hl206_3
        clear hi206_3 hl206_3
        replace p206 := eq_true p206
        replace q206 := eq_true q206
        have ea_ := Option.some.inj (hx204_2.symm.trans hx206_2)
        injection ea_ with ea_ en_ ec_
        subst ea_
        subst ec_
        clear en_
        have ea_ := Option.some.inj (hx204_3.symm.trans hx206_3)
        injection ea_ with ea_ en_ ec_
        subst ea_
        subst ec_
        clear en_
        go_wp2_with (first | ((with_reducible refine gate_callee (f := 17) rfl ?_); refine goesL_ (some 36) rfl rfl Try.func17 B6x8_ rfl #[.slice A204_2 ((rd_T82 l0 x5_1).f2).length c204_2, .int .i64 (wrap64 ((wrap64 (x1_1 + 1)) + 1))] rfl B6x2_ ?_; (with_reducible refine (laws_heldStringS.calls k1 _ _ ((rd_T82 l0 x5_1).f2) (wrap64 ((wrap64 (x1_1 + 1)) + 1)) t207 _ ?side1 ?side2 A7.out).mono ?_); (case side1 => exact B6x5_); (case side2 => exact HC206_2.out); rintro e w12 ⟨rfl, hb⟩; refine ⟨_, rfl, ?_⟩; replace HB := Aside0.mk (below_step B6x0_ hb); (try clear hb); (try clear hl); have p208 : 0 ≤ (x5_1 : Int) := of_decide_eq_true B6x1_; have q208 : x5_1 < (l0.length : Int) := of_decide_eq_true B6x1_; obtain ⟨ad208, A208_2, c208_2, A208_3, c208_3, e208, hx208_0, hx208_1, hx208_2, hx208_3, hx208_4, hx208_5, hl208_2, hi208_2, hl208_3, hi208_3⟩ := at_T82 HR0.out x5_1 p208 q208; obtain rfl : ad204 = ad208 := B6x13_; replace hx208_0 := (HB.out.cell (World.block_lt_of_cell? w _ hx208_0)).trans hx208_0; replace hx208_1 := (HB.out.cell (World.block_lt_of_cell? w _ hx208_1)).trans hx208_1; replace hx208_2 := (HB.out.cell (World.block_lt_of_cell? w _ hx208_2)).trans hx208_2; replace hx208_3 := (HB.out.cell (World.block_lt_of_cell? w _ hx208_3)).trans hx208_3; replace hx208_4 := (HB.out.cell (World.block_lt_of_cell? w _ hx208_4)).trans hx208_4; replace hx208_5 := (HB.out.cell (World.block_lt_of_cell? w _ hx208_5)).trans hx208_5; have HR208_2 := Aside0.mk hi208_2; have HC208_2 := Aside0.mk hl208_2; clear hi208_2 hl208_2; have HR208_3 := Aside0.mk hi208_3; have HC208_3 := Aside0.mk hl208_3; clear hi208_3 hl208_3; replace p208 := eq_true p208; replace q208 := eq_true q208) | ((with_reducible refine gate_callee (f := 90) rfl ?_); refine goesL_ (some 45) rfl rfl Try.func90 B6x8_ rfl #[.slice A208_3 ((rd_T82 l0 x5_1).f3).length c208_3, .int .i64 t207] rfl B6x2_ ?_; (with_reducible refine (laws_heldIntS.calls k1 _ _ ((rd_T82 l0 x5_1).f3) t207 t209 _ ?side1 ?side2 A10.out).mono ?_); (case side1 => exact B6x6_); (case side2 => exact HC208_3.out); rintro e w' ⟨rfl, ⟨nd, rfl⟩⟩; refine ⟨_, rfl, ?_⟩))
        go_ret
        exact ⟨B6x3_, B6x0_⟩
       ·rw [if_neg c11] at H
        have c11b0 : decide (t209 < 0) = false := decide_eq_false c11
        clear c11
        by_cases c13 : ((rd_T82 l0 x5_1).f4) = t209
        ·rw [if_pos c13] at H
         have c13b0 := beq_iff_eq.mpr c13
         have c13b1 := bne_eq_false_iff_eq.mpr c13
         clear c13
         by_cases c14 : ((rd_T82 l0 x5_1).f5) = (wrap64 (t209 + 1))
         ·rw [if_pos c14] at H
          have c14b0 := beq_iff_eq.mpr c14
          have c14b1 := bne_eq_false_iff_eq.mpr c14
          clear c14
          have H' := Aside0.mk H
          clear H
          have p204 : 0 ≤ (x5_1 : Int) := of_decide_eq_true B6x1_
          have q204 : x5_1 < (l0.length : Int) := of_decide_eq_true B6x1_
          obtain ⟨ad204, A204_2, c204_2, A204_3, c204_3, e204, hx204_0, hx204_1, hx204_2, hx204_3, hx204_4, hx204_5, hl204_2, hi204_2, hl204_3, hi204_3⟩ := at_T82 HR0.out x5_1 p204 q204
          cases e204
          replace hx204_0 := (HB.out.cell (World.block_lt_of_cell? w _ hx204_0)).trans hx204_0
          replace hx204_1 := (HB.out.cell (World.block_lt_of_cell? w _ hx204_1)).trans hx204_1
          replace hx204_2 := (HB.out.cell (World.block_lt_of_cell? w _ hx204_2)).trans hx204_2
          replace hx204_3 := (HB.out.cell (World.block_lt_of_cell? w _ hx204_3)).trans hx204_3
          replace hx204_4 := (HB.out.cell (World.block_lt_of_cell? w _ hx204_4)).trans hx204_4
          replace hx204_5 := (HB.out.cell (World.block_lt_of_cell? w _ hx204_5)).trans hx204_5
          have HR204_2 := Aside0.mk hi204_2
          have HC204_2 := Aside0.mk hl204_2
          clear hi204_2 hl204_2
          have HR204_3 := Aside0.mk hi204_3
          have HC204_3 := Aside0.mk hl204_3
          clear hi204_3 hl204_3
          replace p204 := eq_true p204
          replace q204 := eq_true q204
          have p205 : 0 ≤ (x5_1 : Int) := of_decide_eq_true B6x1_
          have q205 : x5_1 < (l0.length : Int) := of_decide_eq_true B6x1_
          obtain ⟨ad205, A205_2, c205_2, A205_3, c205_3, e205, hx205_0, hx205_1, hx205_2, hx205_3, hx205_4, hx205_5, hl205_2, hi205_2, hl205_3, hi205_3⟩ := at_T82 HR0.out x5_1 p205 q205
          obtain rfl : ad204 = ad205 := B6x9_
          replace hx205_0 := (HB.out.cell (World.block_lt_of_cell? w _ hx205_0)).trans hx205_0
          replace hx205_1 := (HB.out.cell (World.block_lt_of_cell? w _ hx205_1)).trans hx205_1
          replace hx205_2 := (HB.out.cell (World.block_lt_of_cell? w _ hx205_2)).trans hx205_2
          replace hx205_3 := (HB.out.cell (World.block_lt_of_cell? w _ hx205_3)).trans hx205_3
          replace hx205_4 := (HB.out.cell (World.block_lt_of_cell? w _ hx205_4)).trans hx205_4
          replace hx205_5 := (HB.out.cell (World.block_lt_of_cell? w _ hx205_5)).trans hx205_5
          have HR205_2 := Aside0.mk hi205_2
          have HC205_2 := Aside0.mk hl205_2
          clear hi205_2 hl205_2
          have HR205_3 := Aside0.mk hi205_3
          have HC205_3 := Aside0.mk hl205_3
          clear hi205_3 hl205_3
          replace p205 := eq_true p205
          replace q205 := eq_true q205
          have ea_ := Option.some.inj (hx204_2.symm.trans hx205_2)
          injection ea_ with ea_ en_ ec_
          subst ea_
          subst ec_
          clear en_
          have ea_ := Option.some.inj (hx204_3.symm.trans hx205_3)
          injection ea_ with ea_ en_ ec_
          subst ea_
          subst ec_
          clear en_
          have p206 : 0 ≤ (x5_1 : Int) := of_decide_eq_true B6x1_
          have q206 : x5_1 < (l0.length : Int) := of_decide_eq_true B6x1_
          obtain ⟨ad206, A206_2, c206_2, A206_3, c206_3, e206, hx206_0, hx206_1, hx206_2, hx206_3, hx206_4, hx206_5, hl206_2, hi206_2, hl206_3, hi206_3⟩ := at_T82 HR0.out x5_1 p206 q206
          obtain rfl : ad204 = ad206 := B6x10_
          replace hx206_0 := (HB.out.cell (World.block_lt_of_cell? w _ hx206_0)).trans hx206_0
          replace hx206_1 := (HB.out.cell (World.block_lt_of_cell? w _ hx206_1)).trans hx206_1
          replace hx206_2 := (HB.out.cell (World.block_lt_of_cell? w _ hx206_2)).trans hx206_2
          replace hx206_3 := (HB.out.cell (World.block_lt_of_cell? w _ hx206_3)).trans hx206_3
          replace hx206_4 := (HB.out.cell (World.block_lt_of_cell? w _ hx206_4)).trans hx206_4
          replace hx206_5 := (HB.out.cell (World.block_lt_of_cell? w _ hx206_5)).trans hx206_5
          have HR206_2 := Aside0.mk hi206_2
          have HC206_2 := Aside0.mk hl206_2
          clear hi206_2 hl206_2
          have HR206_3 := Aside0.mk hi206_3
          have HC206_3 := Aside0.mk hl206_3
          clear hi206_3 hl206_3
          replace p206 := eq_true p206
          replace q206 := eq_true q206
          have ea_ := Option.some.inj (hx204_2.symm.trans hx206_2)
          injection ea_ with ea_ en_ ec_
          subst ea_
          subst ec_
          clear en_
          have ea_ := Option.some.inj (hx204_3.symm.trans hx206_3)
          injection ea_ with ea_ en_ ec_
          subst ea_
          subst ec_
          clear en_
          go_wp2_with (first | ((with_reducible refine gate_callee (f := 17) rfl ?_); refine goesL_ (some 36) rfl rfl Try.func17 B6x8_ rfl #[.slice A204_2 ((rd_T82 l0 x5_1).f2).length c204_2, .int .i64 (wrap64 ((wrap64 (x1_1 + 1)) + 1))] rfl B6x2_ ?_; (with_reducible refine (laws_heldStringS.calls k1 _ _ ((rd_T82 l0 x5_1).f2) (wrap64 ((wrap64 (x1_1 + 1)) + 1)) t207 _ ?side1 ?side2 A7.out).mono ?_); (case side1 => exact B6x5_); (case side2 => exact HC206_2.out); rintro e w15 ⟨rfl, hb⟩; refine ⟨_, rfl, ?_⟩; replace HB := Aside0.mk (below_step B6x0_ hb); (try clear hb); (try clear hl); have p208 : 0 ≤ (x5_1 : Int) := of_decide_eq_true B6x1_; have q208 : x5_1 < (l0.length : Int) := of_decide_eq_true B6x1_; obtain ⟨ad208, A208_2, c208_2, A208_3, c208_3, e208, hx208_0, hx208_1, hx208_2, hx208_3, hx208_4, hx208_5, hl208_2, hi208_2, hl208_3, hi208_3⟩ := at_T82 HR0.out x5_1 p208 q208; obtain rfl : ad204 = ad208 := B6x13_; replace hx208_0 := (HB.out.cell (World.block_lt_of_cell? w _ hx208_0)).trans hx208_0; replace hx208_1 := (HB.out.cell (World.block_lt_of_cell? w _ hx208_1)).trans hx208_1; replace hx208_2 := (HB.out.cell (World.block_lt_of_cell? w _ hx208_2)).trans hx208_2; replace hx208_3 := (HB.out.cell (World.block_lt_of_cell? w _ hx208_3)).trans hx208_3; replace hx208_4 := (HB.out.cell (World.block_lt_of_cell? w _ hx208_4)).trans hx208_4; replace hx208_5 := (HB.out.cell (World.block_lt_of_cell? w _ hx208_5)).trans hx208_5; have HR208_2 := Aside0.mk hi208_2; have HC208_2 := Aside0.mk hl208_2; clear hi208_2 hl208_2; have HR208_3 := Aside0.mk hi208_3; have HC208_3 := Aside0.mk hl208_3; clear hi208_3 hl208_3; replace p208 := eq_true p208; replace q208 := eq_true q208) | ((with_reducible refine gate_callee (f := 90) rfl ?_); refine goesL_ (some 45) rfl rfl Try.func90 B6x8_ rfl #[.slice A208_3 ((rd_T82 l0 x5_1).f3).length c208_3, .int .i64 t207] rfl B6x2_ ?_; (with_reducible refine (laws_heldIntS.calls k1 _ _ ((rd_T82 l0 x5_1).f3) t207 t209 _ ?side1 ?side2 A10.out).mono ?_); (case side1 => exact B6x6_); (case side2 => exact HC208_3.out); rintro e w' ⟨rfl, ⟨nd, rfl⟩⟩; refine ⟨_, rfl, ?_⟩; have p210 : 0 ≤ (x5_1 : Int) := of_decide_eq_true B6x1_; have q210 : x5_1 < (l0.length : Int) := of_decide_eq_true B6x1_; obtain ⟨ad210, A210_2, c210_2, A210_3, c210_3, e210, hx210_0, hx210_1, hx210_2, hx210_3, hx210_4, hx210_5, hl210_2, hi210_2, hl210_3, hi210_3⟩ := at_T82 HR0.out x5_1 p210 q210; obtain rfl : ad204 = ad210 := (by injection e210); replace hx210_0 := (HB.out.cell (World.block_lt_of_cell? w _ hx210_0)).trans hx210_0; replace hx210_1 := (HB.out.cell (World.block_lt_of_cell? w _ hx210_1)).trans hx210_1; replace hx210_2 := (HB.out.cell (World.block_lt_of_cell? w _ hx210_2)).trans hx210_2; replace hx210_3 := (HB.out.cell (World.block_lt_of_cell? w _ hx210_3)).trans hx210_3; replace hx210_4 := (HB.out.cell (World.block_lt_of_cell? w _ hx210_4)).trans hx210_4; replace hx210_5 := (HB.out.cell (World.block_lt_of_cell? w _ hx210_5)).trans hx210_5; have HR210_2 := Aside0.mk hi210_2; have HC210_2 := Aside0.mk hl210_2; clear hi210_2 hl210_2; have HR210_3 := Aside0.mk hi210_3; have HC210_3 := Aside0.mk hl210_3; clear hi210_3 hl210_3; replace p210 := eq_true p210; replace q210 := eq_true q210; have ea_ := Option.some.inj (hx208_2.symm.trans hx210_2); injection ea_ with ea_ en_ ec_; subst ea_; subst ec_; clear en_; have ea_ := Option.some.inj (hx208_3.symm.trans hx210_3); injection ea_ with ea_ en_ ec_; subst ea_; subst ec_; clear en_; have p211 : 0 ≤ (x5_1 : Int) := of_decide_eq_true B6x1_; have q211 : x5_1 < (l0.length : Int) := of_decide_eq_true B6x1_; obtain ⟨ad211, A211_2, c211_2, A211_3, c211_3, e211, hx211_0, hx211_1, hx211_2, hx211_3, hx211_4, hx211_5, hl211_2, hi211_2, hl211_3, hi211_3⟩ := at_T82 HR0.out x5_1 p211 q211; obtain rfl : ad204 = ad211 := (by injection e211); replace hx211_0 := (HB.out.cell (World.block_lt_of_cell? w _ hx211_0)).trans hx211_0; replace hx211_1 := (HB.out.cell (World.block_lt_of_cell? w _ hx211_1)).trans hx211_1; replace hx211_2 := (HB.out.cell (World.block_lt_of_cell? w _ hx211_2)).trans hx211_2; replace hx211_3 := (HB.out.cell (World.block_lt_of_cell? w _ hx211_3)).trans hx211_3; replace hx211_4 := (HB.out.cell (World.block_lt_of_cell? w _ hx211_4)).trans hx211_4; replace hx211_5 := (HB.out.cell (World.block_lt_of_cell? w _ hx211_5)).trans hx211_5; have HR211_2 := Aside0.mk hi211_2; have HC211_2 := Aside0.mk hl211_2; clear hi211_2 hl211_2; have HR211_3 := Aside0.mk hi211_3; have HC211_3 := Aside0.mk hl211_3; clear hi211_3 hl211_3; replace p211 := eq_true p211; replace q211 := eq_true q211; have ea_ := Option.some.inj (hx208_2.symm.trans hx211_2); injection ea_ with ea_ en_ ec_; subst ea_; subst ec_; clear en_; have ea_ := Option.some.inj (hx208_3.symm.trans hx211_3); injection ea_ with ea_ en_ ec_; subst ea_; subst ec_; clear en_))
          go_roundg k1
          case measure => have := HK1.out; omega
          case rel => exact ⟨(wrap64 ((wrap64 (t209 + 1)) + 1)), (wrap64 (x5_1 + 1)), (be_), (be_), H', ⟨(by have := HK1.out; omega)⟩, ⟨B6x0_⟩⟩
         ·rw [if_neg c14] at H
          have c14b0 := beq_eq_false_iff_ne.mpr c14
          have c14b1 := bne_iff_ne.mpr c14
          obtain rfl := Option.some.inj H
          have p204 : 0 ≤ (x5_1 : Int) := of_decide_eq_true B6x1_
          have q204 : x5_1 < (l0.length : Int) := of_decide_eq_true B6x1_
          obtain ⟨ad204, A204_2, c204_2, A204_3, c204_3, e204, hx204_0, hx204_1, hx204_2, hx204_3, hx204_4, hx204_5, hl204_2, hi204_2, hl204_3, hi204_3⟩ := at_T82 HR0.out x5_1 p204 q204
          cases e204
          replace hx204_0 := (HB.out.cell (World.block_lt_of_cell? w _ hx204_0)).trans hx204_0
          replace hx204_1 := (HB.out.cell (World.block_lt_of_cell? w _ hx204_1)).trans hx204_1
          replace hx204_2 := (HB.out.cell (World.block_lt_of_cell? w _ hx204_2)).trans hx204_2
          replace hx204_3 := (HB.out.cell (World.block_lt_of_cell? w _ hx204_3)).trans hx204_3
          replace hx204_4 := (HB.out.cell (World.block_lt_of_cell? w _ hx204_4)).trans hx204_4
          replace hx204_5 := (HB.out.cell (World.block_lt_of_cell? w _ hx204_5)).trans hx204_5
          have HR204_2 := Aside0.mk hi204_2
          have HC204_2 := Aside0.mk hl204_2
          clear hi204_2 hl204_2
          have HR204_3 := Aside0.mk hi204_3
          have HC204_3 := Aside0.mk hl204_3
          clear hi204_3 hl204_3
          replace p204 := eq_true p204
          replace q204 := eq_true q204
          have p205 : 0 ≤ (x5_1 : Int) := of_decide_eq_true B6x1_
          have q205 : x5_1 < (l0.length : Int) := of_decide_eq_true B6x1_
          obtain ⟨ad205, A205_2, c205_2, A205_3, c205_3, e205, hx205_0, hx205_1, hx205_2, hx205_3, hx205_4, hx205_5, hl205_2, hi205_2, hl205_3, hi205_3⟩ := at_T82 HR0.out x5_1 p205 q205
          obtain rfl : ad204 = ad205 := B6x9_
          replace hx205_0 := (HB.out.cell (World.block_lt_of_cell? w _ hx205_0)).trans hx205_0
          replace hx205_1 := (HB.out.cell (World.block_lt_of_cell? w _ hx205_1)).trans hx205_1
          replace hx205_2 := (HB.out.cell (World.block_lt_of_cell? w _ hx205_2)).trans hx205_2
          replace hx205_3 := (HB.out.cell (World.block_lt_of_cell? w _ hx205_3)).trans hx205_3
          replace hx205_4 := (HB.out.cell (World.block_lt_of_cell? w _ hx205_4)).trans hx205_4
          replace hx205_5 := (HB.out.cell (World.block_lt_of_cell? w _ hx205_5)).trans hx205_5
          have HR205_2 := Aside0.mk hi205_2
          have HC205_2 := Aside0.mk hl205_2
          clear hi205_2 hl205_2
          have HR205_3 := Aside0.mk hi205_3
          have HC205_3 := Aside0.mk hl205_3
          clear hi205_3 hl205_3
          replace p205 := eq_true p205
          replace q205 := eq_true q205
          have ea_ := Option.some.inj (hx204_2.symm.trans hx205_2)
          injection ea_ with ea_ en_ ec_
          subst ea_
          subst ec_
          clear en_
          have ea_ := Option.some.inj (hx204_3.symm.trans hx205_3)
          injection ea_ with ea_ en_ ec_
          subst ea_
          subst ec_
          clear en_
          have p206 : 0 ≤ (x5_1 : Int) := of_decide_eq_true B6x1_
          have q206 : x5_1 < (l0.length : Int) := of_decide_eq_true B6x1_
          obtain ⟨ad206, A206_2, c206_2, A206_3, c206_3, e206, hx206_0, hx206_1, hx206_2, hx206_3, hx206_4, hx206_5, hl206_2, hi206_2, hl206_3, hi206_3⟩ := at_T82 HR0.out x5_1 p206 q206
          obtain rfl : ad204 = ad206 := B6x10_
          replace hx206_0 := (HB.out.cell (World.block_lt_of_cell? w _ hx206_0)).trans hx206_0
          replace hx206_1 := (HB.out.cell (World.block_lt_of_cell? w _ hx206_1)).trans hx206_1
          replace hx206_2 := (HB.out.cell (World.block_lt_of_cell? w _ hx206_2)).trans hx206_2
          replace hx206_3 := (HB.out.cell (World.block_lt_of_cell? w _ hx206_3)).trans hx206_3
          replace hx206_4 := (HB.out.cell (World.block_lt_of_cell? w _ hx206_4)).trans hx206_4
          replace hx206_5 := (HB.out.cell (World.block_lt_of_cell? w _ hx206_5)).trans hx206_5
          have HR206_2 := Aside0.mk hi206_2
          have HC206_2 := Aside0.mk hl206_2
          clear hi206_2 hl206_2
          have HR206_3 := Aside0.mk hi206_3
          have HC206_3 := Aside0.mk hl206_3
          clear hi206_3 hl206_3
          replace p206 := eq_true p206
          replace q206 := eq_true q206
          have ea_ := Option.some.inj (hx204_2.symm.trans hx206_2)
          injection ea_ with ea_ en_ ec_
          subst ea_
          subst ec_
          clear en_
          have ea_ := Option.some.inj (hx204_3.symm.trans hx206_3)
          injection ea_ with ea_ en_ ec_
          subst ea_
          subst ec_
          clear en_
          go_wp2_with (first | ((with_reducible refine gate_callee (f := 17) rfl ?_); refine goesL_ (some 36) rfl rfl Try.func17 B6x8_ rfl #[.slice A204_2 ((rd_T82 l0 x5_1).f2).length c204_2, .int .i64 (wrap64 ((wrap64 (x1_1 + 1)) + 1))] rfl B6x2_ ?_; (with_reducible refine (laws_heldStringS.calls k1 _ _ ((rd_T82 l0 x5_1).f2) (wrap64 ((wrap64 (x1_1 + 1)) + 1)) t207 _ ?side1 ?side2 A7.out).mono ?_); (case side1 => exact B6x5_); (case side2 => exact HC206_2.out); rintro e w16 ⟨rfl, hb⟩; refine ⟨_, rfl, ?_⟩; replace HB := Aside0.mk (below_step B6x0_ hb); (try clear hb); (try clear hl); have p208 : 0 ≤ (x5_1 : Int) := of_decide_eq_true B6x1_; have q208 : x5_1 < (l0.length : Int) := of_decide_eq_true B6x1_; obtain ⟨ad208, A208_2, c208_2, A208_3, c208_3, e208, hx208_0, hx208_1, hx208_2, hx208_3, hx208_4, hx208_5, hl208_2, hi208_2, hl208_3, hi208_3⟩ := at_T82 HR0.out x5_1 p208 q208; obtain rfl : ad204 = ad208 := B6x13_; replace hx208_0 := (HB.out.cell (World.block_lt_of_cell? w _ hx208_0)).trans hx208_0; replace hx208_1 := (HB.out.cell (World.block_lt_of_cell? w _ hx208_1)).trans hx208_1; replace hx208_2 := (HB.out.cell (World.block_lt_of_cell? w _ hx208_2)).trans hx208_2; replace hx208_3 := (HB.out.cell (World.block_lt_of_cell? w _ hx208_3)).trans hx208_3; replace hx208_4 := (HB.out.cell (World.block_lt_of_cell? w _ hx208_4)).trans hx208_4; replace hx208_5 := (HB.out.cell (World.block_lt_of_cell? w _ hx208_5)).trans hx208_5; have HR208_2 := Aside0.mk hi208_2; have HC208_2 := Aside0.mk hl208_2; clear hi208_2 hl208_2; have HR208_3 := Aside0.mk hi208_3; have HC208_3 := Aside0.mk hl208_3; clear hi208_3 hl208_3; replace p208 := eq_true p208; replace q208 := eq_true q208) | ((with_reducible refine gate_callee (f := 90) rfl ?_); refine goesL_ (some 45) rfl rfl Try.func90 B6x8_ rfl #[.slice A208_3 ((rd_T82 l0 x5_1).f3).length c208_3, .int .i64 t207] rfl B6x2_ ?_; (with_reducible refine (laws_heldIntS.calls k1 _ _ ((rd_T82 l0 x5_1).f3) t207 t209 _ ?side1 ?side2 A10.out).mono ?_); (case side1 => exact B6x6_); (case side2 => exact HC208_3.out); rintro e w' ⟨rfl, ⟨nd, rfl⟩⟩; refine ⟨_, rfl, ?_⟩; have p210 : 0 ≤ (x5_1 : Int) := of_decide_eq_true B6x1_; have q210 : x5_1 < (l0.length : Int) := of_decide_eq_true B6x1_; obtain ⟨ad210, A210_2, c210_2, A210_3, c210_3, e210, hx210_0, hx210_1, hx210_2, hx210_3, hx210_4, hx210_5, hl210_2, hi210_2, hl210_3, hi210_3⟩ := at_T82 HR0.out x5_1 p210 q210; obtain rfl : ad204 = ad210 := (by injection e210); replace hx210_0 := (HB.out.cell (World.block_lt_of_cell? w _ hx210_0)).trans hx210_0; replace hx210_1 := (HB.out.cell (World.block_lt_of_cell? w _ hx210_1)).trans hx210_1; replace hx210_2 := (HB.out.cell (World.block_lt_of_cell? w _ hx210_2)).trans hx210_2; replace hx210_3 := (HB.out.cell (World.block_lt_of_cell? w _ hx210_3)).trans hx210_3; replace hx210_4 := (HB.out.cell (World.block_lt_of_cell? w _ hx210_4)).trans hx210_4; replace hx210_5 := (HB.out.cell (World.block_lt_of_cell? w _ hx210_5)).trans hx210_5; have HR210_2 := Aside0.mk hi210_2; have HC210_2 := Aside0.mk hl210_2; clear hi210_2 hl210_2; have HR210_3 := Aside0.mk hi210_3; have HC210_3 := Aside0.mk hl210_3; clear hi210_3 hl210_3; replace p210 := eq_true p210; replace q210 := eq_true q210; have ea_ := Option.some.inj (hx208_2.symm.trans hx210_2); injection ea_ with ea_ en_ ec_; subst ea_; subst ec_; clear en_; have ea_ := Option.some.inj (hx208_3.symm.trans hx210_3); injection ea_ with ea_ en_ ec_; subst ea_; subst ec_; clear en_; have p211 : 0 ≤ (x5_1 : Int) := of_decide_eq_true B6x1_; have q211 : x5_1 < (l0.length : Int) := of_decide_eq_true B6x1_; obtain ⟨ad211, A211_2, c211_2, A211_3, c211_3, e211, hx211_0, hx211_1, hx211_2, hx211_3, hx211_4, hx211_5, hl211_2, hi211_2, hl211_3, hi211_3⟩ := at_T82 HR0.out x5_1 p211 q211; obtain rfl : ad204 = ad211 := (by injection e211); replace hx211_0 := (HB.out.cell (World.block_lt_of_cell? w _ hx211_0)).trans hx211_0; replace hx211_1 := (HB.out.cell (World.block_lt_of_cell? w _ hx211_1)).trans hx211_1; replace hx211_2 := (HB.out.cell (World.block_lt_of_cell? w _ hx211_2)).trans hx211_2; replace hx211_3 := (HB.out.cell (World.block_lt_of_cell? w _ hx211_3)).trans hx211_3; replace hx211_4 := (HB.out.cell (World.block_lt_of_cell? w _ hx211_4)).trans hx211_4; replace hx211_5 := (HB.out.cell (World.block_lt_of_cell? w _ hx211_5)).trans hx211_5; have HR211_2 := Aside0.mk hi211_2; have HC211_2 := Aside0.mk hl211_2; clear hi211_2 hl211_2; have HR211_3 := Aside0.mk hi211_3; have HC211_3 := Aside0.mk hl211_3; clear hi211_3 hl211_3; replace p211 := eq_true p211; replace q211 := eq_true q211; have ea_ := Option.some.inj (hx208_2.symm.trans hx211_2); injection ea_ with ea_ en_ ec_; subst ea_; subst ec_; clear en_; have ea_ := Option.some.inj (hx208_3.symm.trans hx211_3); injection ea_ with ea_ en_ ec_; subst ea_; subst ec_; clear en_))
          go_ret
          exact ⟨B6x3_, B6x0_⟩
        ·rw [if_neg c13] at H
         have c13b0 := beq_eq_false_iff_ne.mpr c13
         have c13b1 := bne_iff_ne.mpr c13
         obtain rfl := Option.some.inj H
         have p204 : 0 ≤ (x5_1 : Int) := of_decide_eq_true B6x1_
         have q204 : x5_1 < (l0.length : Int) := of_decide_eq_true B6x1_
         obtain ⟨ad204, A204_2, c204_2, A204_3, c204_3, e204, hx204_0, hx204_1, hx204_2, hx204_3, hx204_4, hx204_5, hl204_2, hi204_2, hl204_3, hi204_3⟩ := at_T82 HR0.out x5_1 p204 q204
         cases e204
         replace hx204_0 := (HB.out.cell (World.block_lt_of_cell? w _ hx204_0)).trans hx204_0
         replace hx204_1 := (HB.out.cell (World.block_lt_of_cell? w _ hx204_1)).trans hx204_1
         replace hx204_2 := (HB.out.cell (World.block_lt_of_cell? w _ hx204_2)).trans hx204_2
         replace hx204_3 := (HB.out.cell (World.block_lt_of_cell? w _ hx204_3)).trans hx204_3
         replace hx204_4 := (HB.out.cell (World.block_lt_of_cell? w _ hx204_4)).trans hx204_4
         replace hx204_5 := (HB.out.cell (World.block_lt_of_cell? w _ hx204_5)).trans hx204_5
         have HR204_2 := Aside0.mk hi204_2
         have HC204_2 := Aside0.mk hl204_2
         clear hi204_2 hl204_2
         have HR204_3 := Aside0.mk hi204_3
         have HC204_3 := Aside0.mk hl204_3
         clear hi204_3 hl204_3
         replace p204 := eq_true p204
         replace q204 := eq_true q204
         have p205 : 0 ≤ (x5_1 : Int) := of_decide_eq_true B6x1_
         have q205 : x5_1 < (l0.length : Int) := of_decide_eq_true B6x1_
         obtain ⟨ad205, A205_2, c205_2, A205_3, c205_3, e205, hx205_0, hx205_1, hx205_2, hx205_3, hx205_4, hx205_5, hl205_2, hi205_2, hl205_3, hi205_3⟩ := at_T82 HR0.out x5_1 p205 q205
         obtain rfl : ad204 = ad205 := B6x9_
         replace hx205_0 := (HB.out.cell (World.block_lt_of_cell? w _ hx205_0)).trans hx205_0
         replace hx205_1 := (HB.out.cell (World.block_lt_of_cell? w _ hx205_1)).trans hx205_1
         replace hx205_2 := (HB.out.cell (World.block_lt_of_cell? w _ hx205_2)).trans hx205_2
         replace hx205_3 := (HB.out.cell (World.block_lt_of_cell? w _ hx205_3)).trans hx205_3
         replace hx205_4 := (HB.out.cell (World.block_lt_of_cell? w _ hx205_4)).trans hx205_4
         replace hx205_5 := (HB.out.cell (World.block_lt_of_cell? w _ hx205_5)).trans hx205_5
         have HR205_2 := Aside0.mk hi205_2
         have HC205_2 := Aside0.mk hl205_2
         clear hi205_2 hl205_2
         have HR205_3 := Aside0.mk hi205_3
         have HC205_3 := Aside0.mk hl205_3
         clear hi205_3 hl205_3
         replace p205 := eq_true p205
         replace q205 := eq_true q205
         have ea_ := Option.some.inj (hx204_2.symm.trans hx205_2)
         injection ea_ with ea_ en_ ec_
         subst ea_
         subst ec_
         clear en_
         have ea_ := Option.some.inj (hx204_3.symm.trans hx205_3)
         injection ea_ with ea_ en_ ec_
         subst ea_
         subst ec_
         clear en_
         have p206 : 0 ≤ (x5_1 : Int) := of_decide_eq_true B6x1_
         have q206 : x5_1 < (l0.length : Int) := of_decide_eq_true B6x1_
         obtain ⟨ad206, A206_2, c206_2, A206_3, c206_3, e206, hx206_0, hx206_1, hx206_2, hx206_3, hx206_4, hx206_5, hl206_2, hi206_2, hl206_3, hi206_3⟩ := at_T82 HR0.out x5_1 p206 q206
         obtain rfl : ad204 = ad206 := B6x10_
         replace hx206_0 := (HB.out.cell (World.block_lt_of_cell? w _ hx206_0)).trans hx206_0
         replace hx206_1 := (HB.out.cell (World.block_lt_of_cell? w _ hx206_1)).trans hx206_1
         replace hx206_2 := (HB.out.cell (World.block_lt_of_cell? w _ hx206_2)).trans hx206_2
         replace hx206_3 := (HB.out.cell (World.block_lt_of_cell? w _ hx206_3)).trans hx206_3
         replace hx206_4 := (HB.out.cell (World.block_lt_of_cell? w _ hx206_4)).trans hx206_4
         replace hx206_5 := (HB.out.cell (World.block_lt_of_cell? w _ hx206_5)).trans hx206_5
         have HR206_2 := Aside0.mk hi206_2
         have HC206_2 := Aside0.mk hl206_2
         clear hi206_2 hl206_2
         have HR206_3 := Aside0.mk hi206_3
         have HC206_3 := Aside0.mk hl206_3
         clear hi206_3 hl206_3
         replace p206 := eq_true p206
         replace q206 := eq_true q206
         have ea_ := Option.some.inj (hx204_2.symm.trans hx206_2)
         injection ea_ with ea_ en_ ec_
         subst ea_
         subst ec_
         clear en_
         have ea_ := Option.some.inj (hx204_3.symm.trans hx206_3)
         injection ea_ with ea_ en_ ec_
         subst ea_
         subst ec_
         clear en_
         go_wp2_with (first | ((with_reducible refine gate_callee (f := 17) rfl ?_); refine goesL_ (some 36) rfl rfl Try.func17 B6x8_ rfl #[.slice A204_2 ((rd_T82 l0 x5_1).f2).length c204_2, .int .i64 (wrap64 ((wrap64 (x1_1 + 1)) + 1))] rfl B6x2_ ?_; (with_reducible refine (laws_heldStringS.calls k1 _ _ ((rd_T82 l0 x5_1).f2) (wrap64 ((wrap64 (x1_1 + 1)) + 1)) t207 _ ?side1 ?side2 A7.out).mono ?_); (case side1 => exact B6x5_); (case side2 => exact HC206_2.out); rintro e w17 ⟨rfl, hb⟩; refine ⟨_, rfl, ?_⟩; replace HB := Aside0.mk (below_step B6x0_ hb); (try clear hb); (try clear hl); have p208 : 0 ≤ (x5_1 : Int) := of_decide_eq_true B6x1_; have q208 : x5_1 < (l0.length : Int) := of_decide_eq_true B6x1_; obtain ⟨ad208, A208_2, c208_2, A208_3, c208_3, e208, hx208_0, hx208_1, hx208_2, hx208_3, hx208_4, hx208_5, hl208_2, hi208_2, hl208_3, hi208_3⟩ := at_T82 HR0.out x5_1 p208 q208; obtain rfl : ad204 = ad208 := B6x13_; replace hx208_0 := (HB.out.cell (World.block_lt_of_cell? w _ hx208_0)).trans hx208_0; replace hx208_1 := (HB.out.cell (World.block_lt_of_cell? w _ hx208_1)).trans hx208_1; replace hx208_2 := (HB.out.cell (World.block_lt_of_cell? w _ hx208_2)).trans hx208_2; replace hx208_3 := (HB.out.cell (World.block_lt_of_cell? w _ hx208_3)).trans hx208_3; replace hx208_4 := (HB.out.cell (World.block_lt_of_cell? w _ hx208_4)).trans hx208_4; replace hx208_5 := (HB.out.cell (World.block_lt_of_cell? w _ hx208_5)).trans hx208_5; have HR208_2 := Aside0.mk hi208_2; have HC208_2 := Aside0.mk hl208_2; clear hi208_2 hl208_2; have HR208_3 := Aside0.mk hi208_3; have HC208_3 := Aside0.mk hl208_3; clear hi208_3 hl208_3; replace p208 := eq_true p208; replace q208 := eq_true q208) | ((with_reducible refine gate_callee (f := 90) rfl ?_); refine goesL_ (some 45) rfl rfl Try.func90 B6x8_ rfl #[.slice A208_3 ((rd_T82 l0 x5_1).f3).length c208_3, .int .i64 t207] rfl B6x2_ ?_; (with_reducible refine (laws_heldIntS.calls k1 _ _ ((rd_T82 l0 x5_1).f3) t207 t209 _ ?side1 ?side2 A10.out).mono ?_); (case side1 => exact B6x6_); (case side2 => exact HC208_3.out); rintro e w' ⟨rfl, ⟨nd, rfl⟩⟩; refine ⟨_, rfl, ?_⟩; have p210 : 0 ≤ (x5_1 : Int) := of_decide_eq_true B6x1_; have q210 : x5_1 < (l0.length : Int) := of_decide_eq_true B6x1_; obtain ⟨ad210, A210_2, c210_2, A210_3, c210_3, e210, hx210_0, hx210_1, hx210_2, hx210_3, hx210_4, hx210_5, hl210_2, hi210_2, hl210_3, hi210_3⟩ := at_T82 HR0.out x5_1 p210 q210; obtain rfl : ad204 = ad210 := (by injection e210); replace hx210_0 := (HB.out.cell (World.block_lt_of_cell? w _ hx210_0)).trans hx210_0; replace hx210_1 := (HB.out.cell (World.block_lt_of_cell? w _ hx210_1)).trans hx210_1; replace hx210_2 := (HB.out.cell (World.block_lt_of_cell? w _ hx210_2)).trans hx210_2; replace hx210_3 := (HB.out.cell (World.block_lt_of_cell? w _ hx210_3)).trans hx210_3; replace hx210_4 := (HB.out.cell (World.block_lt_of_cell? w _ hx210_4)).trans hx210_4; replace hx210_5 := (HB.out.cell (World.block_lt_of_cell? w _ hx210_5)).trans hx210_5; have HR210_2 := Aside0.mk hi210_2; have HC210_2 := Aside0.mk hl210_2; clear hi210_2 hl210_2; have HR210_3 := Aside0.mk hi210_3; have HC210_3 := Aside0.mk hl210_3; clear hi210_3 hl210_3; replace p210 := eq_true p210; replace q210 := eq_true q210; have ea_ := Option.some.inj (hx208_2.symm.trans hx210_2); injection ea_ with ea_ en_ ec_; subst ea_; subst ec_; clear en_; have ea_ := Option.some.inj (hx208_3.symm.trans hx210_3); injection ea_ with ea_ en_ ec_; subst ea_; subst ec_; clear en_))
         go_ret
         exact ⟨B6x3_, B6x0_⟩
     ·rw [if_neg c6] at H
      have c6b0 := beq_eq_false_iff_ne.mpr c6
      have c6b1 := bne_iff_ne.mpr c6
      obtain rfl := Option.some.inj H
      have p204 : 0 ≤ (x5_1 : Int) := of_decide_eq_true B6x1_
      have q204 : x5_1 < (l0.length : Int) := of_decide_eq_true B6x1_
      obtain ⟨ad204, A204_2, c204_2, A204_3, c204_3, e204, hx204_0, hx204_1, hx204_2, hx204_3, hx204_4, hx204_5, hl204_2, hi204_2, hl204_3, hi204_3⟩ := at_T82 HR0.out x5_1 p204 q204
      cases e204
      replace hx204_0 := (HB.out.cell (World.block_lt_of_cell? w _ hx204_0)).trans hx204_0
      replace hx204_1 := (HB.out.cell (World.block_lt_of_cell? w _ hx204_1)).trans hx204_1
      replace hx204_2 := (HB.out.cell (World.block_lt_of_cell? w _ hx204_2)).trans hx204_2
      replace hx204_3 := (HB.out.cell (World.block_lt_of_cell? w _ hx204_3)).trans hx204_3
      replace hx204_4 := (HB.out.cell (World.block_lt_of_cell? w _ hx204_4)).trans hx204_4
      replace hx204_5 := (HB.out.cell (World.block_lt_of_cell? w _ hx204_5)).trans hx204_5
      have HR204_2 := Aside0.mk hi204_2
      have HC204_2 := Aside0.mk hl204_2
      clear hi204_2 hl204_2
      have HR204_3 := Aside0.mk hi204_3
      have HC204_3 := Aside0.mk hl204_3
      clear hi204_3 hl204_3
      replace p204 := eq_true p204
      replace q204 := eq_true q204
      have p205 : 0 ≤ (x5_1 : Int) := of_decide_eq_true B6x1_
      have q205 : x5_1 < (l0.length : Int) := of_decide_eq_true B6x1_
      obtain ⟨ad205, A205_2, c205_2, A205_3, c205_3, e205, hx205_0, hx205_1, hx205_2, hx205_3, hx205_4, hx205_5, hl205_2, hi205_2, hl205_3, hi205_3⟩ := at_T82 HR0.out x5_1 p205 q205
      obtain rfl : ad204 = ad205 := B6x9_
      replace hx205_0 := (HB.out.cell (World.block_lt_of_cell? w _ hx205_0)).trans hx205_0
      replace hx205_1 := (HB.out.cell (World.block_lt_of_cell? w _ hx205_1)).trans hx205_1
      replace hx205_2 := (HB.out.cell (World.block_lt_of_cell? w _ hx205_2)).trans hx205_2
      replace hx205_3 := (HB.out.cell (World.block_lt_of_cell? w _ hx205_3)).trans hx205_3
      replace hx205_4 := (HB.out.cell (World.block_lt_of_cell? w _ hx205_4)).trans hx205_4
      replace hx205_5 := (HB.out.cell (World.block_lt_of_cell? w _ hx205_5)).trans hx205_5
      have HR205_2 := Aside0.mk hi205_2
      have HC205_2 := Aside0.mk hl205_2
      clear hi205_2 hl205_2
      have HR205_3 := Aside0.mk hi205_3
      have HC205_3 := Aside0.mk hl205_3
      clear hi205_3 hl205_3
      replace p205 := eq_true p205
      replace q205 := eq_true q205
      have ea_ := Option.some.inj (hx204_2.symm.trans hx205_2)
      injection ea_ with ea_ en_ ec_
      subst ea_
      subst ec_
      clear en_
      have ea_ := Option.some.inj (hx204_3.symm.trans hx205_3)
      injection ea_ with ea_ en_ ec_
      subst ea_
      subst ec_
      clear en_
      go_wp2
      go_ret
      exact ⟨B6x3_, B6x0_⟩
    ·rw [if_neg c5] at H
     have c5b0 := beq_eq_false_iff_ne.mpr c5
     have c5b1 := bne_iff_ne.mpr c5
     obtain rfl := Option.some.inj H
     have p204 : 0 ≤ (x5_1 : Int) := of_decide_eq_true B6x1_
     have q204 : x5_1 < (l0.length : Int) := of_decide_eq_true B6x1_
     obtain ⟨ad204, A204_2, c204_2, A204_3, c204_3, e204, hx204_0, hx204_1, hx204_2, hx204_3, hx204_4, hx204_5, hl204_2, hi204_2, hl204_3, hi204_3⟩ := at_T82 HR0.out x5_1 p204 q204
     cases e204
     replace hx204_0 := (HB.out.cell (World.block_lt_of_cell? w _ hx204_0)).trans hx204_0
     replace hx204_1 := (HB.out.cell (World.block_lt_of_cell? w _ hx204_1)).trans hx204_1
     replace hx204_2 := (HB.out.cell (World.block_lt_of_cell? w _ hx204_2)).trans hx204_2
     replace hx204_3 := (HB.out.cell (World.block_lt_of_cell? w _ hx204_3)).trans hx204_3
     replace hx204_4 := (HB.out.cell (World.block_lt_of_cell? w _ hx204_4)).trans hx204_4
     replace hx204_5 := (HB.out.cell (World.block_lt_of_cell? w _ hx204_5)).trans hx204_5
     have HR204_2 := Aside0.mk hi204_2
     have HC204_2 := Aside0.mk hl204_2
     clear hi204_2 hl204_2
     have HR204_3 := Aside0.mk hi204_3
     have HC204_3 := Aside0.mk hl204_3
     clear hi204_3 hl204_3
     replace p204 := eq_true p204
     replace q204 := eq_true q204
     go_wp2
     go_ret
     exact ⟨B6x3_, B6x0_⟩
   ·rw [if_neg c3] at H
    have c3b0 : decide (x5_1 < (l0.length : Int)) = false := decide_eq_false c3
    clear c3
    obtain rfl := Option.some.inj H
    go_wp2
    go_ret
    exact ⟨B6x3_, B6x0_⟩

/-! ### spec_l01In: function 69 -/
def spec_l01In.f (a0 : Int) (a1 : Int) (a2 : Int) : Option (Bool) := if a0 ≥ a1 then (some (decide (a0 ≤ a2))) else (some false)
set_option maxHeartbeats 8000000 in
set_option maxRecDepth 100000 in
theorem spec_l01In.calls (a0 : Int) (a1 : Int) (a2 : Int) (r : Bool) (w : World) (h : spec_l01In.f a0 a1 a2 = some r) :
  Calls Try.prog 69 #[.int .i64 a0, .int .i64 a1, .int .i64 a2] w fun e w' => e = .returned (.bool r) ∧ Drawn0 w w' := by
 have H : (if a0 ≥ a1 then (some (decide (a0 ≤ a2))) else (some false)) = some r := h
 clear h
 by_cases c4 : a0 ≥ a1
 ·rw [if_pos c4] at H
  have c4b0 : decide (a1 ≤ a0) = true := decide_eq_true c4
  clear c4
  obtain rfl := Option.some.inj H
  go_enter Try.func69, Try.ntmps69
  go_wp2
  go_ret
  exact ⟨B6x12_, B6x11_⟩
 ·rw [if_neg c4] at H
  have c4b0 : decide (a1 ≤ a0) = false := decide_eq_false c4
  clear c4
  obtain rfl := Option.some.inj H
  go_enter Try.func69, Try.ntmps69
  go_wp2
  go_ret
  exact ⟨B6x12_, B6x11_⟩

/-! ### spec_DgramOk: function 95 -/
def spec_DgramOk.f (a0_0 : Int) (a0_1 : Int) (a0_2 : Int) (a0_3 : Int) (a0_4 : Bool) (a0_5 : ByteArray) : Option (Bool) := (spec_l01In.f a0_0 1 99).bind fun t213 => (if t213 = true then ((spec_l01In.f a0_1 1 99).bind fun t214 => (if t214 = true then ((spec_l01In.f a0_2 0 65535).bind fun t215 => (if t215 = true then ((spec_l01In.f a0_3 0 160).bind fun t216 => (if t216 = true then (if (Int.tmod a0_3 8) = 0 then ((spec_l01In.f (a0_5.size : Int) 1 (wrap64 (160 - a0_3))).bind fun t217 => (if t217 = true then (if a0_4 = true then (some (((a0_5.size : Int) % 8) == 0)) else (some true)) else (some false))) else (some false)) else (some false))) else (some false))) else (some false))) else (some false))
set_option maxHeartbeats 8000000 in
set_option maxRecDepth 100000 in
theorem spec_DgramOk.calls (a0_0 : Int) (a0_1 : Int) (a0_2 : Int) (a0_3 : Int) (a0_4 : Bool) (a0_5 : ByteArray) (r : Bool) (w : World) (h : spec_DgramOk.f a0_0 a0_1 a0_2 a0_3 a0_4 a0_5 = some r) :
  Calls Try.prog 95 #[.agg #[.int .i64 a0_0, .int .i64 a0_1, .int .i64 a0_2, .int .i64 a0_3, .bool a0_4, .string a0_5]] w fun e w' => e = .returned (.bool r) ∧ Below w.heap.size w w' := by
 have hu62 := Try.underlying62
 have HB := Aside0.mk (Below.refl w.heap.size w)
 have H : ((spec_l01In.f a0_0 1 99).bind fun t213 => (if t213 = true then ((spec_l01In.f a0_1 1 99).bind fun t214 => (if t214 = true then ((spec_l01In.f a0_2 0 65535).bind fun t215 => (if t215 = true then ((spec_l01In.f a0_3 0 160).bind fun t216 => (if t216 = true then (if (Int.tmod a0_3 8) = 0 then ((spec_l01In.f (a0_5.size : Int) 1 (wrap64 (160 - a0_3))).bind fun t217 => (if t217 = true then (if a0_4 = true then (some (((a0_5.size : Int) % 8) == 0)) else (some true)) else (some false))) else (some false)) else (some false))) else (some false))) else (some false))) else (some false))) = some r := h
 clear h
 replace H := bsi H
 obtain ⟨t213, A2, H⟩ := H
 (try dsimp only at H)
 by_cases c3 : t213 = true
 ·subst c3
  rw [if_pos rfl] at H
  replace H := bsi H
  obtain ⟨t214, A4, H⟩ := H
  (try dsimp only at H)
  by_cases c5 : t214 = true
  ·subst c5
   rw [if_pos rfl] at H
   replace H := bsi H
   obtain ⟨t215, A6, H⟩ := H
   (try dsimp only at H)
   by_cases c7 : t215 = true
   ·subst c7
    rw [if_pos rfl] at H
    replace H := bsi H
    obtain ⟨t216, A8, H⟩ := H
    (try dsimp only at H)
    by_cases c9 : t216 = true
    ·subst c9
     rw [if_pos rfl] at H
     by_cases c10 : (Int.tmod a0_3 8) = 0
     ·rw [if_pos c10] at H
      have c10b0 := beq_iff_eq.mpr c10
      have c10b1 := bne_eq_false_iff_eq.mpr c10
      clear c10
      replace H := bsi H
      obtain ⟨t217, A11, H⟩ := H
      (try dsimp only at H)
      by_cases c12 : t217 = true
      ·subst c12
       rw [if_pos rfl] at H
       by_cases c13 : a0_4 = true
       ·subst c13
        rw [if_pos rfl] at H
        obtain rfl := Option.some.inj H
        go_enter Try.func95, Try.ntmps95
        go_wp2_with (first | ((with_reducible refine gate_dst (N := 1) rfl ?_); (try (refine gate_guard (by rfl) ?_; dsimp only)); refine box_event ?hg (N := 1) ?hd (cs := #[.int .i64 a0_0, .int .i64 a0_1, .int .i64 a0_2, .int .i64 a0_3, .bool true, .string a0_5]) (t := 62) ?hr ?_; (case hd => rfl); (case hg => rfl); (case hr => exact B6x7_); intro gb212 hg w14 hbox hb; have BK212 := Aside0.mk (hbox); have GW212 := Aside0.mk ((bs hg (below_size HB.out))); have GE212 := Aside0.mk ((bs hg (below_size HB.out))); replace HB := Aside0.mk (below_step B6x0_ hb); clear hb hbox hg; obtain ⟨hcz15_0, hcz15_1, hcz15_2, hcz15_3, hcz15_4, hcz15_5⟩ := cl6 BK212.out; obtain ⟨hfz15_0, hfz15_1, hfz15_2, hfz15_3, hfz15_4, hfz15_5⟩ := fr6 BK212.out) | ((with_reducible refine gate_callee (f := 69) rfl ?_); refine goesL_ (some 5) rfl rfl Try.func69 B6x8_ rfl #[.int .i64 a0_0, .int .i64 1, .int .i64 99] rfl B6x2_ ?_; (with_reducible refine (spec_l01In.calls a0_0 1 99 true _ A2.out).mono ?_); rintro e w' ⟨rfl, ⟨nd, rfl⟩⟩; refine ⟨_, rfl, ?_⟩) | (go_at_call 69; (with_reducible refine (spec_l01In.calls a0_1 1 99 true _ A4.out).mono ?_); rintro e w' ⟨rfl, ⟨nd, rfl⟩⟩) | (go_at_call 69; (with_reducible refine (spec_l01In.calls a0_2 0 65535 true _ A6.out).mono ?_); rintro e w' ⟨rfl, ⟨nd, rfl⟩⟩) | (go_at_call 69; (with_reducible refine (spec_l01In.calls a0_3 0 160 true _ A8.out).mono ?_); rintro e w' ⟨rfl, ⟨nd, rfl⟩⟩) | (go_at_call 69; (with_reducible refine (spec_l01In.calls (a0_5.size : Int) 1 (wrap64 (160 - a0_3)) true _ A11.out).mono ?_); rintro e w' ⟨rfl, ⟨nd, rfl⟩⟩))
        go_ret
        exact ⟨B6x3_, B6x4_⟩
       ·replace c13 := Bool.eq_false_iff.mpr c13
        subst c13
        rw [if_neg (show ¬ (false = true) by decide)] at H
        obtain rfl := Option.some.inj H
        go_enter Try.func95, Try.ntmps95
        go_wp2_with (first | ((with_reducible refine gate_dst (N := 1) rfl ?_); (try (refine gate_guard (by rfl) ?_; dsimp only)); refine box_event ?hg (N := 1) ?hd (cs := #[.int .i64 a0_0, .int .i64 a0_1, .int .i64 a0_2, .int .i64 a0_3, .bool false, .string a0_5]) (t := 62) ?hr ?_; (case hd => rfl); (case hg => rfl); (case hr => exact B6x7_); intro gb212 hg w16 hbox hb; have BK212 := Aside0.mk (hbox); have GW212 := Aside0.mk ((bs hg (below_size HB.out))); have GE212 := Aside0.mk ((bs hg (below_size HB.out))); replace HB := Aside0.mk (below_step B6x0_ hb); clear hb hbox hg; obtain ⟨hcz17_0, hcz17_1, hcz17_2, hcz17_3, hcz17_4, hcz17_5⟩ := cl6 BK212.out; obtain ⟨hfz17_0, hfz17_1, hfz17_2, hfz17_3, hfz17_4, hfz17_5⟩ := fr6 BK212.out) | ((with_reducible refine gate_callee (f := 69) rfl ?_); refine goesL_ (some 5) rfl rfl Try.func69 B6x8_ rfl #[.int .i64 a0_0, .int .i64 1, .int .i64 99] rfl B6x2_ ?_; (with_reducible refine (spec_l01In.calls a0_0 1 99 true _ A2.out).mono ?_); rintro e w' ⟨rfl, ⟨nd, rfl⟩⟩; refine ⟨_, rfl, ?_⟩) | (go_at_call 69; (with_reducible refine (spec_l01In.calls a0_1 1 99 true _ A4.out).mono ?_); rintro e w' ⟨rfl, ⟨nd, rfl⟩⟩) | (go_at_call 69; (with_reducible refine (spec_l01In.calls a0_2 0 65535 true _ A6.out).mono ?_); rintro e w' ⟨rfl, ⟨nd, rfl⟩⟩) | (go_at_call 69; (with_reducible refine (spec_l01In.calls a0_3 0 160 true _ A8.out).mono ?_); rintro e w' ⟨rfl, ⟨nd, rfl⟩⟩) | (go_at_call 69; (with_reducible refine (spec_l01In.calls (a0_5.size : Int) 1 (wrap64 (160 - a0_3)) true _ A11.out).mono ?_); rintro e w' ⟨rfl, ⟨nd, rfl⟩⟩))
        go_ret
        exact ⟨B6x3_, B6x4_⟩
      ·replace c12 := Bool.eq_false_iff.mpr c12
       subst c12
       rw [if_neg (show ¬ (false = true) by decide)] at H
       obtain rfl := Option.some.inj H
       go_enter Try.func95, Try.ntmps95
       go_wp2_with (first | ((with_reducible refine gate_dst (N := 1) rfl ?_); (try (refine gate_guard (by rfl) ?_; dsimp only)); refine box_event ?hg (N := 1) ?hd (cs := #[.int .i64 a0_0, .int .i64 a0_1, .int .i64 a0_2, .int .i64 a0_3, .bool a0_4, .string a0_5]) (t := 62) ?hr ?_; (case hd => rfl); (case hg => rfl); (case hr => exact B6x7_); intro gb212 hg w18 hbox hb; have BK212 := Aside0.mk (hbox); have GW212 := Aside0.mk ((bs hg (below_size HB.out))); have GE212 := Aside0.mk ((bs hg (below_size HB.out))); replace HB := Aside0.mk (below_step B6x0_ hb); clear hb hbox hg; obtain ⟨hcz19_0, hcz19_1, hcz19_2, hcz19_3, hcz19_4, hcz19_5⟩ := cl6 BK212.out; obtain ⟨hfz19_0, hfz19_1, hfz19_2, hfz19_3, hfz19_4, hfz19_5⟩ := fr6 BK212.out) | ((with_reducible refine gate_callee (f := 69) rfl ?_); refine goesL_ (some 5) rfl rfl Try.func69 B6x8_ rfl #[.int .i64 a0_0, .int .i64 1, .int .i64 99] rfl B6x2_ ?_; (with_reducible refine (spec_l01In.calls a0_0 1 99 true _ A2.out).mono ?_); rintro e w' ⟨rfl, ⟨nd, rfl⟩⟩; refine ⟨_, rfl, ?_⟩) | (go_at_call 69; (with_reducible refine (spec_l01In.calls a0_1 1 99 true _ A4.out).mono ?_); rintro e w' ⟨rfl, ⟨nd, rfl⟩⟩) | (go_at_call 69; (with_reducible refine (spec_l01In.calls a0_2 0 65535 true _ A6.out).mono ?_); rintro e w' ⟨rfl, ⟨nd, rfl⟩⟩) | (go_at_call 69; (with_reducible refine (spec_l01In.calls a0_3 0 160 true _ A8.out).mono ?_); rintro e w' ⟨rfl, ⟨nd, rfl⟩⟩) | (go_at_call 69; (with_reducible refine (spec_l01In.calls (a0_5.size : Int) 1 (wrap64 (160 - a0_3)) false _ A11.out).mono ?_); rintro e w' ⟨rfl, ⟨nd, rfl⟩⟩))
       go_ret
       exact ⟨B6x3_, B6x4_⟩
     ·rw [if_neg c10] at H
      have c10b0 := beq_eq_false_iff_ne.mpr c10
      have c10b1 := bne_iff_ne.mpr c10
      obtain rfl := Option.some.inj H
      go_enter Try.func95, Try.ntmps95
      go_wp2_with (first | ((with_reducible refine gate_dst (N := 1) rfl ?_); (try (refine gate_guard (by rfl) ?_; dsimp only)); refine box_event ?hg (N := 1) ?hd (cs := #[.int .i64 a0_0, .int .i64 a0_1, .int .i64 a0_2, .int .i64 a0_3, .bool a0_4, .string a0_5]) (t := 62) ?hr ?_; (case hd => rfl); (case hg => rfl); (case hr => exact B6x7_); intro gb212 hg w20 hbox hb; have BK212 := Aside0.mk (hbox); have GW212 := Aside0.mk ((bs hg (below_size HB.out))); have GE212 := Aside0.mk ((bs hg (below_size HB.out))); replace HB := Aside0.mk (below_step B6x0_ hb); clear hb hbox hg; obtain ⟨hcz21_0, hcz21_1, hcz21_2, hcz21_3, hcz21_4, hcz21_5⟩ := cl6 BK212.out; obtain ⟨hfz21_0, hfz21_1, hfz21_2, hfz21_3, hfz21_4, hfz21_5⟩ := fr6 BK212.out) | ((with_reducible refine gate_callee (f := 69) rfl ?_); refine goesL_ (some 5) rfl rfl Try.func69 B6x8_ rfl #[.int .i64 a0_0, .int .i64 1, .int .i64 99] rfl B6x2_ ?_; (with_reducible refine (spec_l01In.calls a0_0 1 99 true _ A2.out).mono ?_); rintro e w' ⟨rfl, ⟨nd, rfl⟩⟩; refine ⟨_, rfl, ?_⟩) | (go_at_call 69; (with_reducible refine (spec_l01In.calls a0_1 1 99 true _ A4.out).mono ?_); rintro e w' ⟨rfl, ⟨nd, rfl⟩⟩) | (go_at_call 69; (with_reducible refine (spec_l01In.calls a0_2 0 65535 true _ A6.out).mono ?_); rintro e w' ⟨rfl, ⟨nd, rfl⟩⟩) | (go_at_call 69; (with_reducible refine (spec_l01In.calls a0_3 0 160 true _ A8.out).mono ?_); rintro e w' ⟨rfl, ⟨nd, rfl⟩⟩))
      go_ret
      exact ⟨B6x3_, B6x4_⟩
    ·replace c9 := Bool.eq_false_iff.mpr c9
     subst c9
     rw [if_neg (show ¬ (false = true) by decide)] at H
     obtain rfl := Option.some.inj H
     go_enter Try.func95, Try.ntmps95
     go_wp2_with (first | ((with_reducible refine gate_dst (N := 1) rfl ?_); (try (refine gate_guard (by rfl) ?_; dsimp only)); refine box_event ?hg (N := 1) ?hd (cs := #[.int .i64 a0_0, .int .i64 a0_1, .int .i64 a0_2, .int .i64 a0_3, .bool a0_4, .string a0_5]) (t := 62) ?hr ?_; (case hd => rfl); (case hg => rfl); (case hr => exact B6x7_); intro gb212 hg w22 hbox hb; have BK212 := Aside0.mk (hbox); have GW212 := Aside0.mk ((bs hg (below_size HB.out))); have GE212 := Aside0.mk ((bs hg (below_size HB.out))); replace HB := Aside0.mk (below_step B6x0_ hb); clear hb hbox hg; obtain ⟨hcz23_0, hcz23_1, hcz23_2, hcz23_3, hcz23_4, hcz23_5⟩ := cl6 BK212.out; obtain ⟨hfz23_0, hfz23_1, hfz23_2, hfz23_3, hfz23_4, hfz23_5⟩ := fr6 BK212.out) | ((with_reducible refine gate_callee (f := 69) rfl ?_); refine goesL_ (some 5) rfl rfl Try.func69 B6x8_ rfl #[.int .i64 a0_0, .int .i64 1, .int .i64 99] rfl B6x2_ ?_; (with_reducible refine (spec_l01In.calls a0_0 1 99 true _ A2.out).mono ?_); rintro e w' ⟨rfl, ⟨nd, rfl⟩⟩; refine ⟨_, rfl, ?_⟩) | (go_at_call 69; (with_reducible refine (spec_l01In.calls a0_1 1 99 true _ A4.out).mono ?_); rintro e w' ⟨rfl, ⟨nd, rfl⟩⟩) | (go_at_call 69; (with_reducible refine (spec_l01In.calls a0_2 0 65535 true _ A6.out).mono ?_); rintro e w' ⟨rfl, ⟨nd, rfl⟩⟩) | (go_at_call 69; (with_reducible refine (spec_l01In.calls a0_3 0 160 false _ A8.out).mono ?_); rintro e w' ⟨rfl, ⟨nd, rfl⟩⟩))
     go_ret
     exact ⟨B6x3_, B6x4_⟩
   ·replace c7 := Bool.eq_false_iff.mpr c7
    subst c7
    rw [if_neg (show ¬ (false = true) by decide)] at H
    obtain rfl := Option.some.inj H
    go_enter Try.func95, Try.ntmps95
    go_wp2_with (first | ((with_reducible refine gate_dst (N := 1) rfl ?_); (try (refine gate_guard (by rfl) ?_; dsimp only)); refine box_event ?hg (N := 1) ?hd (cs := #[.int .i64 a0_0, .int .i64 a0_1, .int .i64 a0_2, .int .i64 a0_3, .bool a0_4, .string a0_5]) (t := 62) ?hr ?_; (case hd => rfl); (case hg => rfl); (case hr => exact B6x7_); intro gb212 hg w24 hbox hb; have BK212 := Aside0.mk (hbox); have GW212 := Aside0.mk ((bs hg (below_size HB.out))); have GE212 := Aside0.mk ((bs hg (below_size HB.out))); replace HB := Aside0.mk (below_step B6x0_ hb); clear hb hbox hg; obtain ⟨hcz25_0, hcz25_1, hcz25_2, hcz25_3, hcz25_4, hcz25_5⟩ := cl6 BK212.out; obtain ⟨hfz25_0, hfz25_1, hfz25_2, hfz25_3, hfz25_4, hfz25_5⟩ := fr6 BK212.out) | ((with_reducible refine gate_callee (f := 69) rfl ?_); refine goesL_ (some 5) rfl rfl Try.func69 B6x8_ rfl #[.int .i64 a0_0, .int .i64 1, .int .i64 99] rfl B6x2_ ?_; (with_reducible refine (spec_l01In.calls a0_0 1 99 true _ A2.out).mono ?_); rintro e w' ⟨rfl, ⟨nd, rfl⟩⟩; refine ⟨_, rfl, ?_⟩) | (go_at_call 69; (with_reducible refine (spec_l01In.calls a0_1 1 99 true _ A4.out).mono ?_); rintro e w' ⟨rfl, ⟨nd, rfl⟩⟩) | (go_at_call 69; (with_reducible refine (spec_l01In.calls a0_2 0 65535 false _ A6.out).mono ?_); rintro e w' ⟨rfl, ⟨nd, rfl⟩⟩))
    go_ret
    exact ⟨B6x3_, B6x4_⟩
  ·replace c5 := Bool.eq_false_iff.mpr c5
   subst c5
   rw [if_neg (show ¬ (false = true) by decide)] at H
   obtain rfl := Option.some.inj H
   go_enter Try.func95, Try.ntmps95
   go_wp2_with (first | ((with_reducible refine gate_dst (N := 1) rfl ?_); (try (refine gate_guard (by rfl) ?_; dsimp only)); refine box_event ?hg (N := 1) ?hd (cs := #[.int .i64 a0_0, .int .i64 a0_1, .int .i64 a0_2, .int .i64 a0_3, .bool a0_4, .string a0_5]) (t := 62) ?hr ?_; (case hd => rfl); (case hg => rfl); (case hr => exact B6x7_); intro gb212 hg w26 hbox hb; have BK212 := Aside0.mk (hbox); have GW212 := Aside0.mk ((bs hg (below_size HB.out))); have GE212 := Aside0.mk ((bs hg (below_size HB.out))); replace HB := Aside0.mk (below_step B6x0_ hb); clear hb hbox hg; obtain ⟨hcz27_0, hcz27_1, hcz27_2, hcz27_3, hcz27_4, hcz27_5⟩ := cl6 BK212.out; obtain ⟨hfz27_0, hfz27_1, hfz27_2, hfz27_3, hfz27_4, hfz27_5⟩ := fr6 BK212.out) | ((with_reducible refine gate_callee (f := 69) rfl ?_); refine goesL_ (some 5) rfl rfl Try.func69 B6x8_ rfl #[.int .i64 a0_0, .int .i64 1, .int .i64 99] rfl B6x2_ ?_; (with_reducible refine (spec_l01In.calls a0_0 1 99 true _ A2.out).mono ?_); rintro e w' ⟨rfl, ⟨nd, rfl⟩⟩; refine ⟨_, rfl, ?_⟩) | (go_at_call 69; (with_reducible refine (spec_l01In.calls a0_1 1 99 false _ A4.out).mono ?_); rintro e w' ⟨rfl, ⟨nd, rfl⟩⟩))
   go_ret
   exact ⟨B6x3_, B6x4_⟩
 ·replace c3 := Bool.eq_false_iff.mpr c3
  subst c3
  rw [if_neg (show ¬ (false = true) by decide)] at H
  obtain rfl := Option.some.inj H
  go_enter Try.func95, Try.ntmps95
  go_wp2_with (first | ((with_reducible refine gate_dst (N := 1) rfl ?_); (try (refine gate_guard (by rfl) ?_; dsimp only)); refine box_event ?hg (N := 1) ?hd (cs := #[.int .i64 a0_0, .int .i64 a0_1, .int .i64 a0_2, .int .i64 a0_3, .bool a0_4, .string a0_5]) (t := 62) ?hr ?_; (case hd => rfl); (case hg => rfl); (case hr => exact B6x7_); intro gb212 hg w28 hbox hb; have BK212 := Aside0.mk (hbox); have GW212 := Aside0.mk ((bs hg (below_size HB.out))); have GE212 := Aside0.mk ((bs hg (below_size HB.out))); replace HB := Aside0.mk (below_step B6x0_ hb); clear hb hbox hg; obtain ⟨hcz29_0, hcz29_1, hcz29_2, hcz29_3, hcz29_4, hcz29_5⟩ := cl6 BK212.out; obtain ⟨hfz29_0, hfz29_1, hfz29_2, hfz29_3, hfz29_4, hfz29_5⟩ := fr6 BK212.out) | ((with_reducible refine gate_callee (f := 69) rfl ?_); refine goesL_ (some 5) rfl rfl Try.func69 B6x8_ rfl #[.int .i64 a0_0, .int .i64 1, .int .i64 99] rfl B6x2_ ?_; (with_reducible refine (spec_l01In.calls a0_0 1 99 false _ A2.out).mono ?_); rintro e w' ⟨rfl, ⟨nd, rfl⟩⟩; refine ⟨_, rfl, ?_⟩))
  go_ret
  exact ⟨B6x3_, B6x4_⟩

end Go.Proofs.Ytmknnoeggkgkgaa.QFnExactJoinBits
