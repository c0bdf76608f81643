/- Functions that a law reaches, as functions of Lean, and the walks that show that the calls come to their answers: written by a program of this project out of the translation. No condition. -/
import Derived.Test.YtideegpoakkgeaaQFnExactLearnx0
import Derived.Test.YtideegpoakkgeaaQFnExactLearnx1
import Derived.Test.YtideegpoakkgeaaQFnExactLearnx2
import Derived.Test.YtideegpoakkgeaaShort2
import Derived.Test.YtideegpoakkgeaaShort
namespace Go.Proofs.Ytideegpoakkgeaa.QFnExactLearn
open Go.RowKit Go.Proofs.YtideegpoakkgeaaW.PrintWords Go.Proofs.YtideegpoakkgeaaW.PrintLast Go.Proofs.YtideegpoakkgeaaW.PrintMore Go.Proofs.Ytideegpoakkgeaa.Short
attribute [local go_sem] max2_int min2_int max_two min_two max_three min_three max_four min_four   -- for this text's walks alone
set_option linter.unusedVariables false
set_option linter.unusedSimpArgs false

theorem B3x0_ {p : Prop} (h : p := by repeat (first | (with_reducible first | exact HB.out | apply below_alloc | apply pw_below_drewN | apply below_drew1) | exact HB.out)) : p := h
theorem B3x1_ {p : Prop} (h : p := by (try simp only [List.map_toArray, List.map_cons, List.map_nil]); first | done | rfl | (simp only [List.length_drop, List.length_take]; rfl)) : p := h
theorem B3x2_ {p : Prop} (h : p := by (with_reducible repeat (first | apply Kd.R_alloc | apply Kd.R_drewN | apply Kd.R_drew)); exact HO172.out) : p := h
theorem B3x3_ {p : Prop} (h : p := by (with_reducible repeat (first | apply Kd.R_alloc | apply Kd.R_drewN | apply Kd.R_drew)); exact HO175.out) : p := h
theorem B3x4_ {p : Prop} (h : p := by (with_reducible repeat (first | apply Kd.R_alloc | apply Kd.R_drewN | apply Kd.R_drew)); exact HO178.out) : p := h
theorem B3x5_ {p : Prop} (h : p := by first | (with_reducible assumption) | assumption) : p := h
theorem B3x6_ {p : Prop} (h : p := by (with_reducible repeat (first | apply Kd.Q_alloc | apply Kd.Q_drewN | apply Kd.Q_drew)); exact HO181.out) : p := h
theorem B3x7_ {p : Prop} (h : p := by (with_reducible repeat (first | apply Kd.Q_alloc | apply Kd.Q_drewN | apply Kd.Q_drew)); exact HO_10.out) : p := h
theorem B3x8_ {p : Prop} (h : p := by (with_reducible repeat (first | apply Kd.R_alloc | apply Kd.R_drewN | apply Kd.R_drew)); exact HO_8.out) : p := h
theorem B3x9_ {p : Prop} (h : p := by (try simp only [List.map_toArray, List.map_cons, List.map_nil]); first | done | (rw [show t191.length = t179.length from (Kd.Q_reads' HO_10.out).1.symm] <;> rfl) | rfl | (simp only [List.length_drop, List.length_take]; rfl)) : p := h
theorem B3x10_ {p : Prop} (h : p := by (with_reducible repeat (first | apply Kd.R_alloc | apply Kd.R_drewN | apply Kd.R_drew)); exact HO195.out) : p := h
theorem B3x11_ {p : Prop} (h : p := by kernel_rfl) : p := h
theorem B3x12_ {p : Prop} (h : p := by (with_reducible repeat (first | apply Kd.R_alloc | apply Kd.R_drewN | apply Kd.R_drew)); exact HO185.out) : p := h
/-! ### laws_heldKnownS: function 15 -/
def laws_heldKnownS.l0 : Nat → List (S88) → Int → Int → Option (Int)
 | 0, _, _, _ => none
 | k + 1, x0, x1, x5 => if x5 < (x0.length : Int) then (if 0 ≤ x5 then (if ((rd_T88 x0 x5).f0) = x1 then (if ((rd_T88 x0 x5).f1) = (wrap64 (x1 + 1)) then (laws_heldKnownS.l0 k x0 (wrap64 ((wrap64 (x1 + 1)) + 1)) (wrap64 (x5 + 1))) else (some (-1))) else (some (-1))) else (none)) else (some x1)
def laws_heldKnownS.f (k : Nat) (l0 : List (S88)) (a1 : Int) : Option (Int) := laws_heldKnownS.l0 k l0 a1 0
theorem laws_heldKnownS.mono_l : ∀ k, (∀ y0 y1 y2, LeO (laws_heldKnownS.l0 k y0 y1 y2) (laws_heldKnownS.l0 (k + 1) y0 y1 y2))
 | 0 => fun _ _ _ r h => by simp [laws_heldKnownS.l0] at h
 | k + 1 => by
  have ih0 := laws_heldKnownS.mono_l k
  ·intro y0 y1 y2
   unfold laws_heldKnownS.l0
   repeat' first
   | (with_reducible exact ih0 _ _ _)
   | (with_reducible exact LeO.refl _)
   | (with_reducible exact LeO.none _)
   | (with_reducible refine LeO.ite ?_ ?_)
   | (with_reducible refine LeO.bind ?_ (fun _ => ?_))
   | exact ih0 _ _ _
   | exact LeO.none _
   | refine LeO.ite ?_ ?_
   | refine LeO.bind ?_ (fun _ => ?_)
theorem laws_heldKnownS.mono : ∀ a0 a1 k, LeO (laws_heldKnownS.f k a0 a1) (laws_heldKnownS.f (k + 1) a0 a1) := by
 intro a0 a1 k
 have ih0 := laws_heldKnownS.mono_l k
 unfold laws_heldKnownS.f
 repeat' first
   | (with_reducible exact ih0 _ _ _)
   | (with_reducible exact LeO.refl _)
   | (with_reducible exact LeO.none _)
   | (with_reducible refine LeO.ite ?_ ?_)
   | (with_reducible refine LeO.bind ?_ (fun _ => ?_))
   | exact ih0 _ _ _
   | exact LeO.none _
   | refine LeO.ite ?_ ?_
   | refine LeO.bind ?_ (fun _ => ?_)
set_option maxHeartbeats 8000000 in
set_option maxRecDepth 100000 in
theorem laws_heldKnownS.calls (k : Nat) (A0 : Option Addr) (c0 : Nat) (l0 : List (S88)) (a1 : Int) (r : Int) (w : World) (hr0 : Kd.C k88 w A0 l0.length l0) (hc0 : l0.length ≤ c0) (h : laws_heldKnownS.f k l0 a1 = some r) :
  Calls Try.prog 15 #[.slice A0 l0.length c0, .int .i64 a1] w fun e w' => e = .returned (.int .i64 r) ∧ Drawn0 w w' := by
 have HR0 := Aside0.mk hr0
 have HC0 := Aside0.mk hc0
 clear hr0 hc0
 have H : (laws_heldKnownS.l0 k l0 a1 0) = some r := h
 clear h
 have H' := Aside0.mk H
 clear H
 go_enter Try.func15, Try.ntmps15
 go_wp2
 go_loopg [1, 5] k (fun kq v1 v5 w' => ∃ (x1_1 : Int) (x5_1 : Int), v1 = .int .i64 x1_1 ∧ v5 = .int .i64 x5_1 ∧ Aside0 (laws_heldKnownS.l0 kq l0 x1_1 x5_1 = some r) ∧ Aside0 (kq ≤ k) ∧ Drawn0 w w')
 case atStart => exact ⟨(a1), (0), (be_), (be_), H', ⟨Nat.le_refl _⟩, by repeat (first | exact Drawn0.refl _ | apply Drawn0.step)⟩
 case round =>
  clear H'
  try clear c1
  try clear p2
  obtain ⟨x1_1, x5_1, rfl, rfl, HA, HK1, ⟨m1, rfl⟩⟩ := hrel
  cases gk with
  | zero => exact absurd HA.out (by simp [laws_heldKnownS.l0])
  | succ k1 =>
   have H := HA.out
   clear HA
   simp only [laws_heldKnownS.l0] at H
   by_cases c3 : x5_1 < (l0.length : Int)
   ·rw [if_pos c3] at H
    have c3b0 : decide (x5_1 < (l0.length : Int)) = true := decide_eq_true c3
    clear c3
    by_cases c4 : 0 ≤ x5_1
    ·rw [if_pos c4] at H
     have c4b0 : decide (0 ≤ x5_1) = true := decide_eq_true c4
     clear c4
     by_cases c5 : ((rd_T88 l0 x5_1).f0) = x1_1
     ·rw [if_pos c5] at H
      have c5b0 : (((rd_T88 l0 x5_1).f0) == x1_1) = true := beq_iff_eq.mpr c5
      have c5b1 : (((rd_T88 l0 x5_1).f0) != x1_1) = false := bne_eq_false_iff_eq.mpr c5
      clear c5
      by_cases c6 : ((rd_T88 l0 x5_1).f1) = (wrap64 (x1_1 + 1))
      ·rw [if_pos c6] at H
       have c6b0 : (((rd_T88 l0 x5_1).f1) == (wrap64 (x1_1 + 1))) = true := beq_iff_eq.mpr c6
       have c6b1 : (((rd_T88 l0 x5_1).f1) != (wrap64 (x1_1 + 1))) = false := bne_eq_false_iff_eq.mpr c6
       clear c6
       have H' := Aside0.mk H
       clear H
       have p167 : 0 ≤ (x5_1 : Int) := of_decide_eq_true B3x5_
       have q167 : x5_1 < (l0.length : Int) := of_decide_eq_true B3x5_
       obtain ⟨ad167, e167, hx167_0, hx167_1⟩ := at_T88 HR0.out x5_1 p167 q167
       cases e167
       replace p167 := eq_true p167
       replace q167 := eq_true q167
       have p168 : 0 ≤ (x5_1 : Int) := of_decide_eq_true B3x5_
       have q168 : x5_1 < (l0.length : Int) := of_decide_eq_true B3x5_
       obtain ⟨ad168, e168, hx168_0, hx168_1⟩ := at_T88 HR0.out x5_1 p168 q168
       obtain rfl : ad167 = ad168 := (by injection e168)
       replace p168 := eq_true p168
       replace q168 := eq_true q168
       go_wp2
       go_roundg k1
       case measure => have := HK1.out; omega
       case rel => exact ⟨(wrap64 ((wrap64 (x1_1 + 1)) + 1)), (wrap64 (x5_1 + 1)), (be_), (be_), H', ⟨by have := HK1.out; omega⟩, by repeat (first | exact Drawn0.refl _ | apply Drawn0.step)⟩
      ·rw [if_neg c6] at H
       have c6b0 : (((rd_T88 l0 x5_1).f1) == (wrap64 (x1_1 + 1))) = false := beq_eq_false_iff_ne.mpr c6
       have c6b1 : (((rd_T88 l0 x5_1).f1) != (wrap64 (x1_1 + 1))) = true := bne_iff_ne.mpr c6
       obtain rfl := Option.some.inj H
       have p167 : 0 ≤ (x5_1 : Int) := of_decide_eq_true B3x5_
       have q167 : x5_1 < (l0.length : Int) := of_decide_eq_true B3x5_
       obtain ⟨ad167, e167, hx167_0, hx167_1⟩ := at_T88 HR0.out x5_1 p167 q167
       cases e167
       replace p167 := eq_true p167
       replace q167 := eq_true q167
       have p168 : 0 ≤ (x5_1 : Int) := of_decide_eq_true B3x5_
       have q168 : x5_1 < (l0.length : Int) := of_decide_eq_true B3x5_
       obtain ⟨ad168, e168, hx168_0, hx168_1⟩ := at_T88 HR0.out x5_1 p168 q168
       obtain rfl : ad167 = ad168 := (by injection e168)
       replace p168 := eq_true p168
       replace q168 := eq_true q168
       go_wp2
       go_ret
       exact ⟨by first | rfl | (simp; done) | (simp [*]; done), by repeat (first | exact Drawn0.refl _ | apply Drawn0.step)⟩
     ·rw [if_neg c5] at H
      have c5b0 : (((rd_T88 l0 x5_1).f0) == x1_1) = false := beq_eq_false_iff_ne.mpr c5
      have c5b1 : (((rd_T88 l0 x5_1).f0) != x1_1) = true := bne_iff_ne.mpr c5
      obtain rfl := Option.some.inj H
      have p167 : 0 ≤ (x5_1 : Int) := of_decide_eq_true B3x5_
      have q167 : x5_1 < (l0.length : Int) := of_decide_eq_true B3x5_
      obtain ⟨ad167, e167, hx167_0, hx167_1⟩ := at_T88 HR0.out x5_1 p167 q167
      cases e167
      replace p167 := eq_true p167
      replace q167 := eq_true q167
      go_wp2
      go_ret
      exact ⟨by first | rfl | (simp; done) | (simp [*]; done), by repeat (first | exact Drawn0.refl _ | apply Drawn0.step)⟩
    ·rw [if_neg c4] at H
     exact absurd H (by simp)
   ·rw [if_neg c3] at H
    have c3b0 : decide (x5_1 < (l0.length : Int)) = false := decide_eq_false c3
    clear c3
    obtain rfl := Option.some.inj H
    go_wp2
    go_ret
    exact ⟨by first | rfl | (simp; done) | (simp [*]; done), by repeat (first | exact Drawn0.refl _ | apply Drawn0.step)⟩

/-! ### laws_FnExactLearn: function 3 -/
def laws_FnExactLearn.j0 : Nat → List (S90) → Int → Int → List (S88) → List (S88) → Bool → Option (Bool)
 | 0, _, _, _, _, _, _ => none
 | k + 1, x0, x1, x2, x8, x10, x50 => if x50 = true then (some false) else ((laws_markKnownS.f k x10 1).bind fun bt190 => ((laws_heldKnownS.f k bt190.2 1).bind fun t192 => (if t192 < 0 then (some false) else (if t192 = bt190.1 then ((laws_toKnownS.f k x0).bind fun t193 => ((impl_Learn.f k t193 x1 x2).bind fun t196 => ((laws_eqKnownS.f k t196 x8).bind fun t199 => (if t199 = true then ((laws_heldKnownS.f k bt190.2 1).bind fun t200 => (if t200 < 0 then (some false) else (if t200 = bt190.1 then (some true) else (some false)))) else (some false))))) else (some false)))))
def laws_FnExactLearn.f (k : Nat) (l0 : List (S90)) (a1 : Int) (a2 : Int) : Option (Bool) := (laws_szKnownS.f l0 1048576).bind fun t169 => (if t169 < 0 then (some true) else ((laws_toKnownS.f k l0).bind fun t170 => ((spec_Learn.f k t170 a1 a2).bind fun t173 => ((laws_toKnownS.f k l0).bind fun t176 => ((impl_Learn.f k t176 a1 a2).bind fun t179 => ((laws_eqKnownS.f k t179 t173).bind fun t182 => (if t182 = true then ((laws_toKnownS.f k l0).bind fun t183 => ((laws_eqKnownS.f k t176 t183).bind fun t186 => (if t186 = true then ((laws_markKnownS.f k t176 1).bind fun bt187 => (if bt187.1 < 0 then (laws_FnExactLearn.j0 k l0 a1 a2 t173 t179 true) else ((laws_eqKnownS.f k t179 t173).bind fun t189 => (laws_FnExactLearn.j0 k l0 a1 a2 t173 t179 (!t189))))) else (some false)))) else (some false))))))))
theorem laws_FnExactLearn.mono_l : ∀ k, (∀ y0 y1 y2 y3 y4 y5, LeO (laws_FnExactLearn.j0 k y0 y1 y2 y3 y4 y5) (laws_FnExactLearn.j0 (k + 1) y0 y1 y2 y3 y4 y5))
 | 0 => fun _ _ _ _ _ _ r h => by simp [laws_FnExactLearn.j0] at h
 | k + 1 => by
  have ih0 := laws_FnExactLearn.mono_l k
  ·intro y0 y1 y2 y3 y4 y5
   unfold laws_FnExactLearn.j0
   repeat' first
   | (with_reducible exact ih0 _ _ _ _ _ _)
   | (with_reducible exact impl_Learn.mono _ _ _ _)
   | (with_reducible exact laws_eqKnownS.mono _ _ _)
   | (with_reducible exact laws_heldKnownS.mono _ _ _)
   | (with_reducible exact laws_markKnownS.mono _ _ _)
   | (with_reducible exact laws_toKnownS.mono _ _)
   | (with_reducible exact spec_Learn.mono _ _ _ _)
   | (with_reducible exact LeO.refl _)
   | (with_reducible exact LeO.none _)
   | (with_reducible refine LeO.ite ?_ ?_)
   | (with_reducible refine LeO.bind ?_ (fun _ => ?_))
   | exact ih0 _ _ _ _ _ _
   | exact impl_Learn.mono _ _ _ _
   | exact laws_eqKnownS.mono _ _ _
   | exact laws_heldKnownS.mono _ _ _
   | exact laws_markKnownS.mono _ _ _
   | exact laws_toKnownS.mono _ _
   | exact spec_Learn.mono _ _ _ _
   | exact LeO.none _
   | refine LeO.ite ?_ ?_
   | refine LeO.bind ?_ (fun _ => ?_)
theorem laws_FnExactLearn.mono : ∀ a0 a1 a2 k, LeO (laws_FnExactLearn.f k a0 a1 a2) (laws_FnExactLearn.f (k + 1) a0 a1 a2) := by
 intro a0 a1 a2 k
 have ih0 := laws_FnExactLearn.mono_l k
 unfold laws_FnExactLearn.f
 repeat' first
   | (with_reducible exact ih0 _ _ _ _ _ _)
   | (with_reducible exact impl_Learn.mono _ _ _ _)
   | (with_reducible exact laws_eqKnownS.mono _ _ _)
   | (with_reducible exact laws_heldKnownS.mono _ _ _)
   | (with_reducible exact laws_markKnownS.mono _ _ _)
   | (with_reducible exact laws_toKnownS.mono _ _)
   | (with_reducible exact spec_Learn.mono _ _ _ _)
   | (with_reducible exact LeO.refl _)
   | (with_reducible exact LeO.none _)
   | (with_reducible refine LeO.ite ?_ ?_)
   | (with_reducible refine LeO.bind ?_ (fun _ => ?_))
   | exact ih0 _ _ _ _ _ _
   | exact impl_Learn.mono _ _ _ _
   | exact laws_eqKnownS.mono _ _ _
   | exact laws_heldKnownS.mono _ _ _
   | exact laws_markKnownS.mono _ _ _
   | exact laws_toKnownS.mono _ _
   | exact spec_Learn.mono _ _ _ _
   | exact LeO.none _
   | refine LeO.ite ?_ ?_
   | refine LeO.bind ?_ (fun _ => ?_)
set_option maxHeartbeats 8000000 in
set_option maxRecDepth 100000 in
theorem laws_FnExactLearn.calls (k : Nat) (A0 : Option Addr) (c0 : Nat) (l0 : List (S90)) (a1 : Int) (a2 : Int) (r : Bool) (w : World) (hr0 : Kd.C k90 w A0 l0.length l0) (hc0 : l0.length ≤ c0) (h : laws_FnExactLearn.f k l0 a1 a2 = some r) (hr_ : Aside0 (r = true)) :
  Calls Try.prog 3 #[.slice A0 l0.length c0, .int .i64 a1, .int .i64 a2] w fun e w' => e = .returned (.bool r) ∧ Below w.heap.size w w' := by
 have HR0 := Aside0.mk hr0
 have HC0 := Aside0.mk hc0
 clear hr0 hc0
 have HB := Aside0.mk (Below.refl w.heap.size w)
 have H : ((laws_szKnownS.f l0 1048576).bind fun t169 => (if t169 < 0 then (some true) else ((laws_toKnownS.f k l0).bind fun t170 => ((spec_Learn.f k t170 a1 a2).bind fun t173 => ((laws_toKnownS.f k l0).bind fun t176 => ((impl_Learn.f k t176 a1 a2).bind fun t179 => ((laws_eqKnownS.f k t179 t173).bind fun t182 => (if t182 = true then ((laws_toKnownS.f k l0).bind fun t183 => ((laws_eqKnownS.f k t176 t183).bind fun t186 => (if t186 = true then ((laws_markKnownS.f k t176 1).bind fun bt187 => (if bt187.1 < 0 then (laws_FnExactLearn.j0 k l0 a1 a2 t173 t179 true) else ((laws_eqKnownS.f k t179 t173).bind fun t189 => (laws_FnExactLearn.j0 k l0 a1 a2 t173 t179 (!t189))))) else (some false)))) else (some false))))))))) = some r := h
 clear h
 replace H := Option.bind_eq_some_iff.mp H
 obtain ⟨t169, A40, H⟩ := H
 (try dsimp only at H)
 have A4 := Aside0.mk A40
 clear A40
 by_cases c5 : t169 < 0
 ·rw [if_pos c5] at H
  have c5b0 : decide (t169 < 0) = true := decide_eq_true c5
  clear c5
  obtain rfl := Option.some.inj H
  go_enter Try.func3, Try.ntmps3
  go_wp2_with (first | ((with_reducible refine gate_callee (f := 9) rfl ?_); refine goesL_ (some 17) rfl rfl Try.func9 B3x11_ rfl #[.slice A0 l0.length c0, .int .i64 1048576] rfl B3x1_ ?_; (with_reducible refine (laws_szKnownS.calls _ _ l0 1048576 t169 _ ?side1 ?side2 A4.out).mono ?_); (case side1 => repeat (first | exact HR0.out | (with_reducible refine Kd.C_alloc ?_ _) | (with_reducible refine Kd.C_drewN ?_ _) | (with_reducible refine Kd.C_drew ?_))); (case side2 => exact HC0.out); rintro e w' ⟨rfl, ⟨nd, rfl⟩⟩; refine ⟨_, rfl, ?_⟩))
  go_ret
  exact ⟨by first | rfl | (simp [errW_none, errW_some] <;> rfl) | (simp [*, errW_none, errW_some] <;> rfl), by repeat (first | (with_reducible first | exact HB.out | apply below_alloc | apply pw_below_drewN | apply below_drew1) | exact HB.out)⟩
 ·rw [if_neg c5] at H
  have c5b0 : decide (t169 < 0) = false := decide_eq_false c5
  clear c5
  replace H := Option.bind_eq_some_iff.mp H
  obtain ⟨t170, A60, H⟩ := H
  (try dsimp only at H)
  have A6 := Aside0.mk A60
  clear A60
  replace H := Option.bind_eq_some_iff.mp H
  obtain ⟨t173, A70, H⟩ := H
  (try dsimp only at H)
  have A7 := Aside0.mk A70
  clear A70
  replace H := Option.bind_eq_some_iff.mp H
  obtain ⟨t176, A80, H⟩ := H
  (try dsimp only at H)
  have A8 := Aside0.mk A80
  clear A80
  replace H := Option.bind_eq_some_iff.mp H
  obtain ⟨t179, A90, H⟩ := H
  (try dsimp only at H)
  have A9 := Aside0.mk A90
  clear A90
  replace H := Option.bind_eq_some_iff.mp H
  obtain ⟨t182, A100, H⟩ := H
  (try dsimp only at H)
  have A10 := Aside0.mk A100
  clear A100
  by_cases c11 : t182 = true
  ·subst c11
   rw [if_pos rfl] at H
   replace H := Option.bind_eq_some_iff.mp H
   obtain ⟨t183, A120, H⟩ := H
   (try dsimp only at H)
   have A12 := Aside0.mk A120
   clear A120
   replace H := Option.bind_eq_some_iff.mp H
   obtain ⟨t186, A130, H⟩ := H
   (try dsimp only at H)
   have A13 := Aside0.mk A130
   clear A130
   by_cases c14 : t186 = true
   ·subst c14
    rw [if_pos rfl] at H
    replace H := Option.bind_eq_some_iff.mp H
    obtain ⟨⟨t187, t188⟩, A150, H⟩ := H
    (try dsimp only at H)
    have A15 := Aside0.mk A150
    clear A150
    have HC16 := Aside0.mk H
    clear H
    go_enter Try.func3, Try.ntmps3
    go_upto_region 14 with (first | ((with_reducible refine gate_callee (f := 9) rfl ?_); refine goesL_ (some 17) rfl rfl Try.func9 B3x11_ rfl #[.slice A0 l0.length c0, .int .i64 1048576] rfl B3x1_ ?_; (with_reducible refine (laws_szKnownS.calls _ _ l0 1048576 t169 _ ?side1 ?side2 A4.out).mono ?_); (case side1 => repeat (first | exact HR0.out | (with_reducible refine Kd.C_alloc ?_ _) | (with_reducible refine Kd.C_drewN ?_ _) | (with_reducible refine Kd.C_drew ?_))); (case side2 => exact HC0.out); rintro e w' ⟨rfl, ⟨nd, rfl⟩⟩; refine ⟨_, rfl, ?_⟩) | ((with_reducible refine gate_callee (f := 11) rfl ?_); refine goesL_ (some 21) rfl rfl Try.func11 B3x11_ rfl #[.slice A0 l0.length c0] rfl B3x1_ ?_; (with_reducible refine (laws_toKnownS.calls k _ _ l0 t170 _ ?side1 ?side2 A6.out).mono ?_); (case side1 => repeat (first | exact HR0.out | (with_reducible refine Kd.C_alloc ?_ _) | (with_reducible refine Kd.C_drewN ?_ _) | (with_reducible refine Kd.C_drew ?_))); (case side2 => exact HC0.out); rintro e w17 ⟨v171, rfl, ho0, hb⟩; refine ⟨_, rfl, ?_⟩; have n0_ := Aside0.mk (Kd.R_lower ho0 (below_size B3x0_)); have n1_ := Aside0.mk (below_step B3x0_ hb); clear HB; have HO172 := n0_; have HB := n1_; clear n0_ n1_; (try clear hb); (try clear hb2); (try clear hk); (try clear hi); (try clear ho0); obtain ⟨Ao18, co18, eo18⟩ := Kd.R_slice HO172.out; subst eo18) | ((with_reducible refine gate_callee (f := 10) rfl ?_); refine goesL_ (some 24) rfl rfl Try.func10 B3x11_ rfl #[.slice Ao18 t170.length co18, .int .i64 a1, .int .i64 a2] rfl B3x1_ ?_; (with_reducible refine (spec_Learn.calls k _ _ t170 a1 a2 t173 _ ?side1 ?side2 A7.out).mono ?_); (case side1 => repeat (first | exact (Kd.R_reads' HO172.out).2.2 | (with_reducible refine Kd.C_alloc ?_ _) | (with_reducible refine Kd.C_drewN ?_ _) | (with_reducible refine Kd.C_drew ?_))); (case side2 => exact (Kd.R_reads' HO172.out).2.1); rintro e w19 ⟨v174, rfl, ho0, hb⟩; refine ⟨_, rfl, ?_⟩; have n0_ := Aside0.mk (Kd.R_elder' B3x2_ (Kd.R_base ho0) hb); have n1_ := Aside0.mk (Kd.R_lower (Kd.R_new' ho0 (Kd.R_lt B3x2_)) (below_size B3x0_)); have n2_ := Aside0.mk (below_step B3x0_ hb); clear HO172; clear HB; have HO172 := n0_; have HO175 := n1_; have HB := n2_; clear n0_ n1_ n2_; (try clear hb); (try clear hb2); (try clear hk); (try clear hi); (try clear ho0)) | ((with_reducible refine gate_callee (f := 11) rfl ?_); refine goesL_ (some 26) rfl rfl Try.func11 B3x11_ rfl #[.slice A0 l0.length c0] rfl B3x1_ ?_; (with_reducible refine (laws_toKnownS.calls k _ _ l0 t176 _ ?side1 ?side2 A8.out).mono ?_); (case side1 => repeat (first | exact (Kd.C_below HR0.out HB.out) | (with_reducible refine Kd.C_alloc ?_ _) | (with_reducible refine Kd.C_drewN ?_ _) | (with_reducible refine Kd.C_drew ?_))); (case side2 => exact HC0.out); rintro e w20 ⟨v177, rfl, ho0, hb⟩; refine ⟨_, rfl, ?_⟩; have n0_ := Aside0.mk (Kd.R_elder' B3x2_ (Kd.R_base ho0) hb); have n1_ := Aside0.mk (Kd.R_elder' B3x3_ (Kd.R_base ho0) hb); have n2_ := Aside0.mk (Kd.R_lower (Kd.R_new' (Kd.R_new' ho0 (Kd.R_lt B3x2_)) (Kd.R_lt B3x3_)) (below_size B3x0_)); have n3_ := Aside0.mk (below_step B3x0_ hb); clear HO172; clear HO175; clear HB; have HO172 := n0_; have HO175 := n1_; have HO178 := n2_; have HB := n3_; clear n0_ n1_ n2_ n3_; (try clear hb); (try clear hb2); (try clear hk); (try clear hi); (try clear ho0); obtain ⟨Ao21, co21, eo21⟩ := Kd.R_slice HO178.out; subst eo21) | ((with_reducible refine gate_callee (f := 12) rfl ?_); refine goesL_ (some 30) rfl rfl Try.func12 B3x11_ rfl #[.slice Ao21 t176.length co21, .int .i64 a1, .int .i64 a2] rfl B3x1_ ?_; (with_reducible refine (impl_Learn.calls k _ _ t176 a1 a2 t179 _ ?side1 ?side2 A9.out).mono ?_); (case side1 => repeat (first | exact (Kd.R_reads' HO178.out).2.2 | (with_reducible refine Kd.C_alloc ?_ _) | (with_reducible refine Kd.C_drewN ?_ _) | (with_reducible refine Kd.C_drew ?_))); (case side2 => exact (Kd.R_reads' HO178.out).2.1); rintro e w22 ⟨v180, rfl, ho0, hb⟩; refine ⟨_, rfl, ?_⟩; have n0_ := Aside0.mk (Kd.R_elder' B3x2_ (Kd.Q_base ho0) hb); have n1_ := Aside0.mk (Kd.R_elder' B3x3_ (Kd.Q_base ho0) hb); have n2_ := Aside0.mk (Kd.R_elder' B3x4_ (Kd.Q_base ho0) hb); have n3_ := Aside0.mk (Kd.Q_lower (Kd.Q_new' (Kd.Q_new' (Kd.Q_new' ho0 (Kd.R_lt B3x2_)) (Kd.R_lt B3x3_)) (Kd.R_lt B3x4_)) (below_size B3x0_)); have n4_ := Aside0.mk (below_step B3x0_ hb); clear HO172; clear HO175; clear HO178; clear HB; have HO172 := n0_; have HO175 := n1_; have HO178 := n2_; have HO181 := n3_; have HB := n4_; clear n0_ n1_ n2_ n3_ n4_; (try clear hb); (try clear hb2); (try clear hk); (try clear hi); (try clear ho0); obtain ⟨Ao23, co23, eo23, _⟩ := Kd.Q_slice HO181.out; subst eo23; obtain ⟨Ao24, co24, eo24⟩ := Kd.R_slice HO175.out; subst eo24) | ((with_reducible refine gate_callee (f := 13) rfl ?_); refine goesL_ (some 33) rfl rfl Try.func13 B3x11_ rfl #[.slice Ao23 t179.length co23, .slice Ao24 t173.length co24] rfl B3x1_ ?_; (with_reducible refine (laws_eqKnownS.calls k _ _ t179 _ _ t173 true _ ?side1 ?side2 ?side3 ?side4 A10.out).mono ?_); (case side1 => repeat (first | exact (Kd.Q_reads' HO181.out).2.2 | (with_reducible refine Kd.C_alloc ?_ _) | (with_reducible refine Kd.C_drewN ?_ _) | (with_reducible refine Kd.C_drew ?_))); (case side2 => exact (Kd.Q_reads' HO181.out).2.1); (case side3 => repeat (first | exact (Kd.R_reads' HO175.out).2.2 | (with_reducible refine Kd.C_alloc ?_ _) | (with_reducible refine Kd.C_drewN ?_ _) | (with_reducible refine Kd.C_drew ?_))); (case side4 => exact (Kd.R_reads' HO175.out).2.1); rintro e w25 ⟨rfl, hb⟩; refine ⟨_, rfl, ?_⟩; have n0_ := Aside0.mk (Kd.R_below B3x2_ hb); have n1_ := Aside0.mk (Kd.R_below B3x3_ hb); have n2_ := Aside0.mk (Kd.R_below B3x4_ hb); have n3_ := Aside0.mk (Kd.Q_below B3x6_ hb); have n4_ := Aside0.mk (below_step B3x0_ hb); clear HO172; clear HO175; clear HO178; clear HO181; clear HB; have HO172 := n0_; have HO175 := n1_; have HO178 := n2_; have HO181 := n3_; have HB := n4_; clear n0_ n1_ n2_ n3_ n4_; (try clear hb); (try clear hb2); (try clear hk); (try clear hi)) | ((with_reducible refine gate_callee (f := 11) rfl ?_); refine goesL_ (some 37) rfl rfl Try.func11 B3x11_ rfl #[.slice A0 l0.length c0] rfl B3x1_ ?_; (with_reducible refine (laws_toKnownS.calls k _ _ l0 t183 _ ?side1 ?side2 A12.out).mono ?_); (case side1 => repeat (first | exact (Kd.C_below HR0.out HB.out) | (with_reducible refine Kd.C_alloc ?_ _) | (with_reducible refine Kd.C_drewN ?_ _) | (with_reducible refine Kd.C_drew ?_))); (case side2 => exact HC0.out); rintro e w26 ⟨v184, rfl, ho0, hb⟩; refine ⟨_, rfl, ?_⟩; have n0_ := Aside0.mk (Kd.R_elder' B3x2_ (Kd.R_base ho0) hb); have n1_ := Aside0.mk (Kd.R_elder' B3x3_ (Kd.R_base ho0) hb); have n2_ := Aside0.mk (Kd.R_elder' B3x4_ (Kd.R_base ho0) hb); have n3_ := Aside0.mk (Kd.Q_elder' B3x6_ (Kd.R_base ho0) hb); have n4_ := Aside0.mk (Kd.R_lower (Kd.R_new' (Kd.R_new' (Kd.R_new' (Kd.R_new' ho0 (Kd.R_lt B3x2_)) (Kd.R_lt B3x3_)) (Kd.R_lt B3x4_)) (Kd.Q_lt B3x6_)) (below_size B3x0_)); have n5_ := Aside0.mk (below_step B3x0_ hb); clear HO172; clear HO175; clear HO178; clear HO181; clear HB; have HO172 := n0_; have HO175 := n1_; have HO178 := n2_; have HO181 := n3_; have HO185 := n4_; have HB := n5_; clear n0_ n1_ n2_ n3_ n4_ n5_; (try clear hb); (try clear hb2); (try clear hk); (try clear hi); (try clear ho0); obtain ⟨Ao27, co27, eo27⟩ := Kd.R_slice HO185.out; subst eo27) | ((with_reducible refine gate_callee (f := 13) rfl ?_); refine goesL_ (some 38) rfl rfl Try.func13 B3x11_ rfl #[.slice Ao21 t176.length co21, .slice Ao27 t183.length co27] rfl B3x1_ ?_; (with_reducible refine (laws_eqKnownS.calls k _ _ t176 _ _ t183 true _ ?side1 ?side2 ?side3 ?side4 A13.out).mono ?_); (case side1 => repeat (first | exact (Kd.R_reads' HO178.out).2.2 | (with_reducible refine Kd.C_alloc ?_ _) | (with_reducible refine Kd.C_drewN ?_ _) | (with_reducible refine Kd.C_drew ?_))); (case side2 => exact (Kd.R_reads' HO178.out).2.1); (case side3 => repeat (first | exact (Kd.R_reads' HO185.out).2.2 | (with_reducible refine Kd.C_alloc ?_ _) | (with_reducible refine Kd.C_drewN ?_ _) | (with_reducible refine Kd.C_drew ?_))); (case side4 => exact (Kd.R_reads' HO185.out).2.1); rintro e w28 ⟨rfl, hb⟩; refine ⟨_, rfl, ?_⟩; have n0_ := Aside0.mk (Kd.R_below B3x2_ hb); have n1_ := Aside0.mk (Kd.R_below B3x3_ hb); have n2_ := Aside0.mk (Kd.R_below B3x4_ hb); have n3_ := Aside0.mk (Kd.Q_below B3x6_ hb); have n4_ := Aside0.mk (Kd.R_below B3x12_ hb); have n5_ := Aside0.mk (below_step B3x0_ hb); clear HO172; clear HO175; clear HO178; clear HO181; clear HO185; clear HB; have HO172 := n0_; have HO175 := n1_; have HO178 := n2_; have HO181 := n3_; have HO185 := n4_; have HB := n5_; clear n0_ n1_ n2_ n3_ n4_ n5_; (try clear hb); (try clear hb2); (try clear hk); (try clear hi)) | ((with_reducible refine gate_callee (f := 14) rfl ?_); refine goesL_ (some 42) rfl rfl Try.func14 B3x11_ rfl #[.slice Ao21 t176.length co21, .int .i64 1] rfl B3x1_ ?_; (with_reducible refine (laws_markKnownS.calls k (fun k_ => some k_ = (.slice Ao21 t176.length co21 : Value).ownBlock) (.slice Ao21 t176.length co21) t176 1 t187 t188 w _ ?side1 ?side2 A15.out).mono ?_); (case side1 => repeat (first | (with_reducible first | exact HB.out | apply below_alloc | apply pw_below_drewN | apply below_drew1) | exact HB.out)); (case side2 => exact Kd.Q_of_R (Kd.R_tight rfl HO178.out)); rintro e w29 ⟨rfl, hy0, hb, hkp⟩; refine ⟨_, rfl, ?_⟩; have n0_ := Aside0.mk (Kd.R_mono (ok' := fun k_ => some k_ ≠ (.slice Ao24 t173.length co24 : Value).ownBlock ∧ some k_ ≠ (.slice Ao21 t176.length co21 : Value).ownBlock ∧ some k_ ≠ (.slice Ao23 t179.length co23 : Value).ownBlock ∧ some k_ ≠ (.slice Ao27 t183.length co27 : Value).ownBlock) (Kd.R_keptB (HO172.out) hkp (fun k_ hk_ hs_ => (hk_.1.1.2) hs_)) (fun k_ hk_ => ⟨hk_.1.1.1.1.2, hk_.1.1.1.2, hk_.1.1.2, hk_.1.2⟩)); have n1_ := Aside0.mk (Kd.R_mono (ok' := fun k_ => some k_ ≠ (.slice Ao18 t170.length co18 : Value).ownBlock ∧ some k_ ≠ (.slice Ao21 t176.length co21 : Value).ownBlock ∧ some k_ ≠ (.slice Ao23 t179.length co23 : Value).ownBlock ∧ some k_ ≠ (.slice Ao27 t183.length co27 : Value).ownBlock) (Kd.R_keptB (HO175.out) hkp (fun k_ hk_ hs_ => (hk_.1.1.2) hs_)) (fun k_ hk_ => ⟨hk_.1.1.1.1.2, hk_.1.1.1.2, hk_.1.1.2, hk_.1.2⟩)); have n2_ := Aside0.mk (Short.Q_reok rfl hy0 (fun k_ e_ => HO178.out.1 k_ e_)); have n3_ := Aside0.mk (Kd.Q_mono (ok' := fun k_ => some k_ ≠ (.slice Ao18 t170.length co18 : Value).ownBlock ∧ some k_ ≠ (.slice Ao24 t173.length co24 : Value).ownBlock ∧ some k_ ≠ (.slice Ao21 t176.length co21 : Value).ownBlock ∧ some k_ ≠ (.slice Ao27 t183.length co27 : Value).ownBlock) (Kd.Q_keptB (HO181.out) hkp (fun k_ hk_ hs_ => (hk_.1.2) hs_)) (fun k_ hk_ => ⟨hk_.1.1.1.1.2, hk_.1.1.1.2, hk_.1.1.2, hk_.1.2⟩)); have n4_ := Aside0.mk (Kd.R_mono (ok' := fun k_ => some k_ ≠ (.slice Ao18 t170.length co18 : Value).ownBlock ∧ some k_ ≠ (.slice Ao24 t173.length co24 : Value).ownBlock ∧ some k_ ≠ (.slice Ao21 t176.length co21 : Value).ownBlock ∧ some k_ ≠ (.slice Ao23 t179.length co23 : Value).ownBlock) (Kd.R_keptB (HO185.out) hkp (fun k_ hk_ hs_ => (hk_.1.2) hs_)) (fun k_ hk_ => ⟨hk_.1.1.1.1.2, hk_.1.1.1.2, hk_.1.1.2, hk_.1.2⟩)); have n5_ := Aside0.mk (hb); clear HO172; clear HO175; clear HO178; clear HO181; clear HO185; clear HB; have HO172 := n0_; have HO175 := n1_; have HO178 := n2_; have HO181 := n3_; have HO185 := n4_; have HB := n5_; clear n0_ n1_ n2_ n3_ n4_ n5_; (try clear hb); (try clear hkp); (try clear hy0)))
    (try simp only [Act.put, List.setIfInBounds_toArray, List.set_cons_zero, List.set_cons_succ])
    go_cut [50] (fun v50 wc => ∃ (kq : Nat) (x50_15 : Bool), v50 = .bool x50_15 ∧ Aside0 (laws_FnExactLearn.j0 kq l0 a1 a2 t173 t179 x50_15 = some r) ∧ Aside0 (kq ≤ k) ∧ Aside0 (Kd.R k88 88 wc w.heap.size (fun k_ => some k_ ≠ ((.slice Ao23 t179.length co23) : Value).ownBlock) (.slice Ao24 t173.length co24) t173) ∧ Aside0 (Kd.Q k88 88 wc w.heap.size (fun k_ => some k_ ≠ ((.slice Ao24 t173.length co24) : Value).ownBlock) (.slice Ao23 t179.length co23) t179) ∧ Aside0 (Below w.heap.size w wc))
    case first =>
     have H := HC16.out
     clear HC16
     by_cases c30 : t187 < 0
     ·rw [if_pos c30] at H
      have c30b0 : decide (t187 < 0) = true := decide_eq_true c30
      clear c30
      (first | rw [c30b0] | (simp only [i64_w, i32_w]; rw [c30b0]) | skip)
      have H' := Aside0.mk H
      clear H
      go_wp2
      go_meet
      case rel => exact ⟨_, (true), (be_), H', ⟨by first | omega | exact Nat.le_refl _⟩, ⟨by (with_reducible repeat (first | apply Kd.R_alloc | apply Kd.R_drewN | apply Kd.R_drew)); exact Kd.R_mono HO175.out (fun _ hk => hk.2.2.1)⟩, ⟨by (with_reducible repeat (first | apply Kd.Q_alloc | apply Kd.Q_drewN | apply Kd.Q_drew)); exact Kd.Q_mono HO181.out (fun _ hk => hk.2.1)⟩, ⟨by repeat (first | (with_reducible first | exact HB.out | apply below_alloc | apply pw_below_drewN | apply below_drew1) | exact HB.out)⟩⟩
     ·rw [if_neg c30] at H
      have c30b0 : decide (t187 < 0) = false := decide_eq_false c30
      clear c30
      (first | rw [c30b0] | (simp only [i64_w, i32_w]; rw [c30b0]) | skip)
      replace H := Option.bind_eq_some_iff.mp H
      obtain ⟨t189, A310, H⟩ := H
      (try dsimp only at H)
      have A31 := Aside0.mk A310
      clear A310
      have H' := Aside0.mk H
      clear H
      go_wp2_with (first | (go_at_call 13; (with_reducible refine (laws_eqKnownS.calls k _ _ t179 _ _ t173 t189 _ ?side1 ?side2 ?side3 ?side4 A31.out).mono ?_); (case side1 => repeat (first | exact (Kd.Q_reads' HO181.out).2.2 | (with_reducible refine Kd.C_alloc ?_ _) | (with_reducible refine Kd.C_drewN ?_ _) | (with_reducible refine Kd.C_drew ?_))); (case side2 => exact (Kd.Q_reads' HO181.out).2.1); (case side3 => repeat (first | exact (Kd.R_reads' HO175.out).2.2 | (with_reducible refine Kd.C_alloc ?_ _) | (with_reducible refine Kd.C_drewN ?_ _) | (with_reducible refine Kd.C_drew ?_))); (case side4 => exact (Kd.R_reads' HO175.out).2.1); rintro e w32 ⟨rfl, hb⟩; have n0_ := Aside0.mk (Kd.R_below B3x2_ hb); have n1_ := Aside0.mk (Kd.R_below B3x3_ hb); have n2_ := Aside0.mk (Kd.Q_below (by (with_reducible repeat (first | apply Kd.Q_alloc | apply Kd.Q_drewN | apply Kd.Q_drew)); exact HO178.out) hb); have n3_ := Aside0.mk (Kd.Q_below B3x6_ hb); have n4_ := Aside0.mk (Kd.R_below B3x12_ hb); have n5_ := Aside0.mk (below_step B3x0_ hb); clear HO172; clear HO175; clear HO178; clear HO181; clear HO185; clear HB; have HO172 := n0_; have HO175 := n1_; have HO178 := n2_; have HO181 := n3_; have HO185 := n4_; have HB := n5_; clear n0_ n1_ n2_ n3_ n4_ n5_; (try clear hb); (try clear hb2); (try clear hk); (try clear hi)))
      go_meet
      case rel => exact ⟨_, (!t189), (be_), H', ⟨by first | omega | exact Nat.le_refl _⟩, ⟨by (with_reducible repeat (first | apply Kd.R_alloc | apply Kd.R_drewN | apply Kd.R_drew)); exact Kd.R_mono HO175.out (fun _ hk => hk.2.2.1)⟩, ⟨by (with_reducible repeat (first | apply Kd.Q_alloc | apply Kd.Q_drewN | apply Kd.Q_drew)); exact Kd.Q_mono HO181.out (fun _ hk => hk.2.1)⟩, ⟨by repeat (first | (with_reducible first | exact HB.out | apply below_alloc | apply pw_below_drewN | apply below_drew1) | exact HB.out)⟩⟩
    case rest =>
     clear HC16
     try clear c1
     try clear p2
     try clear c3
     try clear c5
     try clear c5b0
     try clear c9
     try clear c10
     try clear c11
     try clear c12
     try clear c13
     try clear c14
     try clear c30
     try clear c30b0
     obtain ⟨kq, x50_15, rfl, HA, HJ15, HO_8, HO_10, HB⟩ := hcut
     cases kq with
     | zero => exact absurd HA.out (by simp [laws_FnExactLearn.j0])
     | succ kj15 =>
      have H := HA.out
      clear HA
      simp only [laws_FnExactLearn.j0] at H
      by_cases c33 : x50_15 = true
      ·subst c33
       rw [if_pos rfl] at H
       exact absurd ((Option.some.inj H).trans hr_.out) (by decide)
      ·replace c33 := Bool.eq_false_iff.mpr c33
       subst c33
       rw [if_neg (show ¬ (false = true) by decide)] at H
       replace H := Option.bind_eq_some_iff.mp H
       obtain ⟨⟨t190, t191⟩, A340, H⟩ := H
       (try dsimp only at H)
       have A34 := Aside0.mk A340
       clear A340
       replace H := Option.bind_eq_some_iff.mp H
       obtain ⟨t192, A350, H⟩ := H
       (try dsimp only at H)
       have A35 := Aside0.mk A350
       clear A350
       by_cases c36 : t192 < 0
       ·rw [if_pos c36] at H
        have c36b0 : decide (t192 < 0) = true := decide_eq_true c36
        clear c36
        exact absurd ((Option.some.inj H).trans hr_.out) (by decide)
       ·rw [if_neg c36] at H
        have c36b0 : decide (t192 < 0) = false := decide_eq_false c36
        clear c36
        by_cases c37 : t192 = t190
        ·rw [if_pos c37] at H
         have c37b0 : (t192 == t190) = true := beq_iff_eq.mpr c37
         have c37b1 : (t192 != t190) = false := bne_eq_false_iff_eq.mpr c37
         clear c37
         replace H := Option.bind_eq_some_iff.mp H
         obtain ⟨t193, A380, H⟩ := H
         (try dsimp only at H)
         have A38 := Aside0.mk A380
         clear A380
         replace H := Option.bind_eq_some_iff.mp H
         obtain ⟨t196, A390, H⟩ := H
         (try dsimp only at H)
         have A39 := Aside0.mk A390
         clear A390
         replace H := Option.bind_eq_some_iff.mp H
         obtain ⟨t199, A400, H⟩ := H
         (try dsimp only at H)
         have A40 := Aside0.mk A400
         clear A400
         by_cases c41 : t199 = true
         ·subst c41
          rw [if_pos rfl] at H
          replace H := Option.bind_eq_some_iff.mp H
          obtain ⟨t200, A420, H⟩ := H
          (try dsimp only at H)
          have A42 := Aside0.mk A420
          clear A420
          by_cases c43 : t200 < 0
          ·rw [if_pos c43] at H
           have c43b0 : decide (t200 < 0) = true := decide_eq_true c43
           clear c43
           exact absurd ((Option.some.inj H).trans hr_.out) (by decide)
          ·rw [if_neg c43] at H
           have c43b0 : decide (t200 < 0) = false := decide_eq_false c43
           clear c43
           by_cases c44 : t200 = t190
           ·rw [if_pos c44] at H
            have c44b0 : (t200 == t190) = true := beq_iff_eq.mpr c44
            have c44b1 : (t200 != t190) = false := bne_eq_false_iff_eq.mpr c44
            clear c44
            obtain rfl := Option.some.inj H
            go_wp2_with (first | ((with_reducible refine gate_callee (f := 14) rfl ?_); refine goesL_ (some 53) rfl rfl Try.func14 B3x11_ rfl #[.slice Ao23 t179.length co23, .int .i64 1] rfl B3x1_ ?_; (with_reducible refine (laws_markKnownS.calls kj15 (fun k_ => some k_ = (.slice Ao23 t179.length co23 : Value).ownBlock) (.slice Ao23 t179.length co23) t179 1 t190 t191 w _ ?side1 ?side2 A34.out).mono ?_); (case side1 => repeat (first | (with_reducible first | exact HB.out | apply below_alloc | apply pw_below_drewN | apply below_drew1) | exact HB.out)); (case side2 => exact Kd.Q_tight rfl HO_10.out); rintro e w45 ⟨rfl, hy0, hb, hkp⟩; refine ⟨_, rfl, ?_⟩; have n0_ := Aside0.mk (Kd.R_mono (ok' := fun k_ => some k_ ≠ (.slice Ao23 t179.length co23 : Value).ownBlock) (Kd.R_keptB (HO_8.out) hkp (fun k_ hk_ hs_ => (hk_) hs_)) (fun k_ hk_ => hk_.1)); have n1_ := Aside0.mk (Short.Q_reok rfl hy0 (fun k_ e_ => HO_10.out.1 k_ e_)); have n2_ := Aside0.mk (hb); clear HO_8; clear HO_10; clear HB; have HO_8 := n0_; have HO_10 := n1_; have HB := n2_; clear n0_ n1_ n2_; (try clear hb); (try clear hkp); (try clear hy0)) | ((with_reducible refine gate_callee (f := 15) rfl ?_); refine goesL_ (some 56) rfl rfl Try.func15 B3x11_ rfl #[.slice Ao23 t191.length co23, .int .i64 1] rfl B3x9_ ?_; (with_reducible refine (laws_heldKnownS.calls kj15 _ _ t191 1 t192 _ ?side1 ?side2 A35.out).mono ?_); (case side1 => repeat (first | exact (Kd.Q_reads' HO_10.out).2.2 | (with_reducible refine Kd.C_alloc ?_ _) | (with_reducible refine Kd.C_drewN ?_ _) | (with_reducible refine Kd.C_drew ?_))); (case side2 => rw [show t191.length = t179.length from (Kd.Q_reads' HO_10.out).1.symm]; exact (Kd.Q_reads' HO_10.out).2.1); rintro e w' ⟨rfl, ⟨nd, rfl⟩⟩; refine ⟨_, rfl, ?_⟩) | ((with_reducible refine gate_callee (f := 11) rfl ?_); refine goesL_ (some 63) rfl rfl Try.func11 B3x11_ rfl #[.slice A0 l0.length c0] rfl B3x1_ ?_; (with_reducible refine (laws_toKnownS.calls kj15 _ _ l0 t193 _ ?side1 ?side2 A38.out).mono ?_); (case side1 => repeat (first | exact (Kd.C_below HR0.out B3x0_) | (with_reducible refine Kd.C_alloc ?_ _) | (with_reducible refine Kd.C_drewN ?_ _) | (with_reducible refine Kd.C_drew ?_))); (case side2 => exact HC0.out); rintro e w46 ⟨v194, rfl, ho0, hb⟩; refine ⟨_, rfl, ?_⟩; have n0_ := Aside0.mk (Kd.R_elder' B3x8_ (Kd.R_base ho0) hb); have n1_ := Aside0.mk (Kd.Q_elder' B3x7_ (Kd.R_base ho0) hb); have n2_ := Aside0.mk (Kd.R_lower (Kd.R_new' (Kd.R_new' ho0 (Kd.R_lt B3x8_)) (Kd.Q_lt B3x7_)) (below_size B3x0_)); have n3_ := Aside0.mk (below_step B3x0_ hb); clear HO_8; clear HO_10; clear HB; have HO_8 := n0_; have HO_10 := n1_; have HO195 := n2_; have HB := n3_; clear n0_ n1_ n2_ n3_; (try clear hb); (try clear hb2); (try clear hk); (try clear hi); (try clear ho0); obtain ⟨Ao47, co47, eo47⟩ := Kd.R_slice HO195.out; subst eo47) | ((with_reducible refine gate_callee (f := 12) rfl ?_); refine goesL_ (some 66) rfl rfl Try.func12 B3x11_ rfl #[.slice Ao47 t193.length co47, .int .i64 a1, .int .i64 a2] rfl B3x1_ ?_; (with_reducible refine (impl_Learn.calls kj15 _ _ t193 a1 a2 t196 _ ?side1 ?side2 A39.out).mono ?_); (case side1 => repeat (first | exact (Kd.R_reads' HO195.out).2.2 | (with_reducible refine Kd.C_alloc ?_ _) | (with_reducible refine Kd.C_drewN ?_ _) | (with_reducible refine Kd.C_drew ?_))); (case side2 => exact (Kd.R_reads' HO195.out).2.1); rintro e w48 ⟨v197, rfl, ho0, hb⟩; refine ⟨_, rfl, ?_⟩; have n0_ := Aside0.mk (Kd.R_elder' B3x8_ (Kd.Q_base ho0) hb); have n1_ := Aside0.mk (Kd.Q_elder' B3x7_ (Kd.Q_base ho0) hb); have n2_ := Aside0.mk (Kd.R_elder' B3x10_ (Kd.Q_base ho0) hb); have n3_ := Aside0.mk (Kd.Q_lower (Kd.Q_new' (Kd.Q_new' (Kd.Q_new' ho0 (Kd.R_lt B3x8_)) (Kd.Q_lt B3x7_)) (Kd.R_lt B3x10_)) (below_size B3x0_)); have n4_ := Aside0.mk (below_step B3x0_ hb); clear HO_8; clear HO_10; clear HO195; clear HB; have HO_8 := n0_; have HO_10 := n1_; have HO195 := n2_; have HO198 := n3_; have HB := n4_; clear n0_ n1_ n2_ n3_ n4_; (try clear hb); (try clear hb2); (try clear hk); (try clear hi); (try clear ho0); obtain ⟨Ao49, co49, eo49, _⟩ := Kd.Q_slice HO198.out; subst eo49) | ((with_reducible refine gate_callee (f := 13) rfl ?_); refine goesL_ (some 69) rfl rfl Try.func13 B3x11_ rfl #[.slice Ao49 t196.length co49, .slice Ao24 t173.length co24] rfl B3x1_ ?_; (with_reducible refine (laws_eqKnownS.calls kj15 _ _ t196 _ _ t173 true _ ?side1 ?side2 ?side3 ?side4 A40.out).mono ?_); (case side1 => repeat (first | exact (Kd.Q_reads' HO198.out).2.2 | (with_reducible refine Kd.C_alloc ?_ _) | (with_reducible refine Kd.C_drewN ?_ _) | (with_reducible refine Kd.C_drew ?_))); (case side2 => exact (Kd.Q_reads' HO198.out).2.1); (case side3 => repeat (first | exact (Kd.R_reads' HO_8.out).2.2 | (with_reducible refine Kd.C_alloc ?_ _) | (with_reducible refine Kd.C_drewN ?_ _) | (with_reducible refine Kd.C_drew ?_))); (case side4 => exact (Kd.R_reads' HO_8.out).2.1); rintro e w50 ⟨rfl, hb⟩; refine ⟨_, rfl, ?_⟩; have n0_ := Aside0.mk (Kd.R_below B3x8_ hb); have n1_ := Aside0.mk (Kd.Q_below B3x7_ hb); have n2_ := Aside0.mk (Kd.R_below B3x10_ hb); have n3_ := Aside0.mk (Kd.Q_below (by (with_reducible repeat (first | apply Kd.Q_alloc | apply Kd.Q_drewN | apply Kd.Q_drew)); exact HO198.out) hb); have n4_ := Aside0.mk (below_step B3x0_ hb); clear HO_8; clear HO_10; clear HO195; clear HO198; clear HB; have HO_8 := n0_; have HO_10 := n1_; have HO195 := n2_; have HO198 := n3_; have HB := n4_; clear n0_ n1_ n2_ n3_ n4_; (try clear hb); (try clear hb2); (try clear hk); (try clear hi)) | ((with_reducible refine gate_callee (f := 15) rfl ?_); refine goesL_ (some 73) rfl rfl Try.func15 B3x11_ rfl #[.slice Ao23 t191.length co23, .int .i64 1] rfl B3x9_ ?_; (with_reducible refine (laws_heldKnownS.calls kj15 _ _ t191 1 t200 _ ?side1 ?side2 A42.out).mono ?_); (case side1 => repeat (first | exact (Kd.Q_reads' HO_10.out).2.2 | (with_reducible refine Kd.C_alloc ?_ _) | (with_reducible refine Kd.C_drewN ?_ _) | (with_reducible refine Kd.C_drew ?_))); (case side2 => rw [show t191.length = t179.length from (Kd.Q_reads' HO_10.out).1.symm]; exact (Kd.Q_reads' HO_10.out).2.1); rintro e w' ⟨rfl, ⟨nd, rfl⟩⟩; refine ⟨_, rfl, ?_⟩))
            go_ret
            exact ⟨by first | rfl | (simp [errW_none, errW_some] <;> rfl) | (simp [*, errW_none, errW_some] <;> rfl), by repeat (first | (with_reducible first | exact HB.out | apply below_alloc | apply pw_below_drewN | apply below_drew1) | exact HB.out)⟩
           ·rw [if_neg c44] at H
            have c44b0 : (t200 == t190) = false := beq_eq_false_iff_ne.mpr c44
            have c44b1 : (t200 != t190) = true := bne_iff_ne.mpr c44
            exact absurd ((Option.some.inj H).trans hr_.out) (by decide)
         ·replace c41 := Bool.eq_false_iff.mpr c41
          subst c41
          rw [if_neg (show ¬ (false = true) by decide)] at H
          exact absurd ((Option.some.inj H).trans hr_.out) (by decide)
        ·rw [if_neg c37] at H
         have c37b0 : (t192 == t190) = false := beq_eq_false_iff_ne.mpr c37
         have c37b1 : (t192 != t190) = true := bne_iff_ne.mpr c37
         exact absurd ((Option.some.inj H).trans hr_.out) (by decide)
   ·replace c14 := Bool.eq_false_iff.mpr c14
    subst c14
    rw [if_neg (show ¬ (false = true) by decide)] at H
    exact absurd ((Option.some.inj H).trans hr_.out) (by decide)
  ·replace c11 := Bool.eq_false_iff.mpr c11
   subst c11
   rw [if_neg (show ¬ (false = true) by decide)] at H
   exact absurd ((Option.some.inj H).trans hr_.out) (by decide)

end Go.Proofs.Ytideegpoakkgeaa.QFnExactLearn
