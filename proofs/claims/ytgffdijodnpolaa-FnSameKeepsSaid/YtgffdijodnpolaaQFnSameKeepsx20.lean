/- Functions that a law reaches, as functions of Lean, and the walks that show that the calls come to their answers: written by a program of this project out of the translation. No condition. -/
import Derived.Test.YtgffdijodnpolaaQFnSameKeepsx0
import Derived.Test.YtgffdijodnpolaaQFnSameKeepsx1
import Derived.Test.YtgffdijodnpolaaQFnSameKeepsx2
import Derived.Test.YtgffdijodnpolaaVFnSameKeepsShort4
import Derived.Test.YtgffdijodnpolaaVFnSameKeepshort3
import Derived.Test.YtgffdijodnpolaaVFnSameKeepsShort2
import Derived.Test.YtgffdijodnpolaaVFnSameKeepsShort
import Derived.Test.YtgffdijodnpolaaVFnSameKeepshort5
namespace Go.Proofs.Ytgffdijodnpolaa.QFnSameKeeps
open Go.RowKit Go.Proofs.YtgffdijodnpolaaW.PrintWords Go.Proofs.YtgffdijodnpolaaW.PrintLast Go.Proofs.YtgffdijodnpolaaW.PrintMore Go.Proofs.Ytgffdijodnpolaa.Short
attribute [local go_sem] max2_int min2_int max_two min_two max_three min_three max_four min_four   -- for this text's walks alone
set_option linter.unusedVariables false
set_option linter.unusedSimpArgs false

attribute [local go_sem high] eqA81 eqA83
theorem B20x10_ {p : Prop} (h : p := by first | rfl | (simp [errW_none, errW_some] <;> rfl) | (simp [*, errW_none, errW_some] <;> rfl)) : p := h
/-! ### impl_Session: function 61 -/
def impl_Session.l0 : Nat → List (S83) → List (S83) → Int → Int → Option (Bool)
 | 0, _, _, _, _ => none
 | k + 1, x0, x1, x12, x13 => if x13 < x12 then (if 0 ≤ x13 then (if x13 < (x0.length : Int) then (if x13 < (x1.length : Int) then (if (!(((rd_T83 x0 x13).f0) == ((rd_T83 x1 x13).f0)) || (!(((rd_T83 x0 x13).f1) == ((rd_T83 x1 x13).f1)) || (!((((rd_T83 x0 x13).f2).toList) == (((rd_T83 x1 x13).f2).toList))))) = true then (some false) else (impl_Session.l0 k x0 x1 x12 (wrap64 (x13 + 1)))) else (none)) else (none)) else (none)) else (some true)
def impl_Session.f (k : Nat) (l0 : List (S83)) (l1 : List (S83)) : Option (Bool) := if (l0.length : Int) = (l1.length : Int) then (impl_Session.l0 k l0 l1 (l0.length : Int) 0) else (some false)
theorem impl_Session.mono_l : ∀ k, (∀ y0 y1 y2 y3, LeO (impl_Session.l0 k y0 y1 y2 y3) (impl_Session.l0 (k + 1) y0 y1 y2 y3))
 | 0 => fun _ _ _ _ r h => by simp [impl_Session.l0] at h
 | k + 1 => by
  have ih0 := impl_Session.mono_l k
  ·intro y0 y1 y2 y3
   unfold impl_Session.l0
   repeat' (with_reducible first | exact ih0 .. | exact LeO.refl _ | exact LeO.none _ | refine LeO.ite ?_ ?_ | refine LeO.bind ?_ (fun _ => ?_))
theorem impl_Session.mono : ∀ a0 a1 k, LeO (impl_Session.f k a0 a1) (impl_Session.f (k + 1) a0 a1) := by
 intro a0 a1 k
 have ih0 := impl_Session.mono_l k
 unfold impl_Session.f
 repeat' (with_reducible first | exact ih0 .. | exact LeO.refl _ | exact LeO.none _ | refine LeO.ite ?_ ?_ | refine LeO.bind ?_ (fun _ => ?_))
set_option maxHeartbeats 8000000 in
set_option maxRecDepth 100000 in
theorem impl_Session.calls (k : Nat) (A0 : Option Addr) (c0 : Nat) (l0 : List (S83)) (A1 : Option Addr) (c1 : Nat) (l1 : List (S83)) (r : Bool) (w : World) (hr0 : Kd.C k83 w A0 l0.length l0) (hc0 : l0.length ≤ c0) (hr1 : Kd.C k83 w A1 l1.length l1) (hc1 : l1.length ≤ c1) (h : impl_Session.f k l0 l1 = some r) :
  Calls Try.prog 61 #[.slice A0 l0.length c0, .slice A1 l1.length c1] w fun e w' => e = .returned (.bool r) ∧ Drawn0 w w' := by
 have hu83 := Try.underlying83
 have HR0 := am hr0
 have HC0 := am hc0
 clear hr0 hc0
 have HR1 := am hr1
 have HC1 := am hc1
 clear hr1 hc1
 have H : (if (l0.length : Int) = (l1.length : Int) then (impl_Session.l0 k l0 l1 (l0.length : Int) 0) else (some false)) = some r := h
 clear h
 by_cases c3 : (l0.length : Int) = (l1.length : Int)
 ·rw [if_pos c3] at H; have c3b0 := beq_iff_eq.mpr c3; have c3b1 := bne_eq_false_iff_eq.mpr c3
  have c3b2 : (l0.length == l1.length) = true := by first | simpa using c3 | (simp at c3 ⊢; omega)
  clear c3
  have H' := am H
  clear H; go_enter Try.func61, Try.ntmps61
  go_wp2
  repeat (go_quiet (fail); try go_wp2)
  go_loopg [13] k (fun kq v13 w' => ∃ (x13_1 : Int), v13 = .int .i64 x13_1 ∧ Aside0 (impl_Session.l0 kq l0 l1 (l0.length : Int) x13_1 = some r) ∧ Aside0 (kq ≤ k) ∧ Drawn0 w w')
  case atStart => exact ⟨(0), (be_), H', ⟨Nat.le_refl _⟩, gd_⟩
  case round =>
   clear H'
   try clear c1
   try clear c3
   try clear c3b0
   try clear c3b1
   try clear c3b2
   obtain ⟨x13_1, rfl, HA, HK1, ⟨m1, rfl⟩⟩ := hrel
   cases gk with
   | zero => exact absurd HA.out (by simp [impl_Session.l0])
   | succ k1 =>
    have H := HA.out; clear HA; simp only [impl_Session.l0] at H
    by_cases c4 : x13_1 < (l0.length : Int)
    ·rw [if_pos c4] at H
     have c4b0 : decide (x13_1 < (l0.length : Int)) = true := decide_eq_true c4
     clear c4
     by_cases c5 : 0 ≤ x13_1
     rotate_left
     ·rw [if_neg c5] at H; exact absurd H (by simp)
     rw [if_pos c5] at H
     have c5b0 : decide (0 ≤ x13_1) = true := decide_eq_true c5
     clear c5
     by_cases c6 : x13_1 < (l0.length : Int)
     rotate_left
     ·rw [if_neg c6] at H; exact absurd H (by simp)
     rw [if_pos c6] at H
     have c6b0 : decide (x13_1 < (l0.length : Int)) = true := decide_eq_true c6
     clear c6
     by_cases c7 : x13_1 < (l1.length : Int)
     rotate_left
     ·rw [if_neg c7] at H; exact absurd H (by simp)
     rw [if_pos c7] at H
     have c7b0 : decide (x13_1 < (l1.length : Int)) = true := decide_eq_true c7
     clear c7
     by_cases c8 : (!(((rd_T83 l0 x13_1).f0) == ((rd_T83 l1 x13_1).f0)) || (!(((rd_T83 l0 x13_1).f1) == ((rd_T83 l1 x13_1).f1)) || (!((((rd_T83 l0 x13_1).f2).toList) == (((rd_T83 l1 x13_1).f2).toList))))) = true
     ·rw [if_pos c8] at H
      have c8b0 : (!(((rd_T83 l0 x13_1).f0) == ((rd_T83 l1 x13_1).f0)) || (!(((rd_T83 l0 x13_1).f1) == ((rd_T83 l1 x13_1).f1)) || (!((((rd_T83 l0 x13_1).f2).toList) == (((rd_T83 l1 x13_1).f2).toList))))) = true := c8
      clear c8; obtain rfl := Option.some.inj H
      have p530 : 0 ≤ (x13_1 : Int) := dga
      have q530 : x13_1 < (l0.length : Int) := dga
      obtain ⟨ad530, e530, hx530_0, hx530_1, hx530_2⟩ := at_T83 HR0.out x13_1 p530 q530; cases e530; replace p530 := eq_true p530; replace q530 := eq_true q530
      have p531 : 0 ≤ (x13_1 : Int) := dga
      have q531 : x13_1 < (l1.length : Int) := dga
      obtain ⟨ad531, e531, hx531_0, hx531_1, hx531_2⟩ := at_T83 HR1.out x13_1 p531 q531; cases e531; replace p531 := eq_true p531; replace q531 := eq_true q531
      go_wp2
      repeat (go_quiet (fail); try go_wp2)
      go_ret; exact ⟨gr_, gd_⟩
     ·rw [if_neg c8] at H
      have c8b0 : (!(((rd_T83 l0 x13_1).f0) == ((rd_T83 l1 x13_1).f0)) || (!(((rd_T83 l0 x13_1).f1) == ((rd_T83 l1 x13_1).f1)) || (!((((rd_T83 l0 x13_1).f2).toList) == (((rd_T83 l1 x13_1).f2).toList))))) = false := by simpa using c8
      clear c8
      have H' := am H
      clear H
      have p530 : 0 ≤ (x13_1 : Int) := dga
      have q530 : x13_1 < (l0.length : Int) := dga
      obtain ⟨ad530, e530, hx530_0, hx530_1, hx530_2⟩ := at_T83 HR0.out x13_1 p530 q530; cases e530; replace p530 := eq_true p530; replace q530 := eq_true q530
      have p531 : 0 ≤ (x13_1 : Int) := dga
      have q531 : x13_1 < (l1.length : Int) := dga
      obtain ⟨ad531, e531, hx531_0, hx531_1, hx531_2⟩ := at_T83 HR1.out x13_1 p531 q531; cases e531; replace p531 := eq_true p531; replace q531 := eq_true q531
      go_wp2
      repeat (go_quiet (fail); try go_wp2)
      go_roundg k1
      case measure => have := HK1.out; omega
      case rel => exact ⟨(wrap64 (x13_1 + 1)), (be_), H', ⟨(by have := HK1.out; omega)⟩, gd_⟩
    ·rw [if_neg c4] at H
     have c4b0 : decide (x13_1 < (l0.length : Int)) = false := decide_eq_false c4
     clear c4; obtain rfl := Option.some.inj H
     go_wp2
     repeat (go_quiet (fail); try go_wp2)
     go_ret; exact ⟨gr_, gd_⟩
 ·rw [if_neg c3] at H; have c3b0 := beq_eq_false_iff_ne.mpr c3; have c3b1 := bne_iff_ne.mpr c3
  have c3b2 : (l0.length == l1.length) = false := by first | simpa using c3 | (simp at c3 ⊢; omega)
  obtain rfl := Option.some.inj H; go_enter Try.func61, Try.ntmps61
  go_wp2
  repeat (go_quiet (fail); try go_wp2)
  go_ret; exact ⟨gr_, gd_⟩

/-! ### impl_Item: function 62 -/
def impl_Item.l0 : Nat → List (S81) → List (S81) → Int → Int → Option (Bool)
 | 0, _, _, _, _ => none
 | k + 1, x0, x1, x12, x13 => if x13 < x12 then (if 0 ≤ x13 then (if x13 < (x0.length : Int) then (if x13 < (x1.length : Int) then (if (!((((rd_T81 x0 x13).f0).toList) == (((rd_T81 x1 x13).f0).toList)) || (!((((rd_T81 x0 x13).f1).toList) == (((rd_T81 x1 x13).f1).toList)) || (!(((rd_T81 x0 x13).f2) == ((rd_T81 x1 x13).f2))))) = true then (some false) else (impl_Item.l0 k x0 x1 x12 (wrap64 (x13 + 1)))) else (none)) else (none)) else (none)) else (some true)
def impl_Item.f (k : Nat) (l0 : List (S81)) (l1 : List (S81)) : Option (Bool) := if (l0.length : Int) = (l1.length : Int) then (impl_Item.l0 k l0 l1 (l0.length : Int) 0) else (some false)
theorem impl_Item.mono_l : ∀ k, (∀ y0 y1 y2 y3, LeO (impl_Item.l0 k y0 y1 y2 y3) (impl_Item.l0 (k + 1) y0 y1 y2 y3))
 | 0 => fun _ _ _ _ r h => by simp [impl_Item.l0] at h
 | k + 1 => by
  have ih0 := impl_Item.mono_l k
  ·intro y0 y1 y2 y3
   unfold impl_Item.l0
   repeat' (with_reducible first | exact ih0 .. | exact LeO.refl _ | exact LeO.none _ | refine LeO.ite ?_ ?_ | refine LeO.bind ?_ (fun _ => ?_))
theorem impl_Item.mono : ∀ a0 a1 k, LeO (impl_Item.f k a0 a1) (impl_Item.f (k + 1) a0 a1) := by
 intro a0 a1 k
 have ih0 := impl_Item.mono_l k
 unfold impl_Item.f
 repeat' (with_reducible first | exact ih0 .. | exact LeO.refl _ | exact LeO.none _ | refine LeO.ite ?_ ?_ | refine LeO.bind ?_ (fun _ => ?_))
set_option maxHeartbeats 8000000 in
set_option maxRecDepth 100000 in
theorem impl_Item.calls (k : Nat) (A0 : Option Addr) (c0 : Nat) (l0 : List (S81)) (A1 : Option Addr) (c1 : Nat) (l1 : List (S81)) (r : Bool) (w : World) (hr0 : Kd.C k81 w A0 l0.length l0) (hc0 : l0.length ≤ c0) (hr1 : Kd.C k81 w A1 l1.length l1) (hc1 : l1.length ≤ c1) (h : impl_Item.f k l0 l1 = some r) :
  Calls Try.prog 62 #[.slice A0 l0.length c0, .slice A1 l1.length c1] w fun e w' => e = .returned (.bool r) ∧ Drawn0 w w' := by
 have hu81 := Try.underlying81
 have HR0 := am hr0
 have HC0 := am hc0
 clear hr0 hc0
 have HR1 := am hr1
 have HC1 := am hc1
 clear hr1 hc1
 have H : (if (l0.length : Int) = (l1.length : Int) then (impl_Item.l0 k l0 l1 (l0.length : Int) 0) else (some false)) = some r := h
 clear h
 by_cases c3 : (l0.length : Int) = (l1.length : Int)
 ·rw [if_pos c3] at H; have c3b0 := beq_iff_eq.mpr c3; have c3b1 := bne_eq_false_iff_eq.mpr c3
  have c3b2 : (l0.length == l1.length) = true := by first | simpa using c3 | (simp at c3 ⊢; omega)
  clear c3
  have H' := am H
  clear H; go_enter Try.func62, Try.ntmps62
  go_wp2
  repeat (go_quiet (fail); try go_wp2)
  go_loopg [13] k (fun kq v13 w' => ∃ (x13_1 : Int), v13 = .int .i64 x13_1 ∧ Aside0 (impl_Item.l0 kq l0 l1 (l0.length : Int) x13_1 = some r) ∧ Aside0 (kq ≤ k) ∧ Drawn0 w w')
  case atStart => exact ⟨(0), (be_), H', ⟨Nat.le_refl _⟩, gd_⟩
  case round =>
   clear H'
   try clear c1
   try clear c3
   try clear c3b0
   try clear c3b1
   try clear c3b2
   obtain ⟨x13_1, rfl, HA, HK1, ⟨m1, rfl⟩⟩ := hrel
   cases gk with
   | zero => exact absurd HA.out (by simp [impl_Item.l0])
   | succ k1 =>
    have H := HA.out; clear HA; simp only [impl_Item.l0] at H
    by_cases c4 : x13_1 < (l0.length : Int)
    ·rw [if_pos c4] at H
     have c4b0 : decide (x13_1 < (l0.length : Int)) = true := decide_eq_true c4
     clear c4
     by_cases c5 : 0 ≤ x13_1
     rotate_left
     ·rw [if_neg c5] at H; exact absurd H (by simp)
     rw [if_pos c5] at H
     have c5b0 : decide (0 ≤ x13_1) = true := decide_eq_true c5
     clear c5
     by_cases c6 : x13_1 < (l0.length : Int)
     rotate_left
     ·rw [if_neg c6] at H; exact absurd H (by simp)
     rw [if_pos c6] at H
     have c6b0 : decide (x13_1 < (l0.length : Int)) = true := decide_eq_true c6
     clear c6
     by_cases c7 : x13_1 < (l1.length : Int)
     rotate_left
     ·rw [if_neg c7] at H; exact absurd H (by simp)
     rw [if_pos c7] at H
     have c7b0 : decide (x13_1 < (l1.length : Int)) = true := decide_eq_true c7
     clear c7
     by_cases c8 : (!((((rd_T81 l0 x13_1).f0).toList) == (((rd_T81 l1 x13_1).f0).toList)) || (!((((rd_T81 l0 x13_1).f1).toList) == (((rd_T81 l1 x13_1).f1).toList)) || (!(((rd_T81 l0 x13_1).f2) == ((rd_T81 l1 x13_1).f2))))) = true
     ·rw [if_pos c8] at H
      have c8b0 : (!((((rd_T81 l0 x13_1).f0).toList) == (((rd_T81 l1 x13_1).f0).toList)) || (!((((rd_T81 l0 x13_1).f1).toList) == (((rd_T81 l1 x13_1).f1).toList)) || (!(((rd_T81 l0 x13_1).f2) == ((rd_T81 l1 x13_1).f2))))) = true := c8
      clear c8; obtain rfl := Option.some.inj H
      have p532 : 0 ≤ (x13_1 : Int) := dga
      have q532 : x13_1 < (l0.length : Int) := dga
      obtain ⟨ad532, e532, hx532_0, hx532_1, hx532_2⟩ := at_T81 HR0.out x13_1 p532 q532; cases e532; replace p532 := eq_true p532; replace q532 := eq_true q532
      have p533 : 0 ≤ (x13_1 : Int) := dga
      have q533 : x13_1 < (l1.length : Int) := dga
      obtain ⟨ad533, e533, hx533_0, hx533_1, hx533_2⟩ := at_T81 HR1.out x13_1 p533 q533; cases e533; replace p533 := eq_true p533; replace q533 := eq_true q533
      go_wp2
      repeat (go_quiet (fail); try go_wp2)
      go_ret; exact ⟨gr_, gd_⟩
     ·rw [if_neg c8] at H
      have c8b0 : (!((((rd_T81 l0 x13_1).f0).toList) == (((rd_T81 l1 x13_1).f0).toList)) || (!((((rd_T81 l0 x13_1).f1).toList) == (((rd_T81 l1 x13_1).f1).toList)) || (!(((rd_T81 l0 x13_1).f2) == ((rd_T81 l1 x13_1).f2))))) = false := by simpa using c8
      clear c8
      have H' := am H
      clear H
      have p532 : 0 ≤ (x13_1 : Int) := dga
      have q532 : x13_1 < (l0.length : Int) := dga
      obtain ⟨ad532, e532, hx532_0, hx532_1, hx532_2⟩ := at_T81 HR0.out x13_1 p532 q532; cases e532; replace p532 := eq_true p532; replace q532 := eq_true q532
      have p533 : 0 ≤ (x13_1 : Int) := dga
      have q533 : x13_1 < (l1.length : Int) := dga
      obtain ⟨ad533, e533, hx533_0, hx533_1, hx533_2⟩ := at_T81 HR1.out x13_1 p533 q533; cases e533; replace p533 := eq_true p533; replace q533 := eq_true q533
      go_wp2
      repeat (go_quiet (fail); try go_wp2)
      go_roundg k1
      case measure => have := HK1.out; omega
      case rel => exact ⟨(wrap64 (x13_1 + 1)), (be_), H', ⟨(by have := HK1.out; omega)⟩, gd_⟩
    ·rw [if_neg c4] at H
     have c4b0 : decide (x13_1 < (l0.length : Int)) = false := decide_eq_false c4
     clear c4; obtain rfl := Option.some.inj H
     go_wp2
     repeat (go_quiet (fail); try go_wp2)
     go_ret; exact ⟨gr_, gd_⟩
 ·rw [if_neg c3] at H; have c3b0 := beq_eq_false_iff_ne.mpr c3; have c3b1 := bne_iff_ne.mpr c3
  have c3b2 : (l0.length == l1.length) = false := by first | simpa using c3 | (simp at c3 ⊢; omega)
  obtain rfl := Option.some.inj H; go_enter Try.func62, Try.ntmps62
  go_wp2
  repeat (go_quiet (fail); try go_wp2)
  go_ret; exact ⟨gr_, gd_⟩

/-! ### impl_SameKeep: function 23 -/
def impl_SameKeep.f (k : Nat) (l0_0 : List (S83)) (l0_1 : List (S81)) (l1_0 : List (S83)) (l1_1 : List (S81)) : Option (Bool) := (impl_Session.f k l0_0 l1_0).bind fun t536 => (if t536 = true then ((impl_Item.f k l0_1 l1_1).bind fun t537 => (some t537)) else (some false))
theorem impl_SameKeep.mono : ∀ a0 a1 a2 a3 k, LeO (impl_SameKeep.f k a0 a1 a2 a3) (impl_SameKeep.f (k + 1) a0 a1 a2 a3) := by
 intro a0 a1 a2 a3 k
 unfold impl_SameKeep.f
 repeat' (with_reducible first | exact impl_Item.mono .. | exact impl_Session.mono .. | exact LeO.refl _ | exact LeO.none _ | refine LeO.ite ?_ ?_ | refine LeO.bind ?_ (fun _ => ?_))
set_option maxHeartbeats 8000000 in
set_option maxRecDepth 100000 in
theorem impl_SameKeep.calls (k : Nat) (A0_0 : Option Addr) (c0_0 : Nat) (l0_0 : List (S83)) (A0_1 : Option Addr) (c0_1 : Nat) (l0_1 : List (S81)) (A1_0 : Option Addr) (c1_0 : Nat) (l1_0 : List (S83)) (A1_1 : Option Addr) (c1_1 : Nat) (l1_1 : List (S81)) (r : Bool) (w : World) (hr0_0 : Kd.C k83 w A0_0 l0_0.length l0_0) (hc0_0 : l0_0.length ≤ c0_0) (hr0_1 : Kd.C k81 w A0_1 l0_1.length l0_1) (hc0_1 : l0_1.length ≤ c0_1) (hr1_0 : Kd.C k83 w A1_0 l1_0.length l1_0) (hc1_0 : l1_0.length ≤ c1_0) (hr1_1 : Kd.C k81 w A1_1 l1_1.length l1_1) (hc1_1 : l1_1.length ≤ c1_1) (h : impl_SameKeep.f k l0_0 l0_1 l1_0 l1_1 = some r) :
  Calls Try.prog 23 #[.agg #[.slice A0_0 l0_0.length c0_0, .slice A0_1 l0_1.length c0_1], .agg #[.slice A1_0 l1_0.length c1_0, .slice A1_1 l1_1.length c1_1]] w fun e w' => e = .returned (.bool r) ∧ Below w.heap.size w w' := by
 have hu47 := Try.underlying47
 have HR0_0 := am hr0_0
 have HC0_0 := am hc0_0
 clear hr0_0 hc0_0
 have HR0_1 := am hr0_1
 have HC0_1 := am hc0_1
 clear hr0_1 hc0_1
 have HR1_0 := am hr1_0
 have HC1_0 := am hc1_0
 clear hr1_0 hc1_0
 have HR1_1 := am hr1_1
 have HC1_1 := am hc1_1
 clear hr1_1 hc1_1
 have HB := am (Below.refl w.heap.size w)
 have H : ((impl_Session.f k l0_0 l1_0).bind fun t536 => (if t536 = true then ((impl_Item.f k l0_1 l1_1).bind fun t537 => (some t537)) else (some false))) = some r := h
 clear h
 replace H := bsi H
 obtain ⟨t536, A3, H⟩ := H
 (try dsimp only at H)
 by_cases c4 : t536 = true
 ·subst c4; rw [if_pos rfl] at H; replace H := bsi H; obtain ⟨t537, A5, H⟩ := H; (try dsimp only at H); obtain rfl := Option.some.inj H; go_enter Try.func23, Try.ntmps23
  go_wp2_with (first | ((with_reducible refine gate_dst (N := 2) rfl ?_); refine bx (N := 2) (cs := #[.slice A0_0 l0_0.length c0_0, .slice A0_1 l0_1.length c0_1]) (t := 47) ?_; intro gb534 hg w6 hbox hb; have BK534 := am (hbox); have GW534 := am ((bs hg (below_size HB.out))); have GE534 := am ((bs hg (below_size HB.out))); replace HB := am (below_step (te0 HB.out) hb); clear hb hbox hg) | ((with_reducible refine gate_dst (N := 3) rfl ?_); refine bx (N := 3) (cs := #[.slice A1_0 l1_0.length c1_0, .slice A1_1 l1_1.length c1_1]) (t := 47) ?_; intro gb535 hg w7 hbox hb; have BK535 := am (hbox); have GW535 := am ((bs hg (below_size HB.out))); have GE535 := am ((bs hg (below_size HB.out))); replace HB := am (below_step (te1 HB.out GE534.out) hb); have NB534_535 := am ((nl hg (blk_lt BK534.out))); have NB535_534 := am ((ng hg (blk_lt BK534.out))); replace BK534 := am (bb BK534.out hb); clear hb hbox hg; have hnb8 := NB534_535.out; have hnc8 := NB535_534.out; obtain ⟨hcz9_0, hcz9_1⟩ := cl2 BK534.out; obtain ⟨hfz9_0, hfz9_1⟩ := fr2 BK534.out; obtain ⟨hcz10_0, hcz10_1⟩ := cl2 BK535.out; obtain ⟨hfz10_0, hfz10_1⟩ := fr2 BK535.out) | ((with_reducible refine gate_callee (f := 61) rfl ?_); refine goesL_ (some 9) rfl rfl Try.func61 gk_ rfl #[.slice A0_0 l0_0.length c0_0, .slice A1_0 l1_0.length c1_0] rfl gm_ ?_; (with_reducible refine (impl_Session.calls k _ _ l0_0 _ _ l1_0 true _ ?side1 ?side2 ?side3 ?side4 A3.out).mono ?_); (case side1 => exact (tc (Kd.C_below HR0_0.out HB.out))); (case side2 => exact HC0_0.out); (case side3 => exact (tc (Kd.C_below HR1_0.out HB.out))); (case side4 => exact HC1_0.out); rintro e w' ⟨rfl, ⟨nd, rfl⟩⟩; refine ⟨_, rfl, ?_⟩) | (go_at_call 62; (with_reducible refine (impl_Item.calls k _ _ l0_1 _ _ l1_1 t537 _ ?side1 ?side2 ?side3 ?side4 A5.out).mono ?_); (case side1 => repeat (first | exact (Kd.C_below HR0_1.out (te2 HB.out GE534.out GE535.out)) | (with_reducible refine Kd.C_alloc ?_ _) | (with_reducible refine Kd.C_drewN ?_ _) | (with_reducible refine Kd.C_drew ?_))); (case side2 => exact HC0_1.out); (case side3 => repeat (first | exact (Kd.C_below HR1_1.out (te2 HB.out GE534.out GE535.out)) | (with_reducible refine Kd.C_alloc ?_ _) | (with_reducible refine Kd.C_drewN ?_ _) | (with_reducible refine Kd.C_drew ?_))); (case side4 => exact HC1_1.out); rintro e w' ⟨rfl, ⟨nd, rfl⟩⟩))
  go_ret; exact ⟨B20x10_, (te2 HB.out GE534.out GE535.out)⟩
 ·replace c4 := Bool.eq_false_iff.mpr c4; subst c4; rw [if_neg (show ¬ (false = true) by decide)] at H; obtain rfl := Option.some.inj H; go_enter Try.func23, Try.ntmps23
  go_wp2_with (first | ((with_reducible refine gate_dst (N := 2) rfl ?_); refine bx (N := 2) (cs := #[.slice A0_0 l0_0.length c0_0, .slice A0_1 l0_1.length c0_1]) (t := 47) ?_; intro gb534 hg w11 hbox hb; have BK534 := am (hbox); have GW534 := am ((bs hg (below_size HB.out))); have GE534 := am ((bs hg (below_size HB.out))); replace HB := am (below_step (te0 HB.out) hb); clear hb hbox hg) | ((with_reducible refine gate_dst (N := 3) rfl ?_); refine bx (N := 3) (cs := #[.slice A1_0 l1_0.length c1_0, .slice A1_1 l1_1.length c1_1]) (t := 47) ?_; intro gb535 hg w12 hbox hb; have BK535 := am (hbox); have GW535 := am ((bs hg (below_size HB.out))); have GE535 := am ((bs hg (below_size HB.out))); replace HB := am (below_step (te1 HB.out GE534.out) hb); have NB534_535 := am ((nl hg (blk_lt BK534.out))); have NB535_534 := am ((ng hg (blk_lt BK534.out))); replace BK534 := am (bb BK534.out hb); clear hb hbox hg; have hnb13 := NB534_535.out; have hnc13 := NB535_534.out; obtain ⟨hcz14_0, hcz14_1⟩ := cl2 BK534.out; obtain ⟨hfz14_0, hfz14_1⟩ := fr2 BK534.out; obtain ⟨hcz15_0, hcz15_1⟩ := cl2 BK535.out; obtain ⟨hfz15_0, hfz15_1⟩ := fr2 BK535.out) | ((with_reducible refine gate_callee (f := 61) rfl ?_); refine goesL_ (some 9) rfl rfl Try.func61 gk_ rfl #[.slice A0_0 l0_0.length c0_0, .slice A1_0 l1_0.length c1_0] rfl gm_ ?_; (with_reducible refine (impl_Session.calls k _ _ l0_0 _ _ l1_0 false _ ?side1 ?side2 ?side3 ?side4 A3.out).mono ?_); (case side1 => exact (tc (Kd.C_below HR0_0.out HB.out))); (case side2 => exact HC0_0.out); (case side3 => exact (tc (Kd.C_below HR1_0.out HB.out))); (case side4 => exact HC1_0.out); rintro e w' ⟨rfl, ⟨nd, rfl⟩⟩; refine ⟨_, rfl, ?_⟩))
  go_ret; exact ⟨B20x10_, (te2 HB.out GE534.out GE535.out)⟩

end Go.Proofs.Ytgffdijodnpolaa.QFnSameKeeps
