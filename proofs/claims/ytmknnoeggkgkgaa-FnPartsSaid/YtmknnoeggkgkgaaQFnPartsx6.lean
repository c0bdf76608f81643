/- Functions that a law reaches, as functions of Lean, and the walks that show that the calls come to their answers: written by a program of this project out of the translation. No condition. -/
import Derived.Test.YtmknnoeggkgkgaaQFnPartsx0
import Derived.Test.YtmknnoeggkgkgaaShort4
import Derived.Test.YtmknnoeggkgkgaaShort3
import Derived.Test.YtmknnoeggkgkgaaShort2
import Derived.Test.YtmknnoeggkgkgaaShort
import Derived.Test.YtmknnoeggkgkgaaShort5
namespace Go.Proofs.Ytmknnoeggkgkgaa.QFnParts
open Go.RowKit Go.Proofs.YtmknnoeggkgkgaaW.PrintWords Go.Proofs.YtmknnoeggkgkgaaW.PrintLast Go.Proofs.YtmknnoeggkgkgaaW.PrintMore Go.Proofs.Ytmknnoeggkgkgaa.Short
attribute [local go_sem] max2_int min2_int max_two min_two max_three min_three max_four min_four   -- for this text's walks alone
set_option linter.unusedVariables false
set_option linter.unusedSimpArgs false

theorem B6x3_ {p : Prop} (h : p := by first | rfl | (simp [errW_none, errW_some] <;> rfl) | (simp [*, errW_none, errW_some] <;> rfl)) : p := h
theorem B6x9_ {p : Prop} (h : p := by have := HK1.out; first | omega | exact Nat.le_refl _) : p := h
/-! ### slices_Index_int_int: function 139 -/
def slices_Index_int_int.l0 : Nat → List Int → Int → Int → Int → Option (Int)
 | 0, _, _, _, _ => none
 | k + 1, x0, x1, x7, x8 => if x8 < x7 then (if 0 ≤ x8 then (if x8 < (x0.length : Int) then (if x1 = (rd x0 x8) then (some x8) else (slices_Index_int_int.l0 k x0 x1 x7 (wrap64 (x8 + 1)))) else (none)) else (none)) else (some (-1))
def slices_Index_int_int.f (k : Nat) (l0 : List Int) (a1 : Int) : Option (Int) := slices_Index_int_int.l0 k l0 a1 (l0.length : Int) 0
theorem slices_Index_int_int.mono_l : ∀ k, (∀ y0 y1 y2 y3, LeO (slices_Index_int_int.l0 k y0 y1 y2 y3) (slices_Index_int_int.l0 (k + 1) y0 y1 y2 y3))
 | 0 => fun _ _ _ _ r h => by simp [slices_Index_int_int.l0] at h
 | k + 1 => by
  have ih0 := slices_Index_int_int.mono_l k
  ·intro y0 y1 y2 y3
   unfold slices_Index_int_int.l0
   repeat' (with_reducible first | exact ih0 .. | exact LeO.refl _ | exact LeO.none _ | refine LeO.ite ?_ ?_ | refine LeO.bind ?_ (fun _ => ?_))
theorem slices_Index_int_int.mono : ∀ a0 a1 k, LeO (slices_Index_int_int.f k a0 a1) (slices_Index_int_int.f (k + 1) a0 a1) := by
 intro a0 a1 k
 have ih0 := slices_Index_int_int.mono_l k
 unfold slices_Index_int_int.f
 repeat' (with_reducible first | exact ih0 .. | exact LeO.refl _ | exact LeO.none _ | refine LeO.ite ?_ ?_ | refine LeO.bind ?_ (fun _ => ?_))
set_option maxHeartbeats 8000000 in
set_option maxRecDepth 100000 in
theorem slices_Index_int_int.calls (k : Nat) (A0 : Option Addr) (c0 : Nat) (l0 : List Int) (a1 : Int) (r : Int) (w : World) (hr0 : Kd.C (Kd.int .i64) w A0 l0.length l0) (hc0 : l0.length ≤ c0) (h : slices_Index_int_int.f k l0 a1 = some r) :
  Calls Try.prog 139 #[.slice A0 l0.length c0, .int .i64 a1] w fun e w' => e = .returned (.int .i64 r) ∧ Drawn0 w w' := by
 have HR0 := am hr0
 have HC0 := am hc0
 clear hr0 hc0
 have H : (slices_Index_int_int.l0 k l0 a1 (l0.length : Int) 0) = some r := h
 clear h
 have H' := am H
 clear H
 go_enter Try.func139, Try.ntmps139
 go_wp2
 go_loopg [8] k (fun kq v8 w' => ∃ (x8_1 : Int), v8 = .int .i64 x8_1 ∧ Aside0 (slices_Index_int_int.l0 kq l0 a1 (l0.length : Int) x8_1 = some r) ∧ Aside0 (kq ≤ k) ∧ Drawn0 w w')
 case atStart => exact ⟨(0), (be_), H', ⟨Nat.le_refl _⟩, gd_⟩
 case round =>
  clear H'; obtain ⟨x8_1, rfl, HA, HK1, ⟨m1, rfl⟩⟩ := hrel
  cases gk with
  | zero => exact absurd HA.out (by simp [slices_Index_int_int.l0])
  | succ k1 =>
   have H := HA.out; clear HA; simp only [slices_Index_int_int.l0] at H
   by_cases c3 : x8_1 < (l0.length : Int)
   ·rw [if_pos c3] at H
    have c3b0 : decide (x8_1 < (l0.length : Int)) = true := decide_eq_true c3
    clear c3
    by_cases c4 : 0 ≤ x8_1
    rotate_left
    ·rw [if_neg c4] at H; exact absurd H (by simp)
    rw [if_pos c4] at H
    have c4b0 : decide (0 ≤ x8_1) = true := decide_eq_true c4
    clear c4
    by_cases c5 : x8_1 < (l0.length : Int)
    rotate_left
    ·rw [if_neg c5] at H; exact absurd H (by simp)
    rw [if_pos c5] at H
    have c5b0 : decide (x8_1 < (l0.length : Int)) = true := decide_eq_true c5
    clear c5
    by_cases c6 : a1 = (rd l0 x8_1)
    ·rw [if_pos c6] at H; have c6b0 := beq_iff_eq.mpr c6; have c6b1 := bne_eq_false_iff_eq.mpr c6; clear c6; obtain rfl := Option.some.inj H
     have p268 : 0 ≤ (x8_1 : Int) := dga
     have q268 : x8_1 < (l0.length : Int) := dga
     obtain ⟨ad268, e268, hx268_0⟩ := Kd.at_int HR0.out x8_1 p268 q268; cases e268; replace p268 := eq_true p268; replace q268 := eq_true q268
     go_wp2
     go_ret; exact ⟨gr_, gd_⟩
    ·rw [if_neg c6] at H; have c6b0 := beq_eq_false_iff_ne.mpr c6; have c6b1 := bne_iff_ne.mpr c6
     have H' := am H
     clear H
     have p268 : 0 ≤ (x8_1 : Int) := dga
     have q268 : x8_1 < (l0.length : Int) := dga
     obtain ⟨ad268, e268, hx268_0⟩ := Kd.at_int HR0.out x8_1 p268 q268; cases e268; replace p268 := eq_true p268; replace q268 := eq_true q268
     go_wp2
     go_roundg k1
     case measure => have := HK1.out; omega
     case rel => exact ⟨(wrap64 (x8_1 + 1)), (be_), H', ⟨(by have := HK1.out; omega)⟩, gd_⟩
   ·rw [if_neg c3] at H
    have c3b0 : decide (x8_1 < (l0.length : Int)) = false := decide_eq_false c3
    clear c3; obtain rfl := Option.some.inj H
    go_wp2
    go_ret; exact ⟨gr_, gd_⟩

/-! ### slices_Contains_int_int: function 101 -/
def slices_Contains_int_int.f (k : Nat) (l0 : List Int) (a1 : Int) : Option (Bool) := (slices_Index_int_int.f k l0 a1).bind fun t269 => (some (decide (t269 ≥ 0)))
theorem slices_Contains_int_int.mono : ∀ a0 a1 k, LeO (slices_Contains_int_int.f k a0 a1) (slices_Contains_int_int.f (k + 1) a0 a1) := by
 intro a0 a1 k
 unfold slices_Contains_int_int.f
 repeat' (with_reducible first | exact slices_Index_int_int.mono .. | exact LeO.refl _ | exact LeO.none _ | refine LeO.ite ?_ ?_ | refine LeO.bind ?_ (fun _ => ?_))
set_option maxHeartbeats 8000000 in
set_option maxRecDepth 100000 in
theorem slices_Contains_int_int.calls (k : Nat) (A0 : Option Addr) (c0 : Nat) (l0 : List Int) (a1 : Int) (r : Bool) (w : World) (hr0 : Kd.C (Kd.int .i64) w A0 l0.length l0) (hc0 : l0.length ≤ c0) (h : slices_Contains_int_int.f k l0 a1 = some r) :
  Calls Try.prog 101 #[.slice A0 l0.length c0, .int .i64 a1] w fun e w' => e = .returned (.bool r) ∧ Drawn0 w w' := by
 have HR0 := am hr0
 have HC0 := am hc0
 clear hr0 hc0
 have H : ((slices_Index_int_int.f k l0 a1).bind fun t269 => (some (decide (t269 ≥ 0)))) = some r := h
 clear h
 replace H := bsi H
 obtain ⟨t269, A3, H⟩ := H
 (try dsimp only at H)
 obtain rfl := Option.some.inj H
 go_enter Try.func101, Try.ntmps101
 go_wp2_with (first | ((with_reducible refine gate_callee (f := 139) rfl ?_); refine goesL_ (some 7) rfl rfl Try.func139 gk_ rfl #[.slice A0 l0.length c0, .int .i64 a1] rfl gm_ ?_; (with_reducible refine (slices_Index_int_int.calls k _ _ l0 a1 t269 _ ?side1 ?side2 A3.out).mono ?_); (case side1 => repeat (first | exact HR0.out | (with_reducible refine Kd.C_alloc ?_ _) | (with_reducible refine Kd.C_drewN ?_ _) | (with_reducible refine Kd.C_drew ?_))); (case side2 => exact HC0.out); rintro e w' ⟨rfl, ⟨nd, rfl⟩⟩; refine ⟨_, rfl, ?_⟩))
 go_ret
 exact ⟨gr_, gd_⟩

/-! ### impl_whole: function 102 -/
mutual
def impl_whole.l0 : Nat → ByteArray → Int → Int → List ByteArray → List Int → Int → Int → Option (ByteArray × Bool)
 | 0, _, _, _, _, _, _, _ => none
 | k + 1, x4, x271000, x271001, x271002, x271003, x271004, x271005 => if x271004 > 0 then (impl_whole.j1 k x4 (decide ((x4.size : Int) < x271004)) x271000 x271001 x271002 x271003 x271004 x271005) else (impl_whole.j1 k x4 false x271000 x271001 x271002 x271003 x271004 x271005)
def impl_whole.j1 : Nat → ByteArray → Bool → Int → Int → List ByteArray → List Int → Int → Int → Option (ByteArray × Bool)
 | 0, _, _, _, _, _, _, _, _ => none
 | k + 1, x4, x15, x271000, x271001, x271002, x271003, x271004, x271005 => if x15 = true then ((slices_Index_int_int.f k x271003 (x4.size : Int)).bind fun t271 => (if t271 < 0 then (some ((⟨#[]⟩ : ByteArray), false)) else (if t271 ≥ (x271002.length : Int) then (some ((⟨#[]⟩ : ByteArray), false)) else (if 0 ≤ t271 then (if t271 < (x271002.length : Int) then (if (rdOf ByteArray.empty x271002 t271).toList = ([] : List UInt8) then (some ((⟨#[]⟩ : ByteArray), false)) else (if x4.size + (rdOf ByteArray.empty x271002 t271).size ≤ 9223372036854775807 then (impl_whole.l0 k (x4 ++ (rdOf ByteArray.empty x271002 t271)) x271000 x271001 x271002 x271003 x271004 x271005) else (none))) else (none)) else (none))))) else (if x271004 > 0 then (some (x4, ((x4.size : Int) == x271004))) else (some (x4, false)))
end
def impl_whole.f (k : Nat) (a0_0 : Int) (a0_1 : Int) (l0_2 : List ByteArray) (l0_3 : List Int) (a0_4 : Int) (a0_5 : Int) : Option (ByteArray × Bool) := impl_whole.l0 k (⟨#[]⟩ : ByteArray) a0_0 a0_1 l0_2 l0_3 a0_4 a0_5
theorem impl_whole.mono_l : ∀ k, (∀ y0 y1 y2 y3 y4 y5 y6, LeO (impl_whole.l0 k y0 y1 y2 y3 y4 y5 y6) (impl_whole.l0 (k + 1) y0 y1 y2 y3 y4 y5 y6)) ∧ (∀ y0 y1 y2 y3 y4 y5 y6 y7, LeO (impl_whole.j1 k y0 y1 y2 y3 y4 y5 y6 y7) (impl_whole.j1 (k + 1) y0 y1 y2 y3 y4 y5 y6 y7))
 | 0 => ⟨fun _ _ _ _ _ _ _ r h => by simp [impl_whole.l0] at h, fun _ _ _ _ _ _ _ _ r h => by simp [impl_whole.j1] at h⟩
 | k + 1 => by
  obtain ⟨ih0, ih1⟩ := impl_whole.mono_l k
  refine ⟨?_, ?_⟩ <;> intros <;> (first | unfold impl_whole.l0 | unfold impl_whole.j1) <;> repeat' (with_reducible first | exact ih0 .. | exact ih1 .. | exact slices_Index_int_int.mono .. | exact LeO.refl _ | exact LeO.none _ | refine LeO.ite ?_ ?_ | refine LeO.bind ?_ (fun _ => ?_))
theorem impl_whole.mono : ∀ a0 a1 a2 a3 a4 a5 k, LeO (impl_whole.f k a0 a1 a2 a3 a4 a5) (impl_whole.f (k + 1) a0 a1 a2 a3 a4 a5) := by
 intro a0 a1 a2 a3 a4 a5 k
 obtain ⟨ih0, ih1⟩ := impl_whole.mono_l k
 unfold impl_whole.f
 repeat' (with_reducible first | exact ih0 .. | exact ih1 .. | exact slices_Index_int_int.mono .. | exact LeO.refl _ | exact LeO.none _ | refine LeO.ite ?_ ?_ | refine LeO.bind ?_ (fun _ => ?_))
set_option maxHeartbeats 8000000 in
set_option maxRecDepth 100000 in
theorem impl_whole.calls (k : Nat) (a0_0 : Int) (a0_1 : Int) (A0_2 : Option Addr) (c0_2 : Nat) (l0_2 : List ByteArray) (A0_3 : Option Addr) (c0_3 : Nat) (l0_3 : List Int) (a0_4 : Int) (a0_5 : Int) (r1 : ByteArray) (r2 : Bool) (w : World) (hr0_2 : Kd.C Kd.string w A0_2 l0_2.length l0_2) (hc0_2 : l0_2.length ≤ c0_2) (hr0_3 : Kd.C (Kd.int .i64) w A0_3 l0_3.length l0_3) (hc0_3 : l0_3.length ≤ c0_3) (h : impl_whole.f k a0_0 a0_1 l0_2 l0_3 a0_4 a0_5 = some (r1, r2)) :
  Calls Try.prog 102 #[.agg #[.int .i64 a0_0, .int .i64 a0_1, .slice A0_2 l0_2.length c0_2, .slice A0_3 l0_3.length c0_3, .int .i64 a0_4, .int .i64 a0_5]] w fun e w' => e = .returned (.tuple #[.string r1, .bool r2]) ∧ Below w.heap.size w w' := by
 have hu82 := Try.underlying82
 have HR0_2 := am hr0_2
 have HC0_2 := am hc0_2
 clear hr0_2 hc0_2
 have HR0_3 := am hr0_3
 have HC0_3 := am hc0_3
 clear hr0_3 hc0_3
 have HB := am (Below.refl w.heap.size w)
 have H : (impl_whole.l0 k (⟨#[]⟩ : ByteArray) a0_0 a0_1 l0_2 l0_3 a0_4 a0_5) = some (r1, r2) := h
 clear h
 have H' := am H
 clear H
 go_enter Try.func102, Try.ntmps102
 go_wp2_with (first | ((with_reducible refine gate_dst (N := 1) rfl ?_); (try (refine gate_guard (by rfl) ?_; dsimp only)); refine bx (N := 1) (cs := #[.int .i64 a0_0, .int .i64 a0_1, .slice A0_2 l0_2.length c0_2, .slice A0_3 l0_3.length c0_3, .int .i64 a0_4, .int .i64 a0_5]) (t := 82) ?_; intro gb270 hg w2 hbox hb; have BK270 := am (hbox); have GW270 := am ((bs hg (below_size HB.out))); have GE270 := am ((bs hg (below_size HB.out))); replace HB := am (below_step (te0 HB.out) hb); clear hb hbox hg))
 repeat (go_quiet (first | ((with_reducible refine gate_dst (N := 1) rfl ?_); (try (refine gate_guard (by rfl) ?_; dsimp only)); refine bx (N := 1) (cs := #[.int .i64 a0_0, .int .i64 a0_1, .slice A0_2 l0_2.length c0_2, .slice A0_3 l0_3.length c0_3, .int .i64 a0_4, .int .i64 a0_5]) (t := 82) ?_; intro gb270 hg w2 hbox hb; have BK270 := am (hbox); have GW270 := am ((bs hg (below_size HB.out))); have GE270 := am ((bs hg (below_size HB.out))); replace HB := am (below_step (te0 HB.out) hb); clear hb hbox hg)); try go_wp2_with (first | ((with_reducible refine gate_dst (N := 1) rfl ?_); (try (refine gate_guard (by rfl) ?_; dsimp only)); refine bx (N := 1) (cs := #[.int .i64 a0_0, .int .i64 a0_1, .slice A0_2 l0_2.length c0_2, .slice A0_3 l0_3.length c0_3, .int .i64 a0_4, .int .i64 a0_5]) (t := 82) ?_; intro gb270 hg w2 hbox hb; have BK270 := am (hbox); have GW270 := am ((bs hg (below_size HB.out))); have GE270 := am ((bs hg (below_size HB.out))); replace HB := am (below_step (te0 HB.out) hb); clear hb hbox hg)))
 go_loopg [4] k (fun kq v4 w' => ∃ (x4_1 : ByteArray), v4 = .string x4_1 ∧ Aside0 (impl_whole.l0 kq x4_1 a0_0 a0_1 l0_2 l0_3 a0_4 a0_5 = some (r1, r2)) ∧ Aside0 (kq ≤ k) ∧ Aside0 (w'.heap[gb270]? = some (.cells #[.int .i64 a0_0, .int .i64 a0_1, (.slice A0_2 l0_2.length c0_2), (.slice A0_3 l0_3.length c0_3), .int .i64 a0_4, .int .i64 a0_5] 82 (0, 0))) ∧ Aside0 (Below w.heap.size w w'))
 case atStart => exact ⟨((⟨#[]⟩ : ByteArray)), (be_), H', ⟨Nat.le_refl _⟩, ⟨(tb BK270.out)⟩, ⟨(te1 HB.out GE270.out)⟩⟩
 case round =>
  clear H'; obtain ⟨x4_1, rfl, HA, HK1, BK270, HB⟩ := hrel
  cases gk with
  | zero => exact absurd HA.out (by simp [impl_whole.l0])
  | succ k1 =>
   have H := HA.out; clear HA; simp only [impl_whole.l0] at H; have HC3 := am H; clear H
   go_upto_region 2 with (fail)
   repeat (go_quiet (fail); go_upto_region 2 with (fail))
   go_cut [15] (fun v15 wc => ∃ (kq : Nat) (x15_2 : Bool), v15 = .bool x15_2 ∧ Aside0 (impl_whole.j1 kq x4_1 x15_2 a0_0 a0_1 l0_2 l0_3 a0_4 a0_5 = some (r1, r2)) ∧ Aside0 (kq ≤ k1) ∧ Aside0 (wc.heap[gb270]? = some (.cells #[.int .i64 a0_0, .int .i64 a0_1, (.slice A0_2 l0_2.length c0_2), (.slice A0_3 l0_3.length c0_3), .int .i64 a0_4, .int .i64 a0_5] 82 (0, 0))) ∧ Aside0 (Below w.heap.size w wc))
   case first =>
    have H := HC3.out; clear HC3
    by_cases c4 : a0_4 > 0
    ·rw [if_pos c4] at H
     have c4b0 : decide (0 < a0_4) = true := decide_eq_true c4
     clear c4
     (first | rw [c4b0] | (simp only [i64_w, i32_w]; rw [c4b0]) | skip)
     have H' := am H
     clear H; obtain ⟨hcz5_0, hcz5_1, hcz5_2, hcz5_3, hcz5_4, hcz5_5⟩ := cl6 BK270.out; obtain ⟨hfz5_0, hfz5_1, hfz5_2, hfz5_3, hfz5_4, hfz5_5⟩ := fr6 BK270.out
     go_wp2
     repeat (go_quiet (fail); try go_wp2)
     go_meet
     case rel => exact ⟨_, (decide ((x4_1.size : Int) < a0_4)), (be_), H', ⟨B6x9_⟩, ⟨(tb BK270.out)⟩, ⟨(te1 HB.out GE270.out)⟩⟩
    ·rw [if_neg c4] at H
     have c4b0 : decide (0 < a0_4) = false := decide_eq_false c4
     clear c4
     (first | rw [c4b0] | (simp only [i64_w, i32_w]; rw [c4b0]) | skip)
     have H' := am H
     clear H; obtain ⟨hcz6_0, hcz6_1, hcz6_2, hcz6_3, hcz6_4, hcz6_5⟩ := cl6 BK270.out; obtain ⟨hfz6_0, hfz6_1, hfz6_2, hfz6_3, hfz6_4, hfz6_5⟩ := fr6 BK270.out
     go_wp2
     repeat (go_quiet (fail); try go_wp2)
     go_meet
     case rel => exact ⟨_, (false), (be_), H', ⟨B6x9_⟩, ⟨(tb BK270.out)⟩, ⟨(te1 HB.out GE270.out)⟩⟩
   case rest =>
    clear HC3; obtain ⟨kq, x15_2, rfl, HA, HJ2, BK270, HB⟩ := hcut
    cases kq with
    | zero => exact absurd HA.out (by simp [impl_whole.j1])
    | succ kj2 =>
     have H := HA.out; clear HA; simp only [impl_whole.j1] at H
     by_cases c7 : x15_2 = true
     ·subst c7; rw [if_pos rfl] at H; replace H := bsi H; obtain ⟨t271, A8, H⟩ := H; (try dsimp only at H)
      by_cases c9 : t271 < 0
      ·rw [if_pos c9] at H
       have c9b0 : decide (t271 < 0) = true := decide_eq_true c9
       clear c9; simp only [Option.some.injEq, Prod.mk.injEq] at H; obtain ⟨rfl, rfl⟩ := H; obtain ⟨hcz10_0, hcz10_1, hcz10_2, hcz10_3, hcz10_4, hcz10_5⟩ := cl6 BK270.out; obtain ⟨hfz10_0, hfz10_1, hfz10_2, hfz10_3, hfz10_4, hfz10_5⟩ := fr6 BK270.out
       go_wp2_with (first | (go_at_call 139; (with_reducible refine (slices_Index_int_int.calls kj2 _ _ l0_3 (x4_1.size : Int) t271 _ ?side1 ?side2 A8.out).mono ?_); (case side1 => exact (tc (Kd.C_below HR0_3.out HB.out))); (case side2 => exact HC0_3.out); rintro e w' ⟨rfl, ⟨nd, rfl⟩⟩; (try first | exact ⟨rfl, _, World.drewN_drewN _ _ _⟩ | exact ⟨rfl, _, Eq.trans (World.drewN_drewN _ _ _) (congrArg (World.drewN _) (Nat.add_assoc _ _ _))⟩)))
       repeat (go_quiet (first | (go_at_call 139; (with_reducible refine (slices_Index_int_int.calls kj2 _ _ l0_3 (x4_1.size : Int) t271 _ ?side1 ?side2 A8.out).mono ?_); (case side1 => exact (tc (Kd.C_below HR0_3.out HB.out))); (case side2 => exact HC0_3.out); rintro e w' ⟨rfl, ⟨nd, rfl⟩⟩; (try first | exact ⟨rfl, _, World.drewN_drewN _ _ _⟩ | exact ⟨rfl, _, Eq.trans (World.drewN_drewN _ _ _) (congrArg (World.drewN _) (Nat.add_assoc _ _ _))⟩))); try go_wp2_with (first | (go_at_call 139; (with_reducible refine (slices_Index_int_int.calls kj2 _ _ l0_3 (x4_1.size : Int) t271 _ ?side1 ?side2 A8.out).mono ?_); (case side1 => exact (tc (Kd.C_below HR0_3.out HB.out))); (case side2 => exact HC0_3.out); rintro e w' ⟨rfl, ⟨nd, rfl⟩⟩; (try first | exact ⟨rfl, _, World.drewN_drewN _ _ _⟩ | exact ⟨rfl, _, Eq.trans (World.drewN_drewN _ _ _) (congrArg (World.drewN _) (Nat.add_assoc _ _ _))⟩))))
       go_ret2
       exact ⟨B6x3_, (te1 HB.out GE270.out)⟩
      ·rw [if_neg c9] at H
       have c9b0 : decide (t271 < 0) = false := decide_eq_false c9
       clear c9
       by_cases c11 : t271 ≥ (l0_2.length : Int)
       ·rw [if_pos c11] at H
        have c11b0 : decide ((l0_2.length : Int) ≤ t271) = true := decide_eq_true c11
        clear c11; simp only [Option.some.injEq, Prod.mk.injEq] at H; obtain ⟨rfl, rfl⟩ := H; obtain ⟨hcz12_0, hcz12_1, hcz12_2, hcz12_3, hcz12_4, hcz12_5⟩ := cl6 BK270.out; obtain ⟨hfz12_0, hfz12_1, hfz12_2, hfz12_3, hfz12_4, hfz12_5⟩ := fr6 BK270.out
        go_wp2_with (first | (go_at_call 139; (with_reducible refine (slices_Index_int_int.calls kj2 _ _ l0_3 (x4_1.size : Int) t271 _ ?side1 ?side2 A8.out).mono ?_); (case side1 => exact (tc (Kd.C_below HR0_3.out HB.out))); (case side2 => exact HC0_3.out); rintro e w' ⟨rfl, ⟨nd, rfl⟩⟩; (try first | exact ⟨rfl, _, World.drewN_drewN _ _ _⟩ | exact ⟨rfl, _, Eq.trans (World.drewN_drewN _ _ _) (congrArg (World.drewN _) (Nat.add_assoc _ _ _))⟩)))
        repeat (go_quiet (first | (go_at_call 139; (with_reducible refine (slices_Index_int_int.calls kj2 _ _ l0_3 (x4_1.size : Int) t271 _ ?side1 ?side2 A8.out).mono ?_); (case side1 => exact (tc (Kd.C_below HR0_3.out HB.out))); (case side2 => exact HC0_3.out); rintro e w' ⟨rfl, ⟨nd, rfl⟩⟩; (try first | exact ⟨rfl, _, World.drewN_drewN _ _ _⟩ | exact ⟨rfl, _, Eq.trans (World.drewN_drewN _ _ _) (congrArg (World.drewN _) (Nat.add_assoc _ _ _))⟩))); try go_wp2_with (first | (go_at_call 139; (with_reducible refine (slices_Index_int_int.calls kj2 _ _ l0_3 (x4_1.size : Int) t271 _ ?side1 ?side2 A8.out).mono ?_); (case side1 => exact (tc (Kd.C_below HR0_3.out HB.out))); (case side2 => exact HC0_3.out); rintro e w' ⟨rfl, ⟨nd, rfl⟩⟩; (try first | exact ⟨rfl, _, World.drewN_drewN _ _ _⟩ | exact ⟨rfl, _, Eq.trans (World.drewN_drewN _ _ _) (congrArg (World.drewN _) (Nat.add_assoc _ _ _))⟩))))
        go_ret2
        exact ⟨B6x3_, (te1 HB.out GE270.out)⟩
       ·rw [if_neg c11] at H
        have c11b0 : decide ((l0_2.length : Int) ≤ t271) = false := decide_eq_false c11
        clear c11
        by_cases c13 : 0 ≤ t271
        rotate_left
        ·rw [if_neg c13] at H; exact absurd H (by simp)
        rw [if_pos c13] at H
        have c13b0 : decide (0 ≤ t271) = true := decide_eq_true c13
        clear c13
        by_cases c14 : t271 < (l0_2.length : Int)
        rotate_left
        ·rw [if_neg c14] at H; exact absurd H (by simp)
        rw [if_pos c14] at H
        have c14b0 : decide (t271 < (l0_2.length : Int)) = true := decide_eq_true c14
        clear c14
        by_cases c15 : (rdOf ByteArray.empty l0_2 t271).toList = ([] : List UInt8)
        ·rw [if_pos c15] at H; have c15b0 := beq_iff_eq.mpr c15; have c15b1 := bne_eq_false_iff_eq.mpr c15; clear c15; simp only [Option.some.injEq, Prod.mk.injEq] at H; obtain ⟨rfl, rfl⟩ := H; obtain ⟨hcz16_0, hcz16_1, hcz16_2, hcz16_3, hcz16_4, hcz16_5⟩ := cl6 BK270.out; obtain ⟨hfz16_0, hfz16_1, hfz16_2, hfz16_3, hfz16_4, hfz16_5⟩ := fr6 BK270.out
         go_wp2_with (first | (go_at_call 139; (with_reducible refine (slices_Index_int_int.calls kj2 _ _ l0_3 (x4_1.size : Int) t271 _ ?side1 ?side2 A8.out).mono ?_); (case side1 => exact (tc (Kd.C_below HR0_3.out HB.out))); (case side2 => exact HC0_3.out); rintro e w' ⟨rfl, ⟨nd, rfl⟩⟩; (try first | exact ⟨rfl, _, World.drewN_drewN _ _ _⟩ | exact ⟨rfl, _, Eq.trans (World.drewN_drewN _ _ _) (congrArg (World.drewN _) (Nat.add_assoc _ _ _))⟩); have p272 : 0 ≤ (t271 : Int) := dga; have q272 : t271 < (l0_2.length : Int) := dga; obtain ⟨ad272, e272, hx272_0⟩ := Kd.at_string HR0_2.out t271 p272 q272; cases e272; replace hx272_0 := (HB.out.cell (World.block_lt_of_cell? w _ hx272_0)).trans hx272_0; replace p272 := eq_true p272; replace q272 := eq_true q272))
         repeat (go_quiet (first | (go_at_call 139; (with_reducible refine (slices_Index_int_int.calls kj2 _ _ l0_3 (x4_1.size : Int) t271 _ ?side1 ?side2 A8.out).mono ?_); (case side1 => exact (tc (Kd.C_below HR0_3.out HB.out))); (case side2 => exact HC0_3.out); rintro e w' ⟨rfl, ⟨nd, rfl⟩⟩; (try first | exact ⟨rfl, _, World.drewN_drewN _ _ _⟩ | exact ⟨rfl, _, Eq.trans (World.drewN_drewN _ _ _) (congrArg (World.drewN _) (Nat.add_assoc _ _ _))⟩); have p272 : 0 ≤ (t271 : Int) := dga; have q272 : t271 < (l0_2.length : Int) := dga; obtain ⟨ad272, e272, hx272_0⟩ := Kd.at_string HR0_2.out t271 p272 q272; cases e272; replace hx272_0 := (HB.out.cell (World.block_lt_of_cell? w _ hx272_0)).trans hx272_0; replace p272 := eq_true p272; replace q272 := eq_true q272)); try go_wp2_with (first | (go_at_call 139; (with_reducible refine (slices_Index_int_int.calls kj2 _ _ l0_3 (x4_1.size : Int) t271 _ ?side1 ?side2 A8.out).mono ?_); (case side1 => exact (tc (Kd.C_below HR0_3.out HB.out))); (case side2 => exact HC0_3.out); rintro e w' ⟨rfl, ⟨nd, rfl⟩⟩; (try first | exact ⟨rfl, _, World.drewN_drewN _ _ _⟩ | exact ⟨rfl, _, Eq.trans (World.drewN_drewN _ _ _) (congrArg (World.drewN _) (Nat.add_assoc _ _ _))⟩); have p272 : 0 ≤ (t271 : Int) := dga; have q272 : t271 < (l0_2.length : Int) := dga; obtain ⟨ad272, e272, hx272_0⟩ := Kd.at_string HR0_2.out t271 p272 q272; cases e272; replace hx272_0 := (HB.out.cell (World.block_lt_of_cell? w _ hx272_0)).trans hx272_0; replace p272 := eq_true p272; replace q272 := eq_true q272)))
         go_ret2
         exact ⟨B6x3_, (te1 HB.out GE270.out)⟩
        ·rw [if_neg c15] at H; have c15b0 := beq_eq_false_iff_ne.mpr c15; have c15b1 := bne_iff_ne.mpr c15
         by_cases c17 : x4_1.size + (rdOf ByteArray.empty l0_2 t271).size ≤ 9223372036854775807
         rotate_left
         ·rw [if_neg c17] at H; exact absurd H (by simp)
         rw [if_pos c17] at H; have c17b0 := eq_true c17
         have c17b1 : decide (x4_1.size + (rdOf ByteArray.empty l0_2 t271).size ≤ 9223372036854775807) = true := decide_eq_true c17
         try have c17b2 : (9223372036854775807 < x4_1.size + (rdOf ByteArray.empty l0_2 t271).size) = False := eq_false (Nat.not_lt.2 c17)
         try (have c17b9 := c17b2; simp only [ByteArray.size_append] at c17b9)
         have H' := am H
         clear H; obtain ⟨hcz18_0, hcz18_1, hcz18_2, hcz18_3, hcz18_4, hcz18_5⟩ := cl6 BK270.out; obtain ⟨hfz18_0, hfz18_1, hfz18_2, hfz18_3, hfz18_4, hfz18_5⟩ := fr6 BK270.out
         go_wp2_with (first | (go_at_call 139; (with_reducible refine (slices_Index_int_int.calls kj2 _ _ l0_3 (x4_1.size : Int) t271 _ ?side1 ?side2 A8.out).mono ?_); (case side1 => exact (tc (Kd.C_below HR0_3.out HB.out))); (case side2 => exact HC0_3.out); rintro e w' ⟨rfl, ⟨nd, rfl⟩⟩; (try first | exact ⟨rfl, _, World.drewN_drewN _ _ _⟩ | exact ⟨rfl, _, Eq.trans (World.drewN_drewN _ _ _) (congrArg (World.drewN _) (Nat.add_assoc _ _ _))⟩); have p272 : 0 ≤ (t271 : Int) := dga; have q272 : t271 < (l0_2.length : Int) := dga; obtain ⟨ad272, e272, hx272_0⟩ := Kd.at_string HR0_2.out t271 p272 q272; cases e272; replace hx272_0 := (HB.out.cell (World.block_lt_of_cell? w _ hx272_0)).trans hx272_0; replace p272 := eq_true p272; replace q272 := eq_true q272; have p273 : 0 ≤ (t271 : Int) := dga; have q273 : t271 < (l0_2.length : Int) := dga; obtain ⟨ad273, e273, hx273_0⟩ := Kd.at_string HR0_2.out t271 p273 q273; obtain rfl : ad272 = ad273 := (by injection e273); replace hx273_0 := (HB.out.cell (World.block_lt_of_cell? w _ hx273_0)).trans hx273_0; replace p273 := eq_true p273; replace q273 := eq_true q273))
         repeat (go_quiet (first | (go_at_call 139; (with_reducible refine (slices_Index_int_int.calls kj2 _ _ l0_3 (x4_1.size : Int) t271 _ ?side1 ?side2 A8.out).mono ?_); (case side1 => exact (tc (Kd.C_below HR0_3.out HB.out))); (case side2 => exact HC0_3.out); rintro e w' ⟨rfl, ⟨nd, rfl⟩⟩; (try first | exact ⟨rfl, _, World.drewN_drewN _ _ _⟩ | exact ⟨rfl, _, Eq.trans (World.drewN_drewN _ _ _) (congrArg (World.drewN _) (Nat.add_assoc _ _ _))⟩); have p272 : 0 ≤ (t271 : Int) := dga; have q272 : t271 < (l0_2.length : Int) := dga; obtain ⟨ad272, e272, hx272_0⟩ := Kd.at_string HR0_2.out t271 p272 q272; cases e272; replace hx272_0 := (HB.out.cell (World.block_lt_of_cell? w _ hx272_0)).trans hx272_0; replace p272 := eq_true p272; replace q272 := eq_true q272; have p273 : 0 ≤ (t271 : Int) := dga; have q273 : t271 < (l0_2.length : Int) := dga; obtain ⟨ad273, e273, hx273_0⟩ := Kd.at_string HR0_2.out t271 p273 q273; obtain rfl : ad272 = ad273 := (by injection e273); replace hx273_0 := (HB.out.cell (World.block_lt_of_cell? w _ hx273_0)).trans hx273_0; replace p273 := eq_true p273; replace q273 := eq_true q273)); try go_wp2_with (first | (go_at_call 139; (with_reducible refine (slices_Index_int_int.calls kj2 _ _ l0_3 (x4_1.size : Int) t271 _ ?side1 ?side2 A8.out).mono ?_); (case side1 => exact (tc (Kd.C_below HR0_3.out HB.out))); (case side2 => exact HC0_3.out); rintro e w' ⟨rfl, ⟨nd, rfl⟩⟩; (try first | exact ⟨rfl, _, World.drewN_drewN _ _ _⟩ | exact ⟨rfl, _, Eq.trans (World.drewN_drewN _ _ _) (congrArg (World.drewN _) (Nat.add_assoc _ _ _))⟩); have p272 : 0 ≤ (t271 : Int) := dga; have q272 : t271 < (l0_2.length : Int) := dga; obtain ⟨ad272, e272, hx272_0⟩ := Kd.at_string HR0_2.out t271 p272 q272; cases e272; replace hx272_0 := (HB.out.cell (World.block_lt_of_cell? w _ hx272_0)).trans hx272_0; replace p272 := eq_true p272; replace q272 := eq_true q272; have p273 : 0 ≤ (t271 : Int) := dga; have q273 : t271 < (l0_2.length : Int) := dga; obtain ⟨ad273, e273, hx273_0⟩ := Kd.at_string HR0_2.out t271 p273 q273; obtain rfl : ad272 = ad273 := (by injection e273); replace hx273_0 := (HB.out.cell (World.block_lt_of_cell? w _ hx273_0)).trans hx273_0; replace p273 := eq_true p273; replace q273 := eq_true q273)))
         go_roundg kj2
         case measure => have := HK1.out; have := HJ2.out; omega
         case rel => exact ⟨(x4_1 ++ (rdOf ByteArray.empty l0_2 t271)), (be_), H', ⟨(by have := HK1.out; have := HJ2.out; omega)⟩, ⟨(tb BK270.out)⟩, ⟨(te1 HB.out GE270.out)⟩⟩
     ·replace c7 := Bool.eq_false_iff.mpr c7; subst c7; rw [if_neg (show ¬ (false = true) by decide)] at H
      by_cases c19 : a0_4 > 0
      ·rw [if_pos c19] at H
       have c19b0 : decide (0 < a0_4) = true := decide_eq_true c19
       clear c19; simp only [Option.some.injEq, Prod.mk.injEq] at H; obtain ⟨rfl, rfl⟩ := H; obtain ⟨hcz20_0, hcz20_1, hcz20_2, hcz20_3, hcz20_4, hcz20_5⟩ := cl6 BK270.out; obtain ⟨hfz20_0, hfz20_1, hfz20_2, hfz20_3, hfz20_4, hfz20_5⟩ := fr6 BK270.out
       go_wp2
       repeat (go_quiet (fail); try go_wp2)
       go_ret2
       exact ⟨B6x3_, (te1 HB.out GE270.out)⟩
      ·rw [if_neg c19] at H
       have c19b0 : decide (0 < a0_4) = false := decide_eq_false c19
       clear c19; simp only [Option.some.injEq, Prod.mk.injEq] at H; obtain ⟨rfl, rfl⟩ := H; obtain ⟨hcz21_0, hcz21_1, hcz21_2, hcz21_3, hcz21_4, hcz21_5⟩ := cl6 BK270.out; obtain ⟨hfz21_0, hfz21_1, hfz21_2, hfz21_3, hfz21_4, hfz21_5⟩ := fr6 BK270.out
       go_wp2
       repeat (go_quiet (fail); try go_wp2)
       go_ret2
       exact ⟨B6x3_, (te1 HB.out GE270.out)⟩

end Go.Proofs.Ytmknnoeggkgkgaa.QFnParts
