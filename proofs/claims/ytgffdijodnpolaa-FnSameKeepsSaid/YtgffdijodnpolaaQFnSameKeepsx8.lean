/- Functions that a law reaches, as functions of Lean, and the walks that show that the calls come to their answers: written by a program of this project out of the translation. No condition. -/
import Derived.Test.YtgffdijodnpolaaQFnSameKeepsx0
import Derived.Test.YtgffdijodnpolaaQFnSameKeepsx5
import Derived.Test.YtgffdijodnpolaaVFnSameKeepsShort4
import Derived.Test.YtgffdijodnpolaaVFnSameKeepshort3
import Derived.Test.YtgffdijodnpolaaVFnSameKeepsShort2
import Derived.Test.YtgffdijodnpolaaVFnSameKeepsShort
import Derived.Test.YtgffdijodnpolaaVFnSameKeepshort5
namespace Go.Proofs.Ytgffdijodnpolaa.QFnSameKeeps
open Go.RowKit Go.Proofs.YtgffdijodnpolaaW.PrintWords Go.Proofs.YtgffdijodnpolaaW.PrintLast Go.Proofs.YtgffdijodnpolaaW.PrintMore Go.Proofs.Ytgffdijodnpolaa.Short
attribute [local go_sem] max2_int min2_int max_two min_two max_three min_three max_four min_four   -- for this text's walks alone
set_option linter.unusedVariables false
set_option linter.unusedSimpArgs false

theorem B8x2_ {p : Prop} (h : p := by first | rfl | (simp [errW_none, errW_some] <;> rfl) | (simp [*, errW_none, errW_some] <;> rfl)) : p := h
theorem B8x9_ {p : Prop} (h : p := by have := HJ1.out; first | omega | exact Nat.le_refl _) : p := h
/-! ### spec_CommandOk: function 36 -/
mutual
def spec_CommandOk.j0 : Nat → Bool → Int → Int → Int → ByteArray → ByteArray → Int → Option (Bool)
 | 0, _, _, _, _, _, _, _ => none
 | k + 1, x18, x228000, x228001, x228002, x228003, x228004, x228005 => if x18 = true then (some false) else (if x228000 = 1 then (if x228001 = 0 then (if x228002 = 0 then (if x228003.toList = ([] : List UInt8) then (if x228004.toList = ([] : List UInt8) then (some (x228005 == 0)) else (some false)) else (some false)) else (some false)) else (some false)) else ((spec_l01In.f (x228003.size : Int) 1 8).bind fun t231 => (if t231 = true then (spec_CommandOk.j1 k (decide ((x228004.size : Int) > 20)) x228000 x228001 x228002 x228003 x228004 x228005) else (spec_CommandOk.j1 k true x228000 x228001 x228002 x228003 x228004 x228005))))
def spec_CommandOk.j1 : Nat → Bool → Int → Int → Int → ByteArray → ByteArray → Int → Option (Bool)
 | 0, _, _, _, _, _, _, _ => none
 | k + 1, x55, x228000, x228001, x228002, x228003, x228004, x228005 => if x55 = true then (some false) else (if x228000 = 2 then (some (x228005 == 0)) else (if x228000 = 5 then ((spec_l01In.f x228005 1 1000000000).bind fun t232 => (some t232)) else (if x228004.toList = ([] : List UInt8) then (some (x228005 == 0)) else (some false))))
end
def spec_CommandOk.f (k : Nat) (a0_0 : Int) (a0_1 : Int) (a0_2 : Int) (a0_3 : ByteArray) (a0_4 : ByteArray) (a0_5 : Int) : Option (Bool) := (spec_l01In.f a0_1 0 1000000).bind fun t228 => (if t228 = true then ((spec_l01In.f a0_2 0 1000000).bind fun t229 => (if t229 = true then ((spec_l01In.f a0_0 1 5).bind fun t230 => (spec_CommandOk.j0 k (!t230) a0_0 a0_1 a0_2 a0_3 a0_4 a0_5)) else (spec_CommandOk.j0 k true a0_0 a0_1 a0_2 a0_3 a0_4 a0_5))) else (spec_CommandOk.j0 k true a0_0 a0_1 a0_2 a0_3 a0_4 a0_5))
theorem spec_CommandOk.mono_l : ∀ k, (∀ y0 y1 y2 y3 y4 y5 y6, LeO (spec_CommandOk.j0 k y0 y1 y2 y3 y4 y5 y6) (spec_CommandOk.j0 (k + 1) y0 y1 y2 y3 y4 y5 y6)) ∧ (∀ y0 y1 y2 y3 y4 y5 y6, LeO (spec_CommandOk.j1 k y0 y1 y2 y3 y4 y5 y6) (spec_CommandOk.j1 (k + 1) y0 y1 y2 y3 y4 y5 y6))
 | 0 => ⟨fun _ _ _ _ _ _ _ r h => by simp [spec_CommandOk.j0] at h, fun _ _ _ _ _ _ _ r h => by simp [spec_CommandOk.j1] at h⟩
 | k + 1 => by
  obtain ⟨ih0, ih1⟩ := spec_CommandOk.mono_l k
  refine ⟨?_, ?_⟩ <;> intros <;> (first | unfold spec_CommandOk.j0 | unfold spec_CommandOk.j1) <;> repeat' (with_reducible first | exact ih0 .. | exact ih1 .. | exact LeO.refl _ | exact LeO.none _ | refine LeO.ite ?_ ?_ | refine LeO.bind ?_ (fun _ => ?_))
theorem spec_CommandOk.mono : ∀ a0 a1 a2 a3 a4 a5 k, LeO (spec_CommandOk.f k a0 a1 a2 a3 a4 a5) (spec_CommandOk.f (k + 1) a0 a1 a2 a3 a4 a5) := by
 intro a0 a1 a2 a3 a4 a5 k
 obtain ⟨ih0, ih1⟩ := spec_CommandOk.mono_l k
 unfold spec_CommandOk.f
 repeat' (with_reducible first | exact ih0 .. | exact ih1 .. | exact LeO.refl _ | exact LeO.none _ | refine LeO.ite ?_ ?_ | refine LeO.bind ?_ (fun _ => ?_))
set_option maxHeartbeats 8000000 in
set_option maxRecDepth 100000 in
theorem spec_CommandOk.calls (k : Nat) (a0_0 : Int) (a0_1 : Int) (a0_2 : Int) (a0_3 : ByteArray) (a0_4 : ByteArray) (a0_5 : Int) (r : Bool) (w : World) (h : spec_CommandOk.f k a0_0 a0_1 a0_2 a0_3 a0_4 a0_5 = some r) :
  Calls Try.prog 36 #[.agg #[.int .i64 a0_0, .int .i64 a0_1, .int .i64 a0_2, .string a0_3, .string a0_4, .int .i64 a0_5]] w fun e w' => e = .returned (.bool r) ∧ Below w.heap.size w w' := by
 have hu59 := Try.underlying59
 have HB := am (Below.refl w.heap.size w)
 have H : ((spec_l01In.f a0_1 0 1000000).bind fun t228 => (if t228 = true then ((spec_l01In.f a0_2 0 1000000).bind fun t229 => (if t229 = true then ((spec_l01In.f a0_0 1 5).bind fun t230 => (spec_CommandOk.j0 k (!t230) a0_0 a0_1 a0_2 a0_3 a0_4 a0_5)) else (spec_CommandOk.j0 k true a0_0 a0_1 a0_2 a0_3 a0_4 a0_5))) else (spec_CommandOk.j0 k true a0_0 a0_1 a0_2 a0_3 a0_4 a0_5))) = some r := h
 clear h
 have HC2 := am H
 clear H
 go_enter Try.func36, Try.ntmps36
 go_upto_region 1 with (first | ((with_reducible refine gate_dst (N := 1) rfl ?_); (try (refine gate_guard (by rfl) ?_; dsimp only)); refine bx (N := 1) (cs := #[.int .i64 a0_0, .int .i64 a0_1, .int .i64 a0_2, .string a0_3, .string a0_4, .int .i64 a0_5]) (t := 59) ?_; intro gb227 hg w3 hbox hb; have BK227 := am (hbox); have GW227 := am ((bs hg (below_size HB.out))); have GE227 := am ((bs hg (below_size HB.out))); replace HB := am (below_step (te0 HB.out) hb); clear hb hbox hg))
 (try simp only [Act.put, List.setIfInBounds_toArray, List.set_cons_zero, List.set_cons_succ])
 go_cut [18] (fun v18 wc => ∃ (kq : Nat) (x18_1 : Bool), v18 = .bool x18_1 ∧ Aside0 (spec_CommandOk.j0 kq x18_1 a0_0 a0_1 a0_2 a0_3 a0_4 a0_5 = some r) ∧ Aside0 (kq ≤ k) ∧ Aside0 (wc.heap[gb227]? = some (.cells #[.int .i64 a0_0, .int .i64 a0_1, .int .i64 a0_2, .string a0_3, .string a0_4, .int .i64 a0_5] 59 (0, 0))) ∧ Aside0 (Below w.heap.size w wc))
 case first =>
  have H := HC2.out; clear HC2; replace H := bsi H; obtain ⟨t228, A4, H⟩ := H; (try dsimp only at H)
  by_cases c5 : t228 = true
  ·subst c5; rw [if_pos rfl] at H; replace H := bsi H; obtain ⟨t229, A6, H⟩ := H; (try dsimp only at H)
   by_cases c7 : t229 = true
   ·subst c7; rw [if_pos rfl] at H; replace H := bsi H; obtain ⟨t230, A8, H⟩ := H; (try dsimp only at H)
    have H' := am H
    clear H; obtain ⟨hcz9_0, hcz9_1, hcz9_2, hcz9_3, hcz9_4, hcz9_5⟩ := cl6 BK227.out; obtain ⟨hfz9_0, hfz9_1, hfz9_2, hfz9_3, hfz9_4, hfz9_5⟩ := fr6 BK227.out
    go_wp2_with (first | ((with_reducible refine gate_callee (f := 47) rfl ?_); refine goesL_ (some 5) rfl rfl Try.func47 gk_ rfl #[.int .i64 a0_1, .int .i64 0, .int .i64 1000000] rfl gm_ ?_; (with_reducible refine (spec_l01In.calls a0_1 0 1000000 true _ A4.out).mono ?_); rintro e w' ⟨rfl, ⟨nd, rfl⟩⟩; refine ⟨_, rfl, ?_⟩) | (go_at_call 47; (with_reducible refine (spec_l01In.calls a0_2 0 1000000 true _ A6.out).mono ?_); rintro e w' ⟨rfl, ⟨nd, rfl⟩⟩) | (go_at_call 47; (with_reducible refine (spec_l01In.calls a0_0 1 5 t230 _ A8.out).mono ?_); rintro e w' ⟨rfl, ⟨nd, rfl⟩⟩))
    go_meet
    case rel => exact ⟨_, (!t230), (be_), H', ⟨gl_⟩, ⟨(tb BK227.out)⟩, ⟨(te1 HB.out GE227.out)⟩⟩
   ·replace c7 := Bool.eq_false_iff.mpr c7; subst c7; rw [if_neg (show ¬ (false = true) by decide)] at H
    have H' := am H
    clear H; obtain ⟨hcz10_0, hcz10_1, hcz10_2, hcz10_3, hcz10_4, hcz10_5⟩ := cl6 BK227.out; obtain ⟨hfz10_0, hfz10_1, hfz10_2, hfz10_3, hfz10_4, hfz10_5⟩ := fr6 BK227.out
    go_wp2_with (first | ((with_reducible refine gate_callee (f := 47) rfl ?_); refine goesL_ (some 5) rfl rfl Try.func47 gk_ rfl #[.int .i64 a0_1, .int .i64 0, .int .i64 1000000] rfl gm_ ?_; (with_reducible refine (spec_l01In.calls a0_1 0 1000000 true _ A4.out).mono ?_); rintro e w' ⟨rfl, ⟨nd, rfl⟩⟩; refine ⟨_, rfl, ?_⟩) | (go_at_call 47; (with_reducible refine (spec_l01In.calls a0_2 0 1000000 false _ A6.out).mono ?_); rintro e w' ⟨rfl, ⟨nd, rfl⟩⟩))
    go_meet
    case rel => exact ⟨_, (true), (be_), H', ⟨gl_⟩, ⟨(tb BK227.out)⟩, ⟨(te1 HB.out GE227.out)⟩⟩
  ·replace c5 := Bool.eq_false_iff.mpr c5; subst c5; rw [if_neg (show ¬ (false = true) by decide)] at H
   have H' := am H
   clear H; obtain ⟨hcz11_0, hcz11_1, hcz11_2, hcz11_3, hcz11_4, hcz11_5⟩ := cl6 BK227.out; obtain ⟨hfz11_0, hfz11_1, hfz11_2, hfz11_3, hfz11_4, hfz11_5⟩ := fr6 BK227.out
   go_wp2_with (first | ((with_reducible refine gate_callee (f := 47) rfl ?_); refine goesL_ (some 5) rfl rfl Try.func47 gk_ rfl #[.int .i64 a0_1, .int .i64 0, .int .i64 1000000] rfl gm_ ?_; (with_reducible refine (spec_l01In.calls a0_1 0 1000000 false _ A4.out).mono ?_); rintro e w' ⟨rfl, ⟨nd, rfl⟩⟩; refine ⟨_, rfl, ?_⟩))
   go_meet
   case rel => exact ⟨_, (true), (be_), H', ⟨gl_⟩, ⟨(tb BK227.out)⟩, ⟨(te1 HB.out GE227.out)⟩⟩
 case rest =>
  clear HC2; obtain ⟨kq, x18_1, rfl, HA, HJ1, BK227, HB⟩ := hcut
  cases kq with
  | zero => exact absurd HA.out (by simp [spec_CommandOk.j0])
  | succ kj1 =>
   have H := HA.out; clear HA; simp only [spec_CommandOk.j0] at H
   by_cases c12 : x18_1 = true
   ·subst c12; rw [if_pos rfl] at H; obtain rfl := Option.some.inj H
    go_wp2
    go_ret; exact ⟨B8x2_, (te1 HB.out GE227.out)⟩
   replace c12 := Bool.eq_false_iff.mpr c12; subst c12; rw [if_neg (show ¬ (false = true) by decide)] at H
   by_cases c13 : a0_0 = 1
   ·rw [if_pos c13] at H; have c13b0 := beq_iff_eq.mpr c13; have c13b1 := bne_eq_false_iff_eq.mpr c13; clear c13
    by_cases c14 : a0_1 = 0
    ·rw [if_pos c14] at H; have c14b0 := beq_iff_eq.mpr c14; have c14b1 := bne_eq_false_iff_eq.mpr c14; clear c14
     by_cases c15 : a0_2 = 0
     ·rw [if_pos c15] at H; have c15b0 := beq_iff_eq.mpr c15; have c15b1 := bne_eq_false_iff_eq.mpr c15; clear c15
      by_cases c16 : a0_3.toList = ([] : List UInt8)
      ·rw [if_pos c16] at H; have c16b0 := beq_iff_eq.mpr c16; have c16b1 := bne_eq_false_iff_eq.mpr c16; clear c16
       by_cases c17 : a0_4.toList = ([] : List UInt8)
       ·rw [if_pos c17] at H; have c17b0 := beq_iff_eq.mpr c17; have c17b1 := bne_eq_false_iff_eq.mpr c17; clear c17; obtain rfl := Option.some.inj H; obtain ⟨hcz18_0, hcz18_1, hcz18_2, hcz18_3, hcz18_4, hcz18_5⟩ := cl6 BK227.out; obtain ⟨hfz18_0, hfz18_1, hfz18_2, hfz18_3, hfz18_4, hfz18_5⟩ := fr6 BK227.out
        go_wp2
        go_ret; exact ⟨B8x2_, (te1 HB.out GE227.out)⟩
       ·rw [if_neg c17] at H; have c17b0 := beq_eq_false_iff_ne.mpr c17; have c17b1 := bne_iff_ne.mpr c17; obtain rfl := Option.some.inj H; obtain ⟨hcz19_0, hcz19_1, hcz19_2, hcz19_3, hcz19_4, hcz19_5⟩ := cl6 BK227.out; obtain ⟨hfz19_0, hfz19_1, hfz19_2, hfz19_3, hfz19_4, hfz19_5⟩ := fr6 BK227.out
        go_wp2
        go_ret; exact ⟨B8x2_, (te1 HB.out GE227.out)⟩
      ·rw [if_neg c16] at H; have c16b0 := beq_eq_false_iff_ne.mpr c16; have c16b1 := bne_iff_ne.mpr c16; obtain rfl := Option.some.inj H; obtain ⟨hcz20_0, hcz20_1, hcz20_2, hcz20_3, hcz20_4, hcz20_5⟩ := cl6 BK227.out; obtain ⟨hfz20_0, hfz20_1, hfz20_2, hfz20_3, hfz20_4, hfz20_5⟩ := fr6 BK227.out
       go_wp2
       go_ret; exact ⟨B8x2_, (te1 HB.out GE227.out)⟩
     ·rw [if_neg c15] at H; have c15b0 := beq_eq_false_iff_ne.mpr c15; have c15b1 := bne_iff_ne.mpr c15; obtain rfl := Option.some.inj H; obtain ⟨hcz21_0, hcz21_1, hcz21_2, hcz21_3, hcz21_4, hcz21_5⟩ := cl6 BK227.out; obtain ⟨hfz21_0, hfz21_1, hfz21_2, hfz21_3, hfz21_4, hfz21_5⟩ := fr6 BK227.out
      go_wp2
      go_ret; exact ⟨B8x2_, (te1 HB.out GE227.out)⟩
    ·rw [if_neg c14] at H; have c14b0 := beq_eq_false_iff_ne.mpr c14; have c14b1 := bne_iff_ne.mpr c14; obtain rfl := Option.some.inj H; obtain ⟨hcz22_0, hcz22_1, hcz22_2, hcz22_3, hcz22_4, hcz22_5⟩ := cl6 BK227.out; obtain ⟨hfz22_0, hfz22_1, hfz22_2, hfz22_3, hfz22_4, hfz22_5⟩ := fr6 BK227.out
     go_wp2
     go_ret; exact ⟨B8x2_, (te1 HB.out GE227.out)⟩
   ·rw [if_neg c13] at H; have c13b0 := beq_eq_false_iff_ne.mpr c13; have c13b1 := bne_iff_ne.mpr c13; have HC23 := am H; clear H; obtain ⟨hcz24_0, hcz24_1, hcz24_2, hcz24_3, hcz24_4, hcz24_5⟩ := cl6 BK227.out; obtain ⟨hfz24_0, hfz24_1, hfz24_2, hfz24_3, hfz24_4, hfz24_5⟩ := fr6 BK227.out
    go_upto_region 5 with (fail)
    go_cut [55] (fun v55 wc => ∃ (kq : Nat) (x55_22 : Bool), v55 = .bool x55_22 ∧ Aside0 (spec_CommandOk.j1 kq x55_22 a0_0 a0_1 a0_2 a0_3 a0_4 a0_5 = some r) ∧ Aside0 (kq ≤ kj1) ∧ Aside0 (wc.heap[gb227]? = some (.cells #[.int .i64 a0_0, .int .i64 a0_1, .int .i64 a0_2, .string a0_3, .string a0_4, .int .i64 a0_5] 59 (0, 0))) ∧ Aside0 (Below w.heap.size w wc))
    case first =>
     have H := HC23.out; clear HC23; replace H := bsi H; obtain ⟨t231, A25, H⟩ := H; (try dsimp only at H)
     by_cases c26 : t231 = true
     ·subst c26; rw [if_pos rfl] at H
      have H' := am H
      clear H; obtain ⟨hcz27_0, hcz27_1, hcz27_2, hcz27_3, hcz27_4, hcz27_5⟩ := cl6 BK227.out; obtain ⟨hfz27_0, hfz27_1, hfz27_2, hfz27_3, hfz27_4, hfz27_5⟩ := fr6 BK227.out
      go_wp2_with (first | ((with_reducible refine gate_callee (f := 47) rfl ?_); refine goesL_ (some 48) rfl rfl Try.func47 gk_ rfl #[.int .i64 (a0_3.size : Int), .int .i64 1, .int .i64 8] rfl gm_ ?_; (with_reducible refine (spec_l01In.calls (a0_3.size : Int) 1 8 true _ A25.out).mono ?_); rintro e w' ⟨rfl, ⟨nd, rfl⟩⟩; refine ⟨_, rfl, ?_⟩))
      go_meet
      case rel => exact ⟨_, (decide ((a0_4.size : Int) > 20)), (be_), H', ⟨B8x9_⟩, ⟨(tb BK227.out)⟩, ⟨(te1 HB.out GE227.out)⟩⟩
     ·replace c26 := Bool.eq_false_iff.mpr c26; subst c26; rw [if_neg (show ¬ (false = true) by decide)] at H
      have H' := am H
      clear H; obtain ⟨hcz28_0, hcz28_1, hcz28_2, hcz28_3, hcz28_4, hcz28_5⟩ := cl6 BK227.out; obtain ⟨hfz28_0, hfz28_1, hfz28_2, hfz28_3, hfz28_4, hfz28_5⟩ := fr6 BK227.out
      go_wp2_with (first | ((with_reducible refine gate_callee (f := 47) rfl ?_); refine goesL_ (some 48) rfl rfl Try.func47 gk_ rfl #[.int .i64 (a0_3.size : Int), .int .i64 1, .int .i64 8] rfl gm_ ?_; (with_reducible refine (spec_l01In.calls (a0_3.size : Int) 1 8 false _ A25.out).mono ?_); rintro e w' ⟨rfl, ⟨nd, rfl⟩⟩; refine ⟨_, rfl, ?_⟩))
      go_meet
      case rel => exact ⟨_, (true), (be_), H', ⟨B8x9_⟩, ⟨(tb BK227.out)⟩, ⟨(te1 HB.out GE227.out)⟩⟩
    case rest =>
     clear HC23
     try clear c12
     try clear c13
     try clear c13b0
     try clear c13b1
     try clear hcz24_0
     try clear hcz24_1
     try clear hcz24_2
     try clear hcz24_3
     try clear hcz24_4
     try clear hcz24_5
     try clear hfz24_0
     try clear hfz24_1
     try clear hfz24_2
     try clear hfz24_3
     try clear hfz24_4
     try clear hfz24_5
     obtain ⟨kq, x55_22, rfl, HA, HJ22, BK227, HB⟩ := hcut
     cases kq with
     | zero => exact absurd HA.out (by simp [spec_CommandOk.j1])
     | succ kj22 =>
      have H := HA.out; clear HA; simp only [spec_CommandOk.j1] at H
      by_cases c29 : x55_22 = true
      ·subst c29; rw [if_pos rfl] at H; obtain rfl := Option.some.inj H
       go_wp2
       go_ret; exact ⟨B8x2_, (te1 HB.out GE227.out)⟩
      replace c29 := Bool.eq_false_iff.mpr c29; subst c29; rw [if_neg (show ¬ (false = true) by decide)] at H
      by_cases c30 : a0_0 = 2
      ·rw [if_pos c30] at H; have c30b0 := beq_iff_eq.mpr c30; have c30b1 := bne_eq_false_iff_eq.mpr c30; clear c30; obtain rfl := Option.some.inj H; obtain ⟨hcz31_0, hcz31_1, hcz31_2, hcz31_3, hcz31_4, hcz31_5⟩ := cl6 BK227.out; obtain ⟨hfz31_0, hfz31_1, hfz31_2, hfz31_3, hfz31_4, hfz31_5⟩ := fr6 BK227.out
       go_wp2
       go_ret; exact ⟨B8x2_, (te1 HB.out GE227.out)⟩
      ·rw [if_neg c30] at H; have c30b0 := beq_eq_false_iff_ne.mpr c30; have c30b1 := bne_iff_ne.mpr c30
       by_cases c32 : a0_0 = 5
       ·rw [if_pos c32] at H; have c32b0 := beq_iff_eq.mpr c32; have c32b1 := bne_eq_false_iff_eq.mpr c32; clear c32; replace H := bsi H; obtain ⟨t232, A33, H⟩ := H; (try dsimp only at H); obtain rfl := Option.some.inj H; obtain ⟨hcz34_0, hcz34_1, hcz34_2, hcz34_3, hcz34_4, hcz34_5⟩ := cl6 BK227.out; obtain ⟨hfz34_0, hfz34_1, hfz34_2, hfz34_3, hfz34_4, hfz34_5⟩ := fr6 BK227.out
        go_wp2_with (first | ((with_reducible refine gate_callee (f := 47) rfl ?_); refine goesL_ (some 67) rfl rfl Try.func47 gk_ rfl #[.int .i64 a0_5, .int .i64 1, .int .i64 1000000000] rfl gm_ ?_; (with_reducible refine (spec_l01In.calls a0_5 1 1000000000 t232 _ A33.out).mono ?_); rintro e w' ⟨rfl, ⟨nd, rfl⟩⟩; refine ⟨_, rfl, ?_⟩))
        go_ret; exact ⟨B8x2_, (te1 HB.out GE227.out)⟩
       ·rw [if_neg c32] at H; have c32b0 := beq_eq_false_iff_ne.mpr c32; have c32b1 := bne_iff_ne.mpr c32
        by_cases c35 : a0_4.toList = ([] : List UInt8)
        ·rw [if_pos c35] at H; have c35b0 := beq_iff_eq.mpr c35; have c35b1 := bne_eq_false_iff_eq.mpr c35; clear c35; obtain rfl := Option.some.inj H; obtain ⟨hcz36_0, hcz36_1, hcz36_2, hcz36_3, hcz36_4, hcz36_5⟩ := cl6 BK227.out; obtain ⟨hfz36_0, hfz36_1, hfz36_2, hfz36_3, hfz36_4, hfz36_5⟩ := fr6 BK227.out
         go_wp2
         go_ret; exact ⟨B8x2_, (te1 HB.out GE227.out)⟩
        ·rw [if_neg c35] at H; have c35b0 := beq_eq_false_iff_ne.mpr c35; have c35b1 := bne_iff_ne.mpr c35; obtain rfl := Option.some.inj H; obtain ⟨hcz37_0, hcz37_1, hcz37_2, hcz37_3, hcz37_4, hcz37_5⟩ := cl6 BK227.out; obtain ⟨hfz37_0, hfz37_1, hfz37_2, hfz37_3, hfz37_4, hfz37_5⟩ := fr6 BK227.out
         go_wp2
         go_ret; exact ⟨B8x2_, (te1 HB.out GE227.out)⟩

/-! ### spec_l01Figure: function 104 -/
def spec_l01Figure.f (a0 : Int) : Option (Int) := if a0 < 10 then (some ((wrap64 (48 + a0)) % 256)) else (some ((wrap64 ((wrap64 (97 + a0)) - 10)) % 256))
set_option maxHeartbeats 8000000 in
set_option maxRecDepth 100000 in
theorem spec_l01Figure.calls (a0 : Int) (r : Int) (w : World) (h : spec_l01Figure.f a0 = some r) :
  Calls Try.prog 104 #[.int .i64 a0] w fun e w' => e = .returned (.int .u8 r) ∧ Drawn0 w w' := by
 have H : (if a0 < 10 then (some ((wrap64 (48 + a0)) % 256)) else (some ((wrap64 ((wrap64 (97 + a0)) - 10)) % 256))) = some r := h
 clear h
 by_cases c2 : a0 < 10
 ·rw [if_pos c2] at H
  have c2b0 : decide (a0 < 10) = true := decide_eq_true c2
  clear c2; obtain rfl := Option.some.inj H; go_enter Try.func104, Try.ntmps104
  go_wp2
  go_ret; exact ⟨gr_, gd_⟩
 ·rw [if_neg c2] at H
  have c2b0 : decide (a0 < 10) = false := decide_eq_false c2
  clear c2; obtain rfl := Option.some.inj H; go_enter Try.func104, Try.ntmps104
  go_wp2
  go_ret; exact ⟨gr_, gd_⟩

/-! ### spec_Decimal: function 89 -/
def spec_Decimal.l0 : Nat → Int → Bool → ByteArray → Option (ByteArray)
 | 0, _, _, _ => none
 | k + 1, x0, x3, x4 => if x0 = 0 then (if x3 = true then (if 1 + x4.size ≤ 9223372036854775807 then (some ((⟨#[45]⟩ : ByteArray) ++ x4)) else (none)) else (some x4)) else (if (Int.tmod x0 10) < 0 then ((spec_l01Figure.f (wrap64 (-(Int.tmod x0 10)))).bind fun t233 => ((some (([t233] : List Int) : List Int)).bind fun y234 => (if (strOfNums y234).size + x4.size ≤ 9223372036854775807 then (spec_Decimal.l0 k (wrap64 (Int.tdiv x0 10)) x3 ((strOfNums y234) ++ x4)) else (none)))) else ((spec_l01Figure.f (Int.tmod x0 10)).bind fun t237 => ((some (([t237] : List Int) : List Int)).bind fun y238 => (if (strOfNums y238).size + x4.size ≤ 9223372036854775807 then (spec_Decimal.l0 k (wrap64 (Int.tdiv x0 10)) x3 ((strOfNums y238) ++ x4)) else (none)))))
def spec_Decimal.f (k : Nat) (a0 : Int) : Option (ByteArray) := if a0 = 0 then (some (⟨#[48]⟩ : ByteArray)) else (spec_Decimal.l0 k a0 (decide (a0 < 0)) (⟨#[]⟩ : ByteArray))
theorem spec_Decimal.mono_l : ∀ k, (∀ y0 y1 y2, LeO (spec_Decimal.l0 k y0 y1 y2) (spec_Decimal.l0 (k + 1) y0 y1 y2))
 | 0 => fun _ _ _ r h => by simp [spec_Decimal.l0] at h
 | k + 1 => by
  have ih0 := spec_Decimal.mono_l k
  ·intro y0 y1 y2
   unfold spec_Decimal.l0
   repeat' (with_reducible first | exact ih0 .. | exact LeO.refl _ | exact LeO.none _ | refine LeO.ite ?_ ?_ | refine LeO.bind ?_ (fun _ => ?_))
theorem spec_Decimal.mono : ∀ a0 k, LeO (spec_Decimal.f k a0) (spec_Decimal.f (k + 1) a0) := by
 intro a0 k
 have ih0 := spec_Decimal.mono_l k
 unfold spec_Decimal.f
 repeat' (with_reducible first | exact ih0 .. | exact LeO.refl _ | exact LeO.none _ | refine LeO.ite ?_ ?_ | refine LeO.bind ?_ (fun _ => ?_))
set_option maxHeartbeats 8000000 in
set_option maxRecDepth 100000 in
theorem spec_Decimal.calls (k : Nat) (a0 : Int) (r : ByteArray) (w : World) (h : spec_Decimal.f k a0 = some r) :
  Calls Try.prog 89 #[.int .i64 a0] w fun e w' => e = .returned (.string r) ∧ Below w.heap.size w w' := by
 have HB := am (Below.refl w.heap.size w)
 have H : (if a0 = 0 then (some (⟨#[48]⟩ : ByteArray)) else (spec_Decimal.l0 k a0 (decide (a0 < 0)) (⟨#[]⟩ : ByteArray))) = some r := h
 clear h
 by_cases c2 : a0 = 0
 ·rw [if_pos c2] at H; have c2b0 := beq_iff_eq.mpr c2; have c2b1 := bne_eq_false_iff_eq.mpr c2; clear c2; obtain rfl := Option.some.inj H; go_enter Try.func89, Try.ntmps89
  go_wp2
  go_ret; exact ⟨B8x2_, (te0 HB.out)⟩
 ·rw [if_neg c2] at H; have c2b0 := beq_eq_false_iff_ne.mpr c2; have c2b1 := bne_iff_ne.mpr c2
  have H' := am H
  clear H; go_enter Try.func89, Try.ntmps89
  go_wp2
  go_loopg [0, 4] k (fun kq v0 v4 w' => ∃ (x0_1 : Int) (x4_1 : ByteArray), v0 = .int .i64 x0_1 ∧ v4 = .string x4_1 ∧ Aside0 (spec_Decimal.l0 kq x0_1 (decide (a0 < 0)) x4_1 = some r) ∧ Aside0 (kq ≤ k) ∧ Aside0 (Below w.heap.size w w'))
  case atStart => exact ⟨(a0), ((⟨#[]⟩ : ByteArray)), (be_), (be_), H', ⟨Nat.le_refl _⟩, ⟨(te0 HB.out)⟩⟩
  case round =>
   clear H'
   try clear c2
   try clear c2b0
   try clear c2b1
   obtain ⟨x0_1, x4_1, rfl, rfl, HA, HK1, HB⟩ := hrel
   cases gk with
   | zero => exact absurd HA.out (by simp [spec_Decimal.l0])
   | succ k1 =>
    have H := HA.out; clear HA; simp only [spec_Decimal.l0] at H
    by_cases c3 : x0_1 = 0
    ·rw [if_pos c3] at H; have c3b0 := beq_iff_eq.mpr c3; have c3b1 := bne_eq_false_iff_eq.mpr c3; clear c3
     by_cases c4 : (decide (a0 < 0)) = true
     ·rw [if_pos c4] at H
      have c4b0 : (decide (a0 < 0)) = true := c4
      have c4b3 := eq_true (of_decide_eq_true c4)
      have c4b4 : (0 ≤ a0) = False := eq_false (by have := of_decide_eq_true c4; omega)
      clear c4
      by_cases c5 : 1 + x4_1.size ≤ 9223372036854775807
      rotate_left
      ·rw [if_neg c5] at H; exact absurd H (by simp)
      rw [if_pos c5] at H; have c5b0 := eq_true c5
      have c5b1 : decide (1 + x4_1.size ≤ 9223372036854775807) = true := decide_eq_true c5
      try have c5b2 : (9223372036854775807 < 1 + x4_1.size) = False := eq_false (Nat.not_lt.2 c5)
      try (have c5b9 := c5b2; simp only [ByteArray.size_append] at c5b9)
      obtain rfl := Option.some.inj H
      go_wp2
      (try any_goals (exfalso; have q_ := of_eq_true c4b3; omega)); go_ret; exact ⟨B8x2_, (te0 HB.out)⟩
     ·rw [if_neg c4] at H
      have c4b0 : (decide (a0 < 0)) = false := by simpa using c4
      have c4b3 := eq_false (of_decide_eq_false c4b0)
      have c4b4 : (0 ≤ a0) = True := eq_true (by have := of_decide_eq_false c4b0; omega)
      clear c4; obtain rfl := Option.some.inj H
      go_wp2
      (try any_goals (exfalso; have q_ := of_eq_false c4b3; omega)); go_ret; exact ⟨B8x2_, (te0 HB.out)⟩
    ·rw [if_neg c3] at H; have c3b0 := beq_eq_false_iff_ne.mpr c3; have c3b1 := bne_iff_ne.mpr c3
     by_cases c6 : (Int.tmod x0_1 10) < 0
     ·rw [if_pos c6] at H
      have c6b0 : decide ((Int.tmod x0_1 10) < 0) = true := decide_eq_true c6
      clear c6; replace H := bsi H; obtain ⟨t233, A7, H⟩ := H; (try dsimp only at H); obtain ⟨y234, hy234⟩ : ∃ y_ : List Int, y_ = (([t233] : List Int)) := ⟨_, rfl⟩
      replace H : (if (strOfNums y234).size + x4_1.size ≤ 9223372036854775807 then (spec_Decimal.l0 k1 (wrap64 (Int.tdiv x0_1 10)) (decide (a0 < 0)) ((strOfNums y234) ++ x4_1)) else (none)) = some r := by first | (rw [hy234]; with_reducible exact H) | (have H2_ := (Option.bind_some _ _).symm.trans H; rw [hy234]; with_reducible exact H2_) | (have H2_ := (Option.bind_some _ _).symm.trans H; with_reducible exact H2_) | with_reducible exact H | (rw [hy234]; exact H) | exact H
      have Ny234 := am hy234; clear hy234
      by_cases c8 : (strOfNums y234).size + x4_1.size ≤ 9223372036854775807
      rotate_left
      ·rw [if_neg c8] at H; exact absurd H (by simp)
      rw [if_pos c8] at H; have c8b0 := eq_true c8
      have c8b1 : decide ((strOfNums y234).size + x4_1.size ≤ 9223372036854775807) = true := decide_eq_true c8
      try have c8b2 : (9223372036854775807 < (strOfNums y234).size + x4_1.size) = False := eq_false (Nat.not_lt.2 c8)
      try (have c8b9 := c8b2; simp only [ByteArray.size_append] at c8b9)
      have H' := am H
      clear H
      go_wp2_with (first | ((with_reducible refine gate_callee (f := 104) rfl ?_); refine goesL_ (some 19) rfl rfl Try.func104 gk_ rfl #[.int .i64 (wrap64 (-(Int.tmod x0_1 10)))] rfl gm_ ?_; (with_reducible refine (spec_l01Figure.calls (wrap64 (-(Int.tmod x0_1 10))) t233 _ A7.out).mono ?_); rintro e w' ⟨rfl, ⟨nd, rfl⟩⟩; refine ⟨_, rfl, ?_⟩) | ((with_reducible refine gate_dst (N := 20) rfl ?_); refine Kd.R_lit (Kd.int .u8) _ 5 ?hg (N := 20) ?hd (xs := ([t233] : List Int)) (inner := [.int .u8 t233]) (ok := fun _ => True) (okp := fun _ => True) ?hr ?hp (fun _ hk => hk) trivial (Below.refl _ _) (Nat.le_refl _) (by simp) ?_; (case hd => rfl); (case hg => rfl); (case hr => exact gs_); (case hp => exact (Reps.one (show Kd.M (Kd.int .u8) _ _ _ t233 [.int .u8 t233] from rfl) (Reps.none _ _))); intro v235 w9 ho10 hb hg_ hnew_; clear hg_ hnew_; (first | rw [← Ny234.out] at ho10 | (simp only [Int.reduceToNat] at ho10; rw [← Ny234.out] at ho10)); have HO236 := am (Kd.R_lower ho10 (below_size (te0 HB.out))); replace HB := am (below_step (te0 HB.out) hb); clear hb ho10; have hcv11 := own_string (P := Try.prog) Try.underlying22 Try.underlying5 Try.underlying9 (Kd.own_of_R HO236.out)))
      go_roundg k1
      case measure => have := HK1.out; omega
      case rel => exact ⟨(wrap64 (Int.tdiv x0_1 10)), ((strOfNums y234) ++ x4_1), (be_), (be_), H', ⟨(by have := HK1.out; omega)⟩, ⟨(te0 HB.out)⟩⟩
     ·rw [if_neg c6] at H
      have c6b0 : decide ((Int.tmod x0_1 10) < 0) = false := decide_eq_false c6
      clear c6; replace H := bsi H; obtain ⟨t237, A12, H⟩ := H; (try dsimp only at H); obtain ⟨y238, hy238⟩ : ∃ y_ : List Int, y_ = (([t237] : List Int)) := ⟨_, rfl⟩
      replace H : (if (strOfNums y238).size + x4_1.size ≤ 9223372036854775807 then (spec_Decimal.l0 k1 (wrap64 (Int.tdiv x0_1 10)) (decide (a0 < 0)) ((strOfNums y238) ++ x4_1)) else (none)) = some r := by first | (rw [hy238]; with_reducible exact H) | (have H2_ := (Option.bind_some _ _).symm.trans H; rw [hy238]; with_reducible exact H2_) | (have H2_ := (Option.bind_some _ _).symm.trans H; with_reducible exact H2_) | with_reducible exact H | (rw [hy238]; exact H) | exact H
      have Ny238 := am hy238; clear hy238
      by_cases c13 : (strOfNums y238).size + x4_1.size ≤ 9223372036854775807
      rotate_left
      ·rw [if_neg c13] at H; exact absurd H (by simp)
      rw [if_pos c13] at H; have c13b0 := eq_true c13
      have c13b1 : decide ((strOfNums y238).size + x4_1.size ≤ 9223372036854775807) = true := decide_eq_true c13
      try have c13b2 : (9223372036854775807 < (strOfNums y238).size + x4_1.size) = False := eq_false (Nat.not_lt.2 c13)
      try (have c13b9 := c13b2; simp only [ByteArray.size_append] at c13b9)
      have H' := am H
      clear H
      go_wp2_with (first | ((with_reducible refine gate_callee (f := 104) rfl ?_); refine goesL_ (some 19) rfl rfl Try.func104 gk_ rfl #[.int .i64 (Int.tmod x0_1 10)] rfl gm_ ?_; (with_reducible refine (spec_l01Figure.calls (Int.tmod x0_1 10) t237 _ A12.out).mono ?_); rintro e w' ⟨rfl, ⟨nd, rfl⟩⟩; refine ⟨_, rfl, ?_⟩) | ((with_reducible refine gate_dst (N := 20) rfl ?_); refine Kd.R_lit (Kd.int .u8) _ 5 ?hg (N := 20) ?hd (xs := ([t237] : List Int)) (inner := [.int .u8 t237]) (ok := fun _ => True) (okp := fun _ => True) ?hr ?hp (fun _ hk => hk) trivial (Below.refl _ _) (Nat.le_refl _) (by simp) ?_; (case hd => rfl); (case hg => rfl); (case hr => exact gs_); (case hp => exact (Reps.one (show Kd.M (Kd.int .u8) _ _ _ t237 [.int .u8 t237] from rfl) (Reps.none _ _))); intro v239 w14 ho15 hb hg_ hnew_; clear hg_ hnew_; (first | rw [← Ny238.out] at ho15 | (simp only [Int.reduceToNat] at ho15; rw [← Ny238.out] at ho15)); have HO240 := am (Kd.R_lower ho15 (below_size (te0 HB.out))); replace HB := am (below_step (te0 HB.out) hb); clear hb ho15; have hcv16 := own_string (P := Try.prog) Try.underlying22 Try.underlying5 Try.underlying9 (Kd.own_of_R HO240.out)))
      go_roundg k1
      case measure => have := HK1.out; omega
      case rel => exact ⟨(wrap64 (Int.tdiv x0_1 10)), ((strOfNums y238) ++ x4_1), (be_), (be_), H', ⟨(by have := HK1.out; omega)⟩, ⟨(te0 HB.out)⟩⟩

end Go.Proofs.Ytgffdijodnpolaa.QFnSameKeeps
