/- Functions that a law reaches, as functions of Lean, and the walks that show that the calls come to their answers: written by a program of this project out of the translation. No condition. -/
import Derived.Test.YtideegpoakkgeaaQFnRingsToldx0
import Derived.Test.YtideegpoakkgeaaQFnRingsToldx2
import Derived.Test.YtideegpoakkgeaaQFnRingsToldx3
import Derived.Test.YtideegpoakkgeaaQFnRingsToldx4
import Derived.Test.YtideegpoakkgeaaQFnRingsToldx5
import Derived.Test.YtideegpoakkgeaaQFnRingsToldx6
import Derived.Test.YtideegpoakkgeaaQFnRingsToldx7
import Derived.Test.YtideegpoakkgeaaVFnRingsToldShort3
import Derived.Test.YtideegpoakkgeaaVFnRingsToldShort
import Derived.Test.YtideegpoakkgeaaQFnRingsToldx8
namespace Go.Proofs.Ytideegpoakkgeaa.QFnRingsTold
open Go.RowKit Go.Proofs.YtideegpoakkgeaaW.PrintWords Go.Proofs.YtideegpoakkgeaaW.PrintLast Go.Proofs.YtideegpoakkgeaaW.PrintMore Go.Proofs.Ytideegpoakkgeaa.Short
attribute [local go_sem] max2_int min2_int max_two min_two max_three min_three max_four min_four   -- for this text's walks alone
set_option linter.unusedVariables false
set_option linter.unusedSimpArgs false

set_option maxHeartbeats 8000000 in
set_option maxRecDepth 100000 in
theorem laws_FnRingsTold.callsB (k : Nat) (A0 : Option Addr) (c0 : Nat) (l0 : List Int) (r : Bool) (w : World) (hr0 : Kd.C (Kd.int .u8) w A0 l0.length l0) (hc0 : l0.length ≤ c0) (h : laws_FnRingsTold.f k l0 = some r) (hr_ : Aside0 (r = true)) (hs : Aside0 (∀ t349 t352 t353 t354 t356 t359 t360 t361, spec_DrawPostRing.f k l0 = some (t349, t352, t353, t354) → impl_PostRing.f k t349 t352 t353 t354 = some (t356, t359, t360, t361) → t361 = false)) :
  Calls Try.prog 5 #[.slice A0 l0.length c0] w fun e w' => e = .returned (.bool r) ∧ Below w.heap.size w w' := by
 have hu45 := Try.underlying45
 have HR0 := Aside0.mk hr0
 have HC0 := Aside0.mk hc0
 clear hr0 hc0
 have HB := Aside0.mk (Below.refl w.heap.size w)
 have H : ((laws_big.f l0).bind fun t348 => (if t348 = true then (some true) else ((spec_DrawPostRing.f k l0).bind fun bt349 => ((impl_PostRing.f k bt349.1 bt349.2.1 bt349.2.2.1 bt349.2.2.2).bind fun bt356 => ((spec_PostRing.f k bt349.1 bt349.2.1 bt349.2.2.1 bt349.2.2.2).bind fun bt363 => ((impl_TakeRing.f k bt349.1 bt349.2.1 bt349.2.2.1).bind fun bt370 => ((spec_TakeRing.f k bt349.1 bt349.2.1 bt349.2.2.1).bind fun bt378 => ((impl_RingNew.f 3).bind fun bt386 => ((impl_RingNew.f 9).bind fun bt393 => ((impl_RingOk.f k bt349.1 bt349.2.1 bt349.2.2.1).bind fun t400 => ((spec_RingOk.f k bt349.1 bt349.2.1 bt349.2.2.1).bind fun t401 => (if (t400 == t401) = true then (if (bt356.2.2.2 == bt363.2.2.2) = true then (if (bt370.2.2.2.2 == bt378.2.2.2.2) = true then (if bt370.2.2.2.1.toList = bt378.2.2.2.1.toList then (if bt356.2.2.2 = true then (if bt370.2.2.2.2 = true then (if bt386.2.2.2 = true then (if bt393.2.2.2 = true then (some false) else (if (bt386.1.length : Int) = 3 then ((impl_HeldBy.f k bt349.1 bt349.2.1 bt349.2.2.1).bind fun t402 => ((spec_HeldBy.f k bt349.1 bt349.2.1 bt349.2.2.1).bind fun t403 => (some (t402 == t403)))) else (some false))) else (some false)) else (if bt370.2.2.1 = bt349.2.2.1 then (if bt386.2.2.2 = true then (if bt393.2.2.2 = true then (some false) else (if (bt386.1.length : Int) = 3 then ((impl_HeldBy.f k bt349.1 bt349.2.1 bt349.2.2.1).bind fun t404 => ((spec_HeldBy.f k bt349.1 bt349.2.1 bt349.2.2.1).bind fun t405 => (some (t404 == t405)))) else (some false))) else (some false)) else (some false))) else (if (bt356.1.length : Int) = (bt349.1.length : Int) then (if bt356.2.1 = bt349.2.1 then (if bt370.2.2.2.2 = true then (if bt386.2.2.2 = true then (if bt393.2.2.2 = true then (some false) else (if (bt386.1.length : Int) = 3 then ((impl_HeldBy.f k bt349.1 bt349.2.1 bt349.2.2.1).bind fun t406 => ((spec_HeldBy.f k bt349.1 bt349.2.1 bt349.2.2.1).bind fun t407 => (some (t406 == t407)))) else (some false))) else (some false)) else (if bt370.2.2.1 = bt349.2.2.1 then (if bt386.2.2.2 = true then (if bt393.2.2.2 = true then (some false) else (if (bt386.1.length : Int) = 3 then ((impl_HeldBy.f k bt349.1 bt349.2.1 bt349.2.2.1).bind fun t408 => ((spec_HeldBy.f k bt349.1 bt349.2.1 bt349.2.2.1).bind fun t409 => (some (t408 == t409)))) else (some false))) else (some false)) else (some false))) else (some false)) else (some false))) else (some false)) else (some false)) else (some false)) else (some false))))))))))))) = some r := h
 clear h
 replace H := Option.bind_eq_some_iff.mp H
 obtain ⟨t348, A20, H⟩ := H
 (try dsimp only at H)
 have A2 := Aside0.mk A20
 clear A20
 by_cases c3 : t348 = true
 ·subst c3
  rw [if_pos rfl] at H
  obtain rfl := Option.some.inj H
  go_enter Try.func5, Try.ntmps5
  go_wp2_with (first | ((with_reducible refine gate_callee (f := 23) rfl ?_); refine goesL_ (some 20) rfl rfl Try.func23 B8x54_ rfl #[.slice A0 l0.length c0] rfl B8x3_ ?_; (with_reducible refine (laws_big.calls _ _ l0 true _ ?side1 ?side2 A2.out).mono ?_); (case side1 => repeat (first | exact HR0.out | (with_reducible refine Kd.C_alloc ?_ _) | (with_reducible refine Kd.C_drewN ?_ _) | (with_reducible refine Kd.C_drew ?_))); (case side2 => exact HC0.out); rintro e w' ⟨rfl, ⟨nd, rfl⟩⟩; refine ⟨_, rfl, ?_⟩))
  go_ret
  exact ⟨by first | rfl | (simp [errW_none, errW_some] <;> rfl) | (simp [*, errW_none, errW_some] <;> rfl), by repeat (first | (with_reducible first | exact HB.out | apply below_alloc | apply pw_below_drewN | apply below_drew1) | exact HB.out)⟩
 ·replace c3 := Bool.eq_false_iff.mpr c3
  subst c3
  rw [if_neg (show ¬ (false = true) by decide)] at H
  replace H := Option.bind_eq_some_iff.mp H
  obtain ⟨⟨t349, t352, t353, t354⟩, A40, H⟩ := H
  (try dsimp only at H)
  have A4 := Aside0.mk A40
  clear A40
  replace H := Option.bind_eq_some_iff.mp H
  obtain ⟨⟨t356, t359, t360, t361⟩, A50, H⟩ := H
  (try dsimp only at H)
  have A5 := Aside0.mk A50
  clear A50
  replace H := Option.bind_eq_some_iff.mp H
  obtain ⟨⟨t363, t366, t367, t368⟩, A60, H⟩ := H
  (try dsimp only at H)
  have A6 := Aside0.mk A60
  clear A60
  replace H := Option.bind_eq_some_iff.mp H
  obtain ⟨⟨t370, t373, t374, t375, t376⟩, A70, H⟩ := H
  (try dsimp only at H)
  have A7 := Aside0.mk A70
  clear A70
  replace H := Option.bind_eq_some_iff.mp H
  obtain ⟨⟨t378, t381, t382, t383, t384⟩, A80, H⟩ := H
  (try dsimp only at H)
  have A8 := Aside0.mk A80
  clear A80
  replace H := Option.bind_eq_some_iff.mp H
  obtain ⟨⟨t386, t389, t390, t391⟩, A90, H⟩ := H
  (try dsimp only at H)
  have A9 := Aside0.mk A90
  clear A90
  replace H := Option.bind_eq_some_iff.mp H
  obtain ⟨⟨t393, t396, t397, t398⟩, A100, H⟩ := H
  (try dsimp only at H)
  have A10 := Aside0.mk A100
  clear A100
  replace H := Option.bind_eq_some_iff.mp H
  obtain ⟨t400, A110, H⟩ := H
  (try dsimp only at H)
  have A11 := Aside0.mk A110
  clear A110
  replace H := Option.bind_eq_some_iff.mp H
  obtain ⟨t401, A120, H⟩ := H
  (try dsimp only at H)
  have A12 := Aside0.mk A120
  clear A120
  by_cases c13 : (t400 == t401) = true
  ·rw [if_pos c13] at H
   have c13b0 : (t400 == t401) = true := c13
   (try (have c13b1 : decide (t400 = t401) = true := by simpa using c13))
   (try (have c13b2 : (t400 == t401) = true := by simpa using c13))
   clear c13
   by_cases c14 : (t361 == t368) = true
   ·rw [if_pos c14] at H
    have c14b0 : (t361 == t368) = true := c14
    (try (have c14b1 : decide (t361 = t368) = true := by simpa using c14))
    (try (have c14b2 : (t361 == t368) = true := by simpa using c14))
    clear c14
    by_cases c15 : (t376 == t384) = true
    ·rw [if_pos c15] at H
     have c15b0 : (t376 == t384) = true := c15
     (try (have c15b1 : decide (t376 = t384) = true := by simpa using c15))
     (try (have c15b2 : (t376 == t384) = true := by simpa using c15))
     clear c15
     by_cases c16 : t375.toList = t383.toList
     ·rw [if_pos c16] at H
      have c16b0 : (t375.toList == t383.toList) = true := beq_iff_eq.mpr c16
      have c16b1 : (t375.toList != t383.toList) = false := bne_eq_false_iff_eq.mpr c16
      clear c16
      by_cases c17 : t361 = true
      ·exact absurd (hs.out _ _ _ _ _ _ _ _ A4.out A5.out) (by rw [c17]; decide)
      ·replace c17 := Bool.eq_false_iff.mpr c17
       subst c17
       rw [if_neg (show ¬ (false = true) by decide)] at H
       by_cases c146 : (t356.length : Int) = (t349.length : Int)
       ·rw [if_pos c146] at H
        have c146b0 : ((t356.length : Int) == (t349.length : Int)) = true := beq_iff_eq.mpr c146
        have c146b1 : ((t356.length : Int) != (t349.length : Int)) = false := bne_eq_false_iff_eq.mpr c146
        have c146b2 : (t356.length == t349.length) = true := by first | simpa using c146 | (simp at c146 ⊢; omega)
        clear c146
        by_cases c147 : t359 = t352
        ·rw [if_pos c147] at H
         have c147b0 : (t359 == t352) = true := beq_iff_eq.mpr c147
         have c147b1 : (t359 != t352) = false := bne_eq_false_iff_eq.mpr c147
         clear c147
         by_cases c148 : t376 = true
         ·subst c148
          rw [if_pos rfl] at H
          by_cases c149 : t391 = true
          ·subst c149
           rw [if_pos rfl] at H
           by_cases c150 : t398 = true
           ·subst c150
            rw [if_pos rfl] at H
            exact absurd ((Option.some.inj H).trans hr_.out) (by decide)
           ·replace c150 := Bool.eq_false_iff.mpr c150
            subst c150
            rw [if_neg (show ¬ (false = true) by decide)] at H
            by_cases c151 : (t386.length : Int) = 3
            ·rw [if_pos c151] at H
             have c151b0 : ((t386.length : Int) == 3) = true := beq_iff_eq.mpr c151
             have c151b1 : ((t386.length : Int) != 3) = false := bne_eq_false_iff_eq.mpr c151
             clear c151
             replace H := Option.bind_eq_some_iff.mp H
             obtain ⟨t406, A1520, H⟩ := H
             (try dsimp only at H)
             have A152 := Aside0.mk A1520
             clear A1520
             replace H := Option.bind_eq_some_iff.mp H
             obtain ⟨t407, A1530, H⟩ := H
             (try dsimp only at H)
             have A153 := Aside0.mk A1530
             clear A1530
             obtain rfl := Option.some.inj H
             go_enter Try.func5, Try.ntmps5
             try go_wp2_with (first | ((with_reducible refine gate_callee (f := 23) rfl ?_); refine goesL_ (some 20) rfl rfl Try.func23 B8x54_ rfl #[.slice A0 l0.length c0] rfl B8x3_ ?_; (with_reducible refine (laws_big.calls _ _ l0 false _ ?side1 ?side2 A2.out).mono ?_); (case side1 => repeat (first | exact HR0.out | (with_reducible refine Kd.C_alloc ?_ _) | (with_reducible refine Kd.C_drewN ?_ _) | (with_reducible refine Kd.C_drew ?_))); (case side2 => exact HC0.out); rintro e w' ⟨rfl, ⟨nd, rfl⟩⟩; refine ⟨_, rfl, ?_⟩) | ((with_reducible refine gate_callee (f := 24) rfl ?_); refine goesL_ (some 23) rfl rfl Try.func24 B8x54_ rfl #[.slice A0 l0.length c0] rfl B8x3_ ?_; (with_reducible refine (spec_DrawPostRing.calls k _ _ l0 t349 t352 t353 t354 _ ?side1 ?side2 A4.out).mono ?_); (case side1 => repeat (first | exact HR0.out | (with_reducible refine Kd.C_alloc ?_ _) | (with_reducible refine Kd.C_drewN ?_ _) | (with_reducible refine Kd.C_drew ?_))); (case side2 => exact HC0.out); rintro e w154 ⟨v350, rfl, ho0, hb⟩; refine ⟨_, rfl, ?_⟩; have n0_ := Aside0.mk (Kd.R_lower ho0 (below_size B8x19_)); have n1_ := Aside0.mk (below_step B8x19_ hb); clear HB; have HO351 := n0_; have HB := n1_; clear n0_ n1_; (try clear hb); (try clear hb2); (try clear hk); (try clear hi); (try clear ho0)) | ((with_reducible refine gate_dst (N := 3) rfl ?_); (try (refine gate_guard (by rfl) ?_; dsimp only)); refine box_event ?hg (N := 3) ?hd (cs := #[.slice none 0 0, .int .i64 0, .int .i64 0]) (t := 45) ?hr ?_; (case hd => rfl); (case hg => rfl); (case hr => first | (go_simp; done) | (go_simp; rfl)); intro gb355 hg w155 hbox hb; have n0_ := Aside0.mk (Kd.R_below B8x10_ hb); have n1_ := Aside0.mk (below_step B8x19_ hb); have n2_ := Aside0.mk (hbox); have n3_ := Aside0.mk ((by rw [hg]; exact (below_size B8x19_) : w.heap.size ≤ gb355)); have n4_ := Aside0.mk ((by rw [hg]; exact (below_size B8x19_) : w.heap.size ≤ gb355)); clear HO351; clear HB; have HO351 := n0_; have HB := n1_; have BK355 := n2_; have GW355 := n3_; have GE355 := n4_; clear n0_ n1_ n2_ n3_ n4_; clear hb hbox hg; obtain ⟨Ao156, co156, eo156⟩ := Kd.R_slice HO351.out; subst eo156; obtain ⟨hcz157_0, hcz157_1, hcz157_2⟩ := cl3 BK355.out; obtain ⟨hfz157_0, hfz157_1, hfz157_2⟩ := fr3 BK355.out) | ((with_reducible refine gate_callee (f := 25) rfl ?_); refine goesL_ (some 29) rfl rfl Try.func25 B8x54_ rfl #[.agg #[.slice Ao156 t349.length co156, .int .i64 t352, .int .i64 t353], .string t354] rfl B8x3_ ?_; (with_reducible refine (impl_PostRing.calls k _ _ t349 t352 t353 t354 t356 t359 t360 false _ ?side1 ?side2 A5.out).mono ?_); (case side1 => refine (Kd.R_reads' (e := 105) (base := w.heap.size) (ok := fun k_ => True) (n := t349.length) (c := co156) ?_).2.2; exact B8x38_); (case side2 => exact (Kd.R_reads' HO351.out).2.1); rintro e w158 ⟨v357, rfl, ho0, hb⟩; refine ⟨_, rfl, ?_⟩; have n0_ := Aside0.mk (Kd.R_elder' B8x38_ (Kd.R_base ho0) hb); have n1_ := Aside0.mk (Kd.R_lower (Kd.R_new' ho0 (Kd.R_lt B8x38_)) (below_size B8x17_)); have n2_ := Aside0.mk (blk_below (g := gb355) (o := .cells #[.slice Ao156 t349.length co156, .int .i64 t352, .int .i64 t353] 45 (0, 0)) (by (with_reducible repeat (first | refine blk_drewN ?_ _ | refine blk_drew ?_ | refine blk_alloc ?_ _)); refine blk_put (cs := #[.slice Ao156 t349.length co156, .int .i64 t352, .int .i64 0]) ?_ 2 _ rfl; (with_reducible repeat (first | refine blk_drewN ?_ _ | refine blk_drew ?_ | refine blk_alloc ?_ _)); refine blk_put (cs := #[.slice Ao156 t349.length co156, .int .i64 0, .int .i64 0]) ?_ 1 _ rfl; (with_reducible repeat (first | refine blk_drewN ?_ _ | refine blk_drew ?_ | refine blk_alloc ?_ _)); refine blk_put (cs := #[.slice none 0 0, .int .i64 0, .int .i64 0]) ?_ 0 _ rfl; (with_reducible repeat (first | refine blk_drewN ?_ _ | refine blk_drew ?_ | refine blk_alloc ?_ _)); exact BK355.out) hb); have n3_ := Aside0.mk (below_step B8x17_ hb); clear HO351; clear BK355; clear HB; have HO351 := n0_; have HO358 := n1_; have BK355 := n2_; have HB := n3_; clear n0_ n1_ n2_ n3_; (try clear hb); (try clear hb2); (try clear hk); (try clear hi); (try clear ho0)) | ((with_reducible refine gate_dst (N := 5) rfl ?_); (try (refine gate_guard (by rfl) ?_; dsimp only)); refine box_event ?hg (N := 5) ?hd (cs := #[.slice none 0 0, .int .i64 0, .int .i64 0]) (t := 45) ?hr ?_; (case hd => rfl); (case hg => rfl); (case hr => first | (go_simp; done) | (go_simp; rfl)); intro gb362 hg w159 hbox hb; have n0_ := Aside0.mk (Kd.R_below B8x10_ hb); have n1_ := Aside0.mk (Kd.R_below B8x12_ hb); have n2_ := Aside0.mk (blk_below (g := gb355) (o := .cells #[.slice Ao156 t349.length co156, .int .i64 t352, .int .i64 t353] 45 (0, 0)) B8x0_ hb); have n3_ := Aside0.mk (below_step B8x17_ hb); have n4_ := Aside0.mk (hbox); have n5_ := Aside0.mk ((by rw [hg]; exact (below_size B8x17_) : w.heap.size ≤ gb362)); have n6_ := Aside0.mk ((by rw [hg]; exact (below_size B8x17_) : w.heap.size ≤ gb362)); have n7_ := Aside0.mk ((by rw [hg]; exact Nat.ne_of_lt (blk_lt (g := gb355) (o := .cells #[.slice Ao156 t349.length co156, .int .i64 t352, .int .i64 t353] 45 (0, 0)) B8x0_) : gb355 ≠ gb362)); have n8_ := Aside0.mk ((by rw [hg]; exact Nat.ne_of_gt (blk_lt (g := gb355) (o := .cells #[.slice Ao156 t349.length co156, .int .i64 t352, .int .i64 t353] 45 (0, 0)) B8x0_) : gb362 ≠ gb355)); clear HO351; clear HO358; clear BK355; clear HB; have HO351 := n0_; have HO358 := n1_; have BK355 := n2_; have HB := n3_; have BK362 := n4_; have GW362 := n5_; have GE362 := n6_; have NB355_362 := n7_; have NB362_355 := n8_; clear n0_ n1_ n2_ n3_ n4_ n5_ n6_ n7_ n8_; clear hb hbox hg; obtain ⟨Ao160, co160, eo160⟩ := Kd.R_slice HO358.out; subst eo160; have hnb161 := NB362_355.out; have hnc161 := NB355_362.out; obtain ⟨hcz162_0, hcz162_1, hcz162_2⟩ := cl3 BK362.out; obtain ⟨hfz162_0, hfz162_1, hfz162_2⟩ := fr3 BK362.out; obtain ⟨hcz163_0, hcz163_1, hcz163_2⟩ := cl3 BK355.out; obtain ⟨hfz163_0, hfz163_1, hfz163_2⟩ := fr3 BK355.out) | ((with_reducible refine gate_callee (f := 26) rfl ?_); refine goesL_ (some 35) rfl rfl Try.func26 B8x54_ rfl #[.agg #[.slice Ao156 t349.length co156, .int .i64 t352, .int .i64 t353], .string t354] rfl B8x3_ ?_; (with_reducible refine (spec_PostRing.calls k _ _ t349 t352 t353 t354 t363 t366 t367 t368 _ ?side1 ?side2 A6.out).mono ?_); (case side1 => refine (Kd.R_reads' (e := 105) (base := w.heap.size) (ok := fun k_ => (True ∧ some k_ ≠ (.slice Ao160 t356.length co160 : Value).ownBlock)) (n := t349.length) (c := co156) ?_).2.2; exact B8x40_); (case side2 => exact (Kd.R_reads' HO351.out).2.1); rintro e w164 ⟨v364, rfl, ho0, hb⟩; refine ⟨_, rfl, ?_⟩; have n0_ := Aside0.mk (Kd.R_elder' B8x40_ (Kd.R_base ho0) hb); have n1_ := Aside0.mk (Kd.R_elder' B8x55_ (Kd.R_base ho0) hb); have n2_ := Aside0.mk (Kd.R_lower (Kd.R_new' (Kd.R_new' ho0 (Kd.R_lt B8x40_)) (Kd.R_lt B8x55_)) (below_size B8x13_)); have n3_ := Aside0.mk (blk_below (g := gb355) (o := .cells #[.slice Ao156 t349.length co156, .int .i64 t352, .int .i64 t353] 45 (0, 0)) B8x23_ hb); have n4_ := Aside0.mk (blk_below (g := gb362) (o := .cells #[.slice Ao160 t356.length co160, .int .i64 t359, .int .i64 t360] 45 (0, 0)) (by (with_reducible repeat (first | refine blk_drewN ?_ _ | refine blk_drew ?_ | refine blk_alloc ?_ _)); refine blk_put (cs := #[.slice Ao160 t356.length co160, .int .i64 t359, .int .i64 0]) ?_ 2 _ rfl; (with_reducible repeat (first | refine blk_drewN ?_ _ | refine blk_drew ?_ | refine blk_alloc ?_ _)); refine blk_put (cs := #[.slice Ao160 t356.length co160, .int .i64 0, .int .i64 0]) ?_ 1 _ rfl; (with_reducible repeat (first | refine blk_drewN ?_ _ | refine blk_drew ?_ | refine blk_alloc ?_ _)); refine blk_put (cs := #[.slice none 0 0, .int .i64 0, .int .i64 0]) ?_ 0 _ rfl; (with_reducible repeat (first | refine blk_drewN ?_ _ | refine blk_drew ?_ | refine blk_alloc ?_ _)); exact BK362.out) hb); have n5_ := Aside0.mk (below_step B8x13_ hb); clear HO351; clear HO358; clear BK355; clear BK362; clear HB; have HO351 := n0_; have HO358 := n1_; have HO365 := n2_; have BK355 := n3_; have BK362 := n4_; have HB := n5_; clear n0_ n1_ n2_ n3_ n4_ n5_; (try clear hb); (try clear hb2); (try clear hk); (try clear hi); (try clear ho0)) | ((with_reducible refine gate_dst (N := 7) rfl ?_); (try (refine gate_guard (by rfl) ?_; dsimp only)); refine box_event ?hg (N := 7) ?hd (cs := #[.slice none 0 0, .int .i64 0, .int .i64 0]) (t := 45) ?hr ?_; (case hd => rfl); (case hg => rfl); (case hr => first | (go_simp; done) | (go_simp; rfl)); intro gb369 hg w165 hbox hb; have n0_ := Aside0.mk (Kd.R_below B8x10_ hb); have n1_ := Aside0.mk (Kd.R_below B8x12_ hb); have n2_ := Aside0.mk (Kd.R_below B8x14_ hb); have n3_ := Aside0.mk (blk_below (g := gb355) (o := .cells #[.slice Ao156 t349.length co156, .int .i64 t352, .int .i64 t353] 45 (0, 0)) B8x0_ hb); have n4_ := Aside0.mk (blk_below (g := gb362) (o := .cells #[.slice Ao160 t356.length co160, .int .i64 t359, .int .i64 t360] 45 (0, 0)) B8x1_ hb); have n5_ := Aside0.mk (below_step B8x13_ hb); have n6_ := Aside0.mk (hbox); have n7_ := Aside0.mk ((by rw [hg]; exact (below_size B8x13_) : w.heap.size ≤ gb369)); have n8_ := Aside0.mk ((by rw [hg]; exact (below_size B8x13_) : w.heap.size ≤ gb369)); have n9_ := Aside0.mk ((by rw [hg]; exact Nat.ne_of_lt (blk_lt (g := gb355) (o := .cells #[.slice Ao156 t349.length co156, .int .i64 t352, .int .i64 t353] 45 (0, 0)) B8x0_) : gb355 ≠ gb369)); have n10_ := Aside0.mk ((by rw [hg]; exact Nat.ne_of_gt (blk_lt (g := gb355) (o := .cells #[.slice Ao156 t349.length co156, .int .i64 t352, .int .i64 t353] 45 (0, 0)) B8x0_) : gb369 ≠ gb355)); have n11_ := Aside0.mk ((by rw [hg]; exact Nat.ne_of_lt (blk_lt (g := gb362) (o := .cells #[.slice Ao160 t356.length co160, .int .i64 t359, .int .i64 t360] 45 (0, 0)) B8x1_) : gb362 ≠ gb369)); have n12_ := Aside0.mk ((by rw [hg]; exact Nat.ne_of_gt (blk_lt (g := gb362) (o := .cells #[.slice Ao160 t356.length co160, .int .i64 t359, .int .i64 t360] 45 (0, 0)) B8x1_) : gb369 ≠ gb362)); clear HO351; clear HO358; clear HO365; clear BK355; clear BK362; clear HB; have HO351 := n0_; have HO358 := n1_; have HO365 := n2_; have BK355 := n3_; have BK362 := n4_; have HB := n5_; have BK369 := n6_; have GW369 := n7_; have GE369 := n8_; have NB355_369 := n9_; have NB369_355 := n10_; have NB362_369 := n11_; have NB369_362 := n12_; clear n0_ n1_ n2_ n3_ n4_ n5_ n6_ n7_ n8_ n9_ n10_ n11_ n12_; clear hb hbox hg; obtain ⟨Ao166, co166, eo166⟩ := Kd.R_slice HO365.out; subst eo166; have hnb167 := NB369_355.out; have hnc167 := NB355_369.out; have hnb168 := NB369_362.out; have hnc168 := NB362_369.out; obtain ⟨hcz169_0, hcz169_1, hcz169_2⟩ := cl3 BK369.out; obtain ⟨hfz169_0, hfz169_1, hfz169_2⟩ := fr3 BK369.out; obtain ⟨hcz170_0, hcz170_1, hcz170_2⟩ := cl3 BK355.out; obtain ⟨hfz170_0, hfz170_1, hfz170_2⟩ := fr3 BK355.out) | ((with_reducible refine gate_callee (f := 27) rfl ?_); refine goesL_ (some 40) rfl rfl Try.func27 B8x54_ rfl #[.agg #[.slice Ao156 t349.length co156, .int .i64 t352, .int .i64 t353]] rfl B8x3_ ?_; (with_reducible refine (impl_TakeRing.calls k _ _ t349 t352 t353 t370 t373 t374 t375 true _ ?side1 ?side2 A7.out).mono ?_); (case side1 => refine (Kd.R_reads' (e := 105) (base := w.heap.size) (ok := fun k_ => ((True ∧ some k_ ≠ (.slice Ao160 t356.length co160 : Value).ownBlock) ∧ some k_ ≠ (.slice Ao166 t363.length co166 : Value).ownBlock)) (n := t349.length) (c := co156) ?_).2.2; exact B8x43_); (case side2 => exact (Kd.R_reads' HO351.out).2.1); rintro e w171 ⟨v371, rfl, ho0, hb⟩; refine ⟨_, rfl, ?_⟩; have n0_ := Aside0.mk (Kd.R_elder' B8x43_ (Kd.R_base ho0) hb); have n1_ := Aside0.mk (Kd.R_elder' B8x58_ (Kd.R_base ho0) hb); have n2_ := Aside0.mk (Kd.R_elder' B8x61_ (Kd.R_base ho0) hb); have n3_ := Aside0.mk (Kd.R_lower (Kd.R_new' (Kd.R_new' (Kd.R_new' ho0 (Kd.R_lt B8x43_)) (Kd.R_lt B8x58_)) (Kd.R_lt B8x61_)) (below_size B8x11_)); have n4_ := Aside0.mk (blk_below (g := gb355) (o := .cells #[.slice Ao156 t349.length co156, .int .i64 t352, .int .i64 t353] 45 (0, 0)) B8x24_ hb); have n5_ := Aside0.mk (blk_below (g := gb362) (o := .cells #[.slice Ao160 t356.length co160, .int .i64 t359, .int .i64 t360] 45 (0, 0)) B8x28_ hb); have n6_ := Aside0.mk (blk_below (g := gb369) (o := .cells #[.slice Ao166 t363.length co166, .int .i64 t366, .int .i64 t367] 45 (0, 0)) (by (with_reducible repeat (first | refine blk_drewN ?_ _ | refine blk_drew ?_ | refine blk_alloc ?_ _)); refine blk_put (cs := #[.slice Ao166 t363.length co166, .int .i64 t366, .int .i64 0]) ?_ 2 _ rfl; (with_reducible repeat (first | refine blk_drewN ?_ _ | refine blk_drew ?_ | refine blk_alloc ?_ _)); refine blk_put (cs := #[.slice Ao166 t363.length co166, .int .i64 0, .int .i64 0]) ?_ 1 _ rfl; (with_reducible repeat (first | refine blk_drewN ?_ _ | refine blk_drew ?_ | refine blk_alloc ?_ _)); refine blk_put (cs := #[.slice none 0 0, .int .i64 0, .int .i64 0]) ?_ 0 _ rfl; (with_reducible repeat (first | refine blk_drewN ?_ _ | refine blk_drew ?_ | refine blk_alloc ?_ _)); exact BK369.out) hb); have n7_ := Aside0.mk (below_step B8x11_ hb); clear HO351; clear HO358; clear HO365; clear BK355; clear BK362; clear BK369; clear HB; have HO351 := n0_; have HO358 := n1_; have HO365 := n2_; have HO372 := n3_; have BK355 := n4_; have BK362 := n5_; have BK369 := n6_; have HB := n7_; clear n0_ n1_ n2_ n3_ n4_ n5_ n6_ n7_; (try clear hb); (try clear hb2); (try clear hk); (try clear hi); (try clear ho0)) | ((with_reducible refine gate_dst (N := 9) rfl ?_); (try (refine gate_guard (by rfl) ?_; dsimp only)); refine box_event ?hg (N := 9) ?hd (cs := #[.slice none 0 0, .int .i64 0, .int .i64 0]) (t := 45) ?hr ?_; (case hd => rfl); (case hg => rfl); (case hr => first | (go_simp; done) | (go_simp; rfl)); intro gb377 hg w172 hbox hb; have n0_ := Aside0.mk (Kd.R_below B8x10_ hb); have n1_ := Aside0.mk (Kd.R_below B8x12_ hb); have n2_ := Aside0.mk (Kd.R_below B8x14_ hb); have n3_ := Aside0.mk (Kd.R_below B8x15_ hb); have n4_ := Aside0.mk (blk_below (g := gb355) (o := .cells #[.slice Ao156 t349.length co156, .int .i64 t352, .int .i64 t353] 45 (0, 0)) B8x0_ hb); have n5_ := Aside0.mk (blk_below (g := gb362) (o := .cells #[.slice Ao160 t356.length co160, .int .i64 t359, .int .i64 t360] 45 (0, 0)) B8x1_ hb); have n6_ := Aside0.mk (blk_below (g := gb369) (o := .cells #[.slice Ao166 t363.length co166, .int .i64 t366, .int .i64 t367] 45 (0, 0)) B8x2_ hb); have n7_ := Aside0.mk (below_step B8x11_ hb); have n8_ := Aside0.mk (hbox); have n9_ := Aside0.mk ((by rw [hg]; exact (below_size B8x11_) : w.heap.size ≤ gb377)); have n10_ := Aside0.mk ((by rw [hg]; exact (below_size B8x11_) : w.heap.size ≤ gb377)); have n11_ := Aside0.mk ((by rw [hg]; exact Nat.ne_of_lt (blk_lt (g := gb355) (o := .cells #[.slice Ao156 t349.length co156, .int .i64 t352, .int .i64 t353] 45 (0, 0)) B8x0_) : gb355 ≠ gb377)); have n12_ := Aside0.mk ((by rw [hg]; exact Nat.ne_of_gt (blk_lt (g := gb355) (o := .cells #[.slice Ao156 t349.length co156, .int .i64 t352, .int .i64 t353] 45 (0, 0)) B8x0_) : gb377 ≠ gb355)); have n13_ := Aside0.mk ((by rw [hg]; exact Nat.ne_of_lt (blk_lt (g := gb362) (o := .cells #[.slice Ao160 t356.length co160, .int .i64 t359, .int .i64 t360] 45 (0, 0)) B8x1_) : gb362 ≠ gb377)); have n14_ := Aside0.mk ((by rw [hg]; exact Nat.ne_of_gt (blk_lt (g := gb362) (o := .cells #[.slice Ao160 t356.length co160, .int .i64 t359, .int .i64 t360] 45 (0, 0)) B8x1_) : gb377 ≠ gb362)); have n15_ := Aside0.mk ((by rw [hg]; exact Nat.ne_of_lt (blk_lt (g := gb369) (o := .cells #[.slice Ao166 t363.length co166, .int .i64 t366, .int .i64 t367] 45 (0, 0)) B8x2_) : gb369 ≠ gb377)); have n16_ := Aside0.mk ((by rw [hg]; exact Nat.ne_of_gt (blk_lt (g := gb369) (o := .cells #[.slice Ao166 t363.length co166, .int .i64 t366, .int .i64 t367] 45 (0, 0)) B8x2_) : gb377 ≠ gb369)); clear HO351; clear HO358; clear HO365; clear HO372; clear BK355; clear BK362; clear BK369; clear HB; have HO351 := n0_; have HO358 := n1_; have HO365 := n2_; have HO372 := n3_; have BK355 := n4_; have BK362 := n5_; have BK369 := n6_; have HB := n7_; have BK377 := n8_; have GW377 := n9_; have GE377 := n10_; have NB355_377 := n11_; have NB377_355 := n12_; have NB362_377 := n13_; have NB377_362 := n14_; have NB369_377 := n15_; have NB377_369 := n16_; clear n0_ n1_ n2_ n3_ n4_ n5_ n6_ n7_ n8_ n9_ n10_ n11_ n12_ n13_ n14_ n15_ n16_; clear hb hbox hg; obtain ⟨Ao173, co173, eo173⟩ := Kd.R_slice HO372.out; subst eo173; have hnb174 := NB377_355.out; have hnc174 := NB355_377.out; have hnb175 := NB377_362.out; have hnc175 := NB362_377.out; have hnb176 := NB377_369.out; have hnc176 := NB369_377.out; obtain ⟨hcz177_0, hcz177_1, hcz177_2⟩ := cl3 BK377.out; obtain ⟨hfz177_0, hfz177_1, hfz177_2⟩ := fr3 BK377.out; obtain ⟨hcz178_0, hcz178_1, hcz178_2⟩ := cl3 BK355.out; obtain ⟨hfz178_0, hfz178_1, hfz178_2⟩ := fr3 BK355.out) | ((with_reducible refine gate_callee (f := 28) rfl ?_); refine goesL_ (some 46) rfl rfl Try.func28 B8x54_ rfl #[.agg #[.slice Ao156 t349.length co156, .int .i64 t352, .int .i64 t353]] rfl B8x3_ ?_; (with_reducible refine (spec_TakeRing.calls k _ _ t349 t352 t353 t378 t381 t382 t383 t384 _ ?side1 ?side2 A8.out).mono ?_); (case side1 => refine (Kd.R_reads' (e := 105) (base := w.heap.size) (ok := fun k_ => (((True ∧ some k_ ≠ (.slice Ao160 t356.length co160 : Value).ownBlock) ∧ some k_ ≠ (.slice Ao166 t363.length co166 : Value).ownBlock) ∧ some k_ ≠ (.slice Ao173 t370.length co173 : Value).ownBlock)) (n := t349.length) (c := co156) ?_).2.2; exact B8x46_); (case side2 => exact (Kd.R_reads' HO351.out).2.1); rintro e w179 ⟨v379, rfl, ho0, hb⟩; refine ⟨_, rfl, ?_⟩; have n0_ := Aside0.mk (Kd.R_elder' B8x46_ (Kd.R_base ho0) hb); have n1_ := Aside0.mk (Kd.R_elder' B8x64_ (Kd.R_base ho0) hb); have n2_ := Aside0.mk (Kd.R_elder' B8x67_ (Kd.R_base ho0) hb); have n3_ := Aside0.mk (Kd.R_elder' B8x70_ (Kd.R_base ho0) hb); have n4_ := Aside0.mk (Kd.R_lower (Kd.R_new' (Kd.R_new' (Kd.R_new' (Kd.R_new' ho0 (Kd.R_lt B8x46_)) (Kd.R_lt B8x64_)) (Kd.R_lt B8x67_)) (Kd.R_lt B8x70_)) (below_size B8x8_)); have n5_ := Aside0.mk (blk_below (g := gb355) (o := .cells #[.slice Ao156 t349.length co156, .int .i64 t352, .int .i64 t353] 45 (0, 0)) B8x25_ hb); have n6_ := Aside0.mk (blk_below (g := gb362) (o := .cells #[.slice Ao160 t356.length co160, .int .i64 t359, .int .i64 t360] 45 (0, 0)) B8x29_ hb); have n7_ := Aside0.mk (blk_below (g := gb369) (o := .cells #[.slice Ao166 t363.length co166, .int .i64 t366, .int .i64 t367] 45 (0, 0)) B8x32_ hb); have n8_ := Aside0.mk (blk_below (g := gb377) (o := .cells #[.slice Ao173 t370.length co173, .int .i64 t373, .int .i64 t374] 45 (0, 0)) (by (with_reducible repeat (first | refine blk_drewN ?_ _ | refine blk_drew ?_ | refine blk_alloc ?_ _)); refine blk_put (cs := #[.slice Ao173 t370.length co173, .int .i64 t373, .int .i64 0]) ?_ 2 _ rfl; (with_reducible repeat (first | refine blk_drewN ?_ _ | refine blk_drew ?_ | refine blk_alloc ?_ _)); refine blk_put (cs := #[.slice Ao173 t370.length co173, .int .i64 0, .int .i64 0]) ?_ 1 _ rfl; (with_reducible repeat (first | refine blk_drewN ?_ _ | refine blk_drew ?_ | refine blk_alloc ?_ _)); refine blk_put (cs := #[.slice none 0 0, .int .i64 0, .int .i64 0]) ?_ 0 _ rfl; (with_reducible repeat (first | refine blk_drewN ?_ _ | refine blk_drew ?_ | refine blk_alloc ?_ _)); exact BK377.out) hb); have n9_ := Aside0.mk (below_step B8x8_ hb); clear HO351; clear HO358; clear HO365; clear HO372; clear BK355; clear BK362; clear BK369; clear BK377; clear HB; have HO351 := n0_; have HO358 := n1_; have HO365 := n2_; have HO372 := n3_; have HO380 := n4_; have BK355 := n5_; have BK362 := n6_; have BK369 := n7_; have BK377 := n8_; have HB := n9_; clear n0_ n1_ n2_ n3_ n4_ n5_ n6_ n7_ n8_ n9_; (try clear hb); (try clear hb2); (try clear hk); (try clear hi); (try clear ho0)) | ((with_reducible refine gate_dst (N := 12) rfl ?_); (try (refine gate_guard (by rfl) ?_; dsimp only)); refine box_event ?hg (N := 12) ?hd (cs := #[.slice none 0 0, .int .i64 0, .int .i64 0]) (t := 45) ?hr ?_; (case hd => rfl); (case hg => rfl); (case hr => first | (go_simp; done) | (go_simp; rfl)); intro gb385 hg w180 hbox hb; have n0_ := Aside0.mk (Kd.R_below B8x10_ hb); have n1_ := Aside0.mk (Kd.R_below B8x12_ hb); have n2_ := Aside0.mk (Kd.R_below B8x14_ hb); have n3_ := Aside0.mk (Kd.R_below B8x15_ hb); have n4_ := Aside0.mk (Kd.R_below B8x18_ hb); have n5_ := Aside0.mk (blk_below (g := gb355) (o := .cells #[.slice Ao156 t349.length co156, .int .i64 t352, .int .i64 t353] 45 (0, 0)) B8x0_ hb); have n6_ := Aside0.mk (blk_below (g := gb362) (o := .cells #[.slice Ao160 t356.length co160, .int .i64 t359, .int .i64 t360] 45 (0, 0)) B8x1_ hb); have n7_ := Aside0.mk (blk_below (g := gb369) (o := .cells #[.slice Ao166 t363.length co166, .int .i64 t366, .int .i64 t367] 45 (0, 0)) B8x2_ hb); have n8_ := Aside0.mk (blk_below (g := gb377) (o := .cells #[.slice Ao173 t370.length co173, .int .i64 t373, .int .i64 t374] 45 (0, 0)) B8x5_ hb); have n9_ := Aside0.mk (below_step B8x8_ hb); have n10_ := Aside0.mk (hbox); have n11_ := Aside0.mk ((by rw [hg]; exact (below_size B8x8_) : w.heap.size ≤ gb385)); have n12_ := Aside0.mk ((by rw [hg]; exact (below_size B8x8_) : w.heap.size ≤ gb385)); have n13_ := Aside0.mk ((by rw [hg]; exact Nat.ne_of_lt (blk_lt (g := gb355) (o := .cells #[.slice Ao156 t349.length co156, .int .i64 t352, .int .i64 t353] 45 (0, 0)) B8x0_) : gb355 ≠ gb385)); have n14_ := Aside0.mk ((by rw [hg]; exact Nat.ne_of_gt (blk_lt (g := gb355) (o := .cells #[.slice Ao156 t349.length co156, .int .i64 t352, .int .i64 t353] 45 (0, 0)) B8x0_) : gb385 ≠ gb355)); have n15_ := Aside0.mk ((by rw [hg]; exact Nat.ne_of_lt (blk_lt (g := gb362) (o := .cells #[.slice Ao160 t356.length co160, .int .i64 t359, .int .i64 t360] 45 (0, 0)) B8x1_) : gb362 ≠ gb385)); have n16_ := Aside0.mk ((by rw [hg]; exact Nat.ne_of_gt (blk_lt (g := gb362) (o := .cells #[.slice Ao160 t356.length co160, .int .i64 t359, .int .i64 t360] 45 (0, 0)) B8x1_) : gb385 ≠ gb362)); have n17_ := Aside0.mk ((by rw [hg]; exact Nat.ne_of_lt (blk_lt (g := gb369) (o := .cells #[.slice Ao166 t363.length co166, .int .i64 t366, .int .i64 t367] 45 (0, 0)) B8x2_) : gb369 ≠ gb385)); have n18_ := Aside0.mk ((by rw [hg]; exact Nat.ne_of_gt (blk_lt (g := gb369) (o := .cells #[.slice Ao166 t363.length co166, .int .i64 t366, .int .i64 t367] 45 (0, 0)) B8x2_) : gb385 ≠ gb369)); have n19_ := Aside0.mk ((by rw [hg]; exact Nat.ne_of_lt (blk_lt (g := gb377) (o := .cells #[.slice Ao173 t370.length co173, .int .i64 t373, .int .i64 t374] 45 (0, 0)) B8x5_) : gb377 ≠ gb385)); have n20_ := Aside0.mk ((by rw [hg]; exact Nat.ne_of_gt (blk_lt (g := gb377) (o := .cells #[.slice Ao173 t370.length co173, .int .i64 t373, .int .i64 t374] 45 (0, 0)) B8x5_) : gb385 ≠ gb377)); clear HO351; clear HO358; clear HO365; clear HO372; clear HO380; clear BK355; clear BK362; clear BK369; clear BK377; clear HB; have HO351 := n0_; have HO358 := n1_; have HO365 := n2_; have HO372 := n3_; have HO380 := n4_; have BK355 := n5_; have BK362 := n6_; have BK369 := n7_; have BK377 := n8_; have HB := n9_; have BK385 := n10_; have GW385 := n11_; have GE385 := n12_; have NB355_385 := n13_; have NB385_355 := n14_; have NB362_385 := n15_; have NB385_362 := n16_; have NB369_385 := n17_; have NB385_369 := n18_; have NB377_385 := n19_; have NB385_377 := n20_; clear n0_ n1_ n2_ n3_ n4_ n5_ n6_ n7_ n8_ n9_ n10_ n11_ n12_ n13_ n14_ n15_ n16_ n17_ n18_ n19_ n20_; clear hb hbox hg; obtain ⟨Ao181, co181, eo181⟩ := Kd.R_slice HO380.out; subst eo181; have hnb182 := NB385_355.out; have hnc182 := NB355_385.out; have hnb183 := NB385_362.out; have hnc183 := NB362_385.out; have hnb184 := NB385_369.out; have hnc184 := NB369_385.out; have hnb185 := NB385_377.out; have hnc185 := NB377_385.out; obtain ⟨hcz186_0, hcz186_1, hcz186_2⟩ := cl3 BK385.out; obtain ⟨hfz186_0, hfz186_1, hfz186_2⟩ := fr3 BK385.out) | ((with_reducible refine gate_callee (f := 29) rfl ?_); refine goesL_ (some 51) rfl rfl Try.func29 B8x54_ rfl #[.int .i64 3] rfl B8x3_ ?_; (with_reducible refine (impl_RingNew.calls 3 t386 t389 t390 true _ A9.out).mono ?_); rintro e w187 ⟨v387, rfl, ho0, hb⟩; refine ⟨_, rfl, ?_⟩; have n0_ := Aside0.mk (Kd.R_elder' B8x73_ (Kd.R_base ho0) hb); have n1_ := Aside0.mk (Kd.R_elder' B8x76_ (Kd.R_base ho0) hb); have n2_ := Aside0.mk (Kd.R_elder' B8x79_ (Kd.R_base ho0) hb); have n3_ := Aside0.mk (Kd.R_elder' B8x82_ (Kd.R_base ho0) hb); have n4_ := Aside0.mk (Kd.R_elder' B8x85_ (Kd.R_base ho0) hb); have n5_ := Aside0.mk (Kd.R_lower (Kd.R_new' (Kd.R_new' (Kd.R_new' (Kd.R_new' (Kd.R_new' ho0 (Kd.R_lt B8x73_)) (Kd.R_lt B8x76_)) (Kd.R_lt B8x79_)) (Kd.R_lt B8x82_)) (Kd.R_lt B8x85_)) (below_size B8x6_)); have n6_ := Aside0.mk (blk_below (g := gb355) (o := .cells #[.slice Ao156 t349.length co156, .int .i64 t352, .int .i64 t353] 45 (0, 0)) B8x26_ hb); have n7_ := Aside0.mk (blk_below (g := gb362) (o := .cells #[.slice Ao160 t356.length co160, .int .i64 t359, .int .i64 t360] 45 (0, 0)) B8x30_ hb); have n8_ := Aside0.mk (blk_below (g := gb369) (o := .cells #[.slice Ao166 t363.length co166, .int .i64 t366, .int .i64 t367] 45 (0, 0)) B8x33_ hb); have n9_ := Aside0.mk (blk_below (g := gb377) (o := .cells #[.slice Ao173 t370.length co173, .int .i64 t373, .int .i64 t374] 45 (0, 0)) B8x35_ hb); have n10_ := Aside0.mk (blk_below (g := gb385) (o := .cells #[.slice Ao181 t378.length co181, .int .i64 t381, .int .i64 t382] 45 (0, 0)) (by (with_reducible repeat (first | refine blk_drewN ?_ _ | refine blk_drew ?_ | refine blk_alloc ?_ _)); refine blk_put (cs := #[.slice Ao181 t378.length co181, .int .i64 t381, .int .i64 0]) ?_ 2 _ rfl; (with_reducible repeat (first | refine blk_drewN ?_ _ | refine blk_drew ?_ | refine blk_alloc ?_ _)); refine blk_put (cs := #[.slice Ao181 t378.length co181, .int .i64 0, .int .i64 0]) ?_ 1 _ rfl; (with_reducible repeat (first | refine blk_drewN ?_ _ | refine blk_drew ?_ | refine blk_alloc ?_ _)); refine blk_put (cs := #[.slice none 0 0, .int .i64 0, .int .i64 0]) ?_ 0 _ rfl; (with_reducible repeat (first | refine blk_drewN ?_ _ | refine blk_drew ?_ | refine blk_alloc ?_ _)); exact BK385.out) hb); have n11_ := Aside0.mk (below_step B8x6_ hb); clear HO351; clear HO358; clear HO365; clear HO372; clear HO380; clear BK355; clear BK362; clear BK369; clear BK377; clear BK385; clear HB; have HO351 := n0_; have HO358 := n1_; have HO365 := n2_; have HO372 := n3_; have HO380 := n4_; have HO388 := n5_; have BK355 := n6_; have BK362 := n7_; have BK369 := n8_; have BK377 := n9_; have BK385 := n10_; have HB := n11_; clear n0_ n1_ n2_ n3_ n4_ n5_ n6_ n7_ n8_ n9_ n10_ n11_; (try clear hb); (try clear hb2); (try clear hk); (try clear hi); (try clear ho0)) | ((with_reducible refine gate_dst (N := 15) rfl ?_); (try (refine gate_guard (by rfl) ?_; dsimp only)); refine box_event ?hg (N := 15) ?hd (cs := #[.slice none 0 0, .int .i64 0, .int .i64 0]) (t := 45) ?hr ?_; (case hd => rfl); (case hg => rfl); (case hr => first | (go_simp; done) | (go_simp; rfl)); intro gb392 hg w188 hbox hb; have n0_ := Aside0.mk (Kd.R_below B8x10_ hb); have n1_ := Aside0.mk (Kd.R_below B8x12_ hb); have n2_ := Aside0.mk (Kd.R_below B8x14_ hb); have n3_ := Aside0.mk (Kd.R_below B8x15_ hb); have n4_ := Aside0.mk (Kd.R_below B8x18_ hb); have n5_ := Aside0.mk (Kd.R_below B8x20_ hb); have n6_ := Aside0.mk (blk_below (g := gb355) (o := .cells #[.slice Ao156 t349.length co156, .int .i64 t352, .int .i64 t353] 45 (0, 0)) B8x0_ hb); have n7_ := Aside0.mk (blk_below (g := gb362) (o := .cells #[.slice Ao160 t356.length co160, .int .i64 t359, .int .i64 t360] 45 (0, 0)) B8x1_ hb); have n8_ := Aside0.mk (blk_below (g := gb369) (o := .cells #[.slice Ao166 t363.length co166, .int .i64 t366, .int .i64 t367] 45 (0, 0)) B8x2_ hb); have n9_ := Aside0.mk (blk_below (g := gb377) (o := .cells #[.slice Ao173 t370.length co173, .int .i64 t373, .int .i64 t374] 45 (0, 0)) B8x5_ hb); have n10_ := Aside0.mk (blk_below (g := gb385) (o := .cells #[.slice Ao181 t378.length co181, .int .i64 t381, .int .i64 t382] 45 (0, 0)) B8x9_ hb); have n11_ := Aside0.mk (below_step B8x6_ hb); have n12_ := Aside0.mk (hbox); have n13_ := Aside0.mk ((by rw [hg]; exact (below_size B8x6_) : w.heap.size ≤ gb392)); have n14_ := Aside0.mk ((by rw [hg]; exact (below_size B8x6_) : w.heap.size ≤ gb392)); have n15_ := Aside0.mk ((by rw [hg]; exact Nat.ne_of_lt (blk_lt (g := gb355) (o := .cells #[.slice Ao156 t349.length co156, .int .i64 t352, .int .i64 t353] 45 (0, 0)) B8x0_) : gb355 ≠ gb392)); have n16_ := Aside0.mk ((by rw [hg]; exact Nat.ne_of_gt (blk_lt (g := gb355) (o := .cells #[.slice Ao156 t349.length co156, .int .i64 t352, .int .i64 t353] 45 (0, 0)) B8x0_) : gb392 ≠ gb355)); have n17_ := Aside0.mk ((by rw [hg]; exact Nat.ne_of_lt (blk_lt (g := gb362) (o := .cells #[.slice Ao160 t356.length co160, .int .i64 t359, .int .i64 t360] 45 (0, 0)) B8x1_) : gb362 ≠ gb392)); have n18_ := Aside0.mk ((by rw [hg]; exact Nat.ne_of_gt (blk_lt (g := gb362) (o := .cells #[.slice Ao160 t356.length co160, .int .i64 t359, .int .i64 t360] 45 (0, 0)) B8x1_) : gb392 ≠ gb362)); have n19_ := Aside0.mk ((by rw [hg]; exact Nat.ne_of_lt (blk_lt (g := gb369) (o := .cells #[.slice Ao166 t363.length co166, .int .i64 t366, .int .i64 t367] 45 (0, 0)) B8x2_) : gb369 ≠ gb392)); have n20_ := Aside0.mk ((by rw [hg]; exact Nat.ne_of_gt (blk_lt (g := gb369) (o := .cells #[.slice Ao166 t363.length co166, .int .i64 t366, .int .i64 t367] 45 (0, 0)) B8x2_) : gb392 ≠ gb369)); have n21_ := Aside0.mk ((by rw [hg]; exact Nat.ne_of_lt (blk_lt (g := gb377) (o := .cells #[.slice Ao173 t370.length co173, .int .i64 t373, .int .i64 t374] 45 (0, 0)) B8x5_) : gb377 ≠ gb392)); have n22_ := Aside0.mk ((by rw [hg]; exact Nat.ne_of_gt (blk_lt (g := gb377) (o := .cells #[.slice Ao173 t370.length co173, .int .i64 t373, .int .i64 t374] 45 (0, 0)) B8x5_) : gb392 ≠ gb377)); have n23_ := Aside0.mk ((by rw [hg]; exact Nat.ne_of_lt (blk_lt (g := gb385) (o := .cells #[.slice Ao181 t378.length co181, .int .i64 t381, .int .i64 t382] 45 (0, 0)) B8x9_) : gb385 ≠ gb392)); have n24_ := Aside0.mk ((by rw [hg]; exact Nat.ne_of_gt (blk_lt (g := gb385) (o := .cells #[.slice Ao181 t378.length co181, .int .i64 t381, .int .i64 t382] 45 (0, 0)) B8x9_) : gb392 ≠ gb385)); clear HO351; clear HO358; clear HO365; clear HO372; clear HO380; clear HO388; clear BK355; clear BK362; clear BK369; clear BK377; clear BK385; clear HB; have HO351 := n0_; have HO358 := n1_; have HO365 := n2_; have HO372 := n3_; have HO380 := n4_; have HO388 := n5_; have BK355 := n6_; have BK362 := n7_; have BK369 := n8_; have BK377 := n9_; have BK385 := n10_; have HB := n11_; have BK392 := n12_; have GW392 := n13_; have GE392 := n14_; have NB355_392 := n15_; have NB392_355 := n16_; have NB362_392 := n17_; have NB392_362 := n18_; have NB369_392 := n19_; have NB392_369 := n20_; have NB377_392 := n21_; have NB392_377 := n22_; have NB385_392 := n23_; have NB392_385 := n24_; clear n0_ n1_ n2_ n3_ n4_ n5_ n6_ n7_ n8_ n9_ n10_ n11_ n12_ n13_ n14_ n15_ n16_ n17_ n18_ n19_ n20_ n21_ n22_ n23_ n24_; clear hb hbox hg; obtain ⟨Ao189, co189, eo189⟩ := Kd.R_slice HO388.out; subst eo189; have hnb190 := NB392_355.out; have hnc190 := NB355_392.out; have hnb191 := NB392_362.out; have hnc191 := NB362_392.out; have hnb192 := NB392_369.out; have hnc192 := NB369_392.out; have hnb193 := NB392_377.out; have hnc193 := NB377_392.out; have hnb194 := NB392_385.out; have hnc194 := NB385_392.out; obtain ⟨hcz195_0, hcz195_1, hcz195_2⟩ := cl3 BK392.out; obtain ⟨hfz195_0, hfz195_1, hfz195_2⟩ := fr3 BK392.out) | ((with_reducible refine gate_callee (f := 29) rfl ?_); refine goesL_ (some 55) rfl rfl Try.func29 B8x54_ rfl #[.int .i64 9] rfl B8x3_ ?_; (with_reducible refine (impl_RingNew.calls 9 t393 t396 t397 false _ A10.out).mono ?_); rintro e w196 ⟨v394, rfl, ho0, hb⟩; refine ⟨_, rfl, ?_⟩; have n0_ := Aside0.mk (Kd.R_elder' B8x88_ (Kd.R_base ho0) hb); have n1_ := Aside0.mk (Kd.R_elder' B8x91_ (Kd.R_base ho0) hb); have n2_ := Aside0.mk (Kd.R_elder' B8x94_ (Kd.R_base ho0) hb); have n3_ := Aside0.mk (Kd.R_elder' B8x97_ (Kd.R_base ho0) hb); have n4_ := Aside0.mk (Kd.R_elder' B8x100_ (Kd.R_base ho0) hb); have n5_ := Aside0.mk (Kd.R_elder' B8x103_ (Kd.R_base ho0) hb); have n6_ := Aside0.mk (Kd.R_lower (Kd.R_new' (Kd.R_new' (Kd.R_new' (Kd.R_new' (Kd.R_new' (Kd.R_new' ho0 (Kd.R_lt B8x88_)) (Kd.R_lt B8x91_)) (Kd.R_lt B8x94_)) (Kd.R_lt B8x97_)) (Kd.R_lt B8x100_)) (Kd.R_lt B8x103_)) (below_size B8x4_)); have n7_ := Aside0.mk (blk_below (g := gb355) (o := .cells #[.slice Ao156 t349.length co156, .int .i64 t352, .int .i64 t353] 45 (0, 0)) B8x27_ hb); have n8_ := Aside0.mk (blk_below (g := gb362) (o := .cells #[.slice Ao160 t356.length co160, .int .i64 t359, .int .i64 t360] 45 (0, 0)) B8x31_ hb); have n9_ := Aside0.mk (blk_below (g := gb369) (o := .cells #[.slice Ao166 t363.length co166, .int .i64 t366, .int .i64 t367] 45 (0, 0)) B8x34_ hb); have n10_ := Aside0.mk (blk_below (g := gb377) (o := .cells #[.slice Ao173 t370.length co173, .int .i64 t373, .int .i64 t374] 45 (0, 0)) B8x36_ hb); have n11_ := Aside0.mk (blk_below (g := gb385) (o := .cells #[.slice Ao181 t378.length co181, .int .i64 t381, .int .i64 t382] 45 (0, 0)) B8x37_ hb); have n12_ := Aside0.mk (blk_below (g := gb392) (o := .cells #[.slice Ao189 t386.length co189, .int .i64 t389, .int .i64 t390] 45 (0, 0)) (by (with_reducible repeat (first | refine blk_drewN ?_ _ | refine blk_drew ?_ | refine blk_alloc ?_ _)); refine blk_put (cs := #[.slice Ao189 t386.length co189, .int .i64 t389, .int .i64 0]) ?_ 2 _ rfl; (with_reducible repeat (first | refine blk_drewN ?_ _ | refine blk_drew ?_ | refine blk_alloc ?_ _)); refine blk_put (cs := #[.slice Ao189 t386.length co189, .int .i64 0, .int .i64 0]) ?_ 1 _ rfl; (with_reducible repeat (first | refine blk_drewN ?_ _ | refine blk_drew ?_ | refine blk_alloc ?_ _)); refine blk_put (cs := #[.slice none 0 0, .int .i64 0, .int .i64 0]) ?_ 0 _ rfl; (with_reducible repeat (first | refine blk_drewN ?_ _ | refine blk_drew ?_ | refine blk_alloc ?_ _)); exact BK392.out) hb); have n13_ := Aside0.mk (below_step B8x4_ hb); clear HO351; clear HO358; clear HO365; clear HO372; clear HO380; clear HO388; clear BK355; clear BK362; clear BK369; clear BK377; clear BK385; clear BK392; clear HB; have HO351 := n0_; have HO358 := n1_; have HO365 := n2_; have HO372 := n3_; have HO380 := n4_; have HO388 := n5_; have HO395 := n6_; have BK355 := n7_; have BK362 := n8_; have BK369 := n9_; have BK377 := n10_; have BK385 := n11_; have BK392 := n12_; have HB := n13_; clear n0_ n1_ n2_ n3_ n4_ n5_ n6_ n7_ n8_ n9_ n10_ n11_ n12_ n13_; (try clear hb); (try clear hb2); (try clear hk); (try clear hi); (try clear ho0)) | ((with_reducible refine gate_dst (N := 17) rfl ?_); (try (refine gate_guard (by rfl) ?_; dsimp only)); refine box_event ?hg (N := 17) ?hd (cs := #[.slice none 0 0, .int .i64 0, .int .i64 0]) (t := 45) ?hr ?_; (case hd => rfl); (case hg => rfl); (case hr => first | (go_simp; done) | (go_simp; rfl)); intro gb399 hg w197 hbox hb; have n0_ := Aside0.mk (Kd.R_below B8x10_ hb); have n1_ := Aside0.mk (Kd.R_below B8x12_ hb); have n2_ := Aside0.mk (Kd.R_below B8x14_ hb); have n3_ := Aside0.mk (Kd.R_below B8x15_ hb); have n4_ := Aside0.mk (Kd.R_below B8x18_ hb); have n5_ := Aside0.mk (Kd.R_below B8x20_ hb); have n6_ := Aside0.mk (Kd.R_below B8x21_ hb); have n7_ := Aside0.mk (blk_below (g := gb355) (o := .cells #[.slice Ao156 t349.length co156, .int .i64 t352, .int .i64 t353] 45 (0, 0)) B8x0_ hb); have n8_ := Aside0.mk (blk_below (g := gb362) (o := .cells #[.slice Ao160 t356.length co160, .int .i64 t359, .int .i64 t360] 45 (0, 0)) B8x1_ hb); have n9_ := Aside0.mk (blk_below (g := gb369) (o := .cells #[.slice Ao166 t363.length co166, .int .i64 t366, .int .i64 t367] 45 (0, 0)) B8x2_ hb); have n10_ := Aside0.mk (blk_below (g := gb377) (o := .cells #[.slice Ao173 t370.length co173, .int .i64 t373, .int .i64 t374] 45 (0, 0)) B8x5_ hb); have n11_ := Aside0.mk (blk_below (g := gb385) (o := .cells #[.slice Ao181 t378.length co181, .int .i64 t381, .int .i64 t382] 45 (0, 0)) B8x9_ hb); have n12_ := Aside0.mk (blk_below (g := gb392) (o := .cells #[.slice Ao189 t386.length co189, .int .i64 t389, .int .i64 t390] 45 (0, 0)) B8x16_ hb); have n13_ := Aside0.mk (below_step B8x4_ hb); have n14_ := Aside0.mk (hbox); have n15_ := Aside0.mk ((by rw [hg]; exact (below_size B8x4_) : w.heap.size ≤ gb399)); have n16_ := Aside0.mk ((by rw [hg]; exact (below_size B8x4_) : w.heap.size ≤ gb399)); have n17_ := Aside0.mk ((by rw [hg]; exact Nat.ne_of_lt (blk_lt (g := gb355) (o := .cells #[.slice Ao156 t349.length co156, .int .i64 t352, .int .i64 t353] 45 (0, 0)) B8x0_) : gb355 ≠ gb399)); have n18_ := Aside0.mk ((by rw [hg]; exact Nat.ne_of_gt (blk_lt (g := gb355) (o := .cells #[.slice Ao156 t349.length co156, .int .i64 t352, .int .i64 t353] 45 (0, 0)) B8x0_) : gb399 ≠ gb355)); have n19_ := Aside0.mk ((by rw [hg]; exact Nat.ne_of_lt (blk_lt (g := gb362) (o := .cells #[.slice Ao160 t356.length co160, .int .i64 t359, .int .i64 t360] 45 (0, 0)) B8x1_) : gb362 ≠ gb399)); have n20_ := Aside0.mk ((by rw [hg]; exact Nat.ne_of_gt (blk_lt (g := gb362) (o := .cells #[.slice Ao160 t356.length co160, .int .i64 t359, .int .i64 t360] 45 (0, 0)) B8x1_) : gb399 ≠ gb362)); have n21_ := Aside0.mk ((by rw [hg]; exact Nat.ne_of_lt (blk_lt (g := gb369) (o := .cells #[.slice Ao166 t363.length co166, .int .i64 t366, .int .i64 t367] 45 (0, 0)) B8x2_) : gb369 ≠ gb399)); have n22_ := Aside0.mk ((by rw [hg]; exact Nat.ne_of_gt (blk_lt (g := gb369) (o := .cells #[.slice Ao166 t363.length co166, .int .i64 t366, .int .i64 t367] 45 (0, 0)) B8x2_) : gb399 ≠ gb369)); have n23_ := Aside0.mk ((by rw [hg]; exact Nat.ne_of_lt (blk_lt (g := gb377) (o := .cells #[.slice Ao173 t370.length co173, .int .i64 t373, .int .i64 t374] 45 (0, 0)) B8x5_) : gb377 ≠ gb399)); have n24_ := Aside0.mk ((by rw [hg]; exact Nat.ne_of_gt (blk_lt (g := gb377) (o := .cells #[.slice Ao173 t370.length co173, .int .i64 t373, .int .i64 t374] 45 (0, 0)) B8x5_) : gb399 ≠ gb377)); have n25_ := Aside0.mk ((by rw [hg]; exact Nat.ne_of_lt (blk_lt (g := gb385) (o := .cells #[.slice Ao181 t378.length co181, .int .i64 t381, .int .i64 t382] 45 (0, 0)) B8x9_) : gb385 ≠ gb399)); have n26_ := Aside0.mk ((by rw [hg]; exact Nat.ne_of_gt (blk_lt (g := gb385) (o := .cells #[.slice Ao181 t378.length co181, .int .i64 t381, .int .i64 t382] 45 (0, 0)) B8x9_) : gb399 ≠ gb385)); have n27_ := Aside0.mk ((by rw [hg]; exact Nat.ne_of_lt (blk_lt (g := gb392) (o := .cells #[.slice Ao189 t386.length co189, .int .i64 t389, .int .i64 t390] 45 (0, 0)) B8x16_) : gb392 ≠ gb399)); have n28_ := Aside0.mk ((by rw [hg]; exact Nat.ne_of_gt (blk_lt (g := gb392) (o := .cells #[.slice Ao189 t386.length co189, .int .i64 t389, .int .i64 t390] 45 (0, 0)) B8x16_) : gb399 ≠ gb392)); clear HO351; clear HO358; clear HO365; clear HO372; clear HO380; clear HO388; clear HO395; clear BK355; clear BK362; clear BK369; clear BK377; clear BK385; clear BK392; clear HB; have HO351 := n0_; have HO358 := n1_; have HO365 := n2_; have HO372 := n3_; have HO380 := n4_; have HO388 := n5_; have HO395 := n6_; have BK355 := n7_; have BK362 := n8_; have BK369 := n9_; have BK377 := n10_; have BK385 := n11_; have BK392 := n12_; have HB := n13_; have BK399 := n14_; have GW399 := n15_; have GE399 := n16_; have NB355_399 := n17_; have NB399_355 := n18_; have NB362_399 := n19_; have NB399_362 := n20_; have NB369_399 := n21_; have NB399_369 := n22_; have NB377_399 := n23_; have NB399_377 := n24_; have NB385_399 := n25_; have NB399_385 := n26_; have NB392_399 := n27_; have NB399_392 := n28_; clear n0_ n1_ n2_ n3_ n4_ n5_ n6_ n7_ n8_ n9_ n10_ n11_ n12_ n13_ n14_ n15_ n16_ n17_ n18_ n19_ n20_ n21_ n22_ n23_ n24_ n25_ n26_ n27_ n28_; clear hb hbox hg; obtain ⟨Ao198, co198, eo198⟩ := Kd.R_slice HO395.out; subst eo198; have hnb199 := NB399_355.out; have hnc199 := NB355_399.out; have hnb200 := NB399_362.out; have hnc200 := NB362_399.out; have hnb201 := NB399_369.out; have hnc201 := NB369_399.out; have hnb202 := NB399_377.out; have hnc202 := NB377_399.out; have hnb203 := NB399_385.out; have hnc203 := NB385_399.out; have hnb204 := NB399_392.out; have hnc204 := NB392_399.out; obtain ⟨hcz205_0, hcz205_1, hcz205_2⟩ := cl3 BK399.out; obtain ⟨hfz205_0, hfz205_1, hfz205_2⟩ := fr3 BK399.out))
             have n0_ : Aside0 (Kd.R k105 105 (((w197.setCell ⟨gb399, 0, none⟩ (.slice Ao198 t393.length co198)).setCell ⟨gb399, 1, none⟩ (.int .i64 t396)).setCell ⟨gb399, 2, none⟩ (.int .i64 t397)) w.heap.size (fun k_ => some k_ ≠ (.slice Ao160 t356.length co160 : Value).ownBlock ∧ some k_ ≠ (.slice Ao166 t363.length co166 : Value).ownBlock ∧ some k_ ≠ (.slice Ao173 t370.length co173 : Value).ownBlock ∧ some k_ ≠ (.slice Ao181 t378.length co181 : Value).ownBlock ∧ some k_ ≠ (.slice Ao189 t386.length co189 : Value).ownBlock ∧ some k_ ≠ (.slice Ao198 t393.length co198 : Value).ownBlock) (.slice Ao156 t349.length co156) t349) := ⟨by (with_reducible repeat (first | apply Kd.R_alloc | apply Kd.R_drewN | apply Kd.R_drew)); exact Kd.R_mono (Kd.R_far (p := ⟨gb399, 2, none⟩) (Kd.R_far (p := ⟨gb399, 1, none⟩) (Kd.R_far (p := ⟨gb399, 0, none⟩) (Kd.R_types HO351.out BK399.out (by decide)) (fun _ hk => hk.2) (.slice Ao198 t393.length co198)) (fun _ hk => hk.2) (.int .i64 t396)) (fun _ hk => hk.2) (.int .i64 t397)) (fun _ hk => ⟨hk.1.1.1.1.1.1.2, ⟨hk.1.1.1.1.1.2, ⟨hk.1.1.1.1.2, ⟨hk.1.1.1.2, ⟨hk.1.1.2, hk.1.2⟩⟩⟩⟩⟩)⟩
             have n1_ : Aside0 (Kd.R k105 105 (((w197.setCell ⟨gb399, 0, none⟩ (.slice Ao198 t393.length co198)).setCell ⟨gb399, 1, none⟩ (.int .i64 t396)).setCell ⟨gb399, 2, none⟩ (.int .i64 t397)) w.heap.size (fun k_ => some k_ ≠ (.slice Ao156 t349.length co156 : Value).ownBlock ∧ some k_ ≠ (.slice Ao166 t363.length co166 : Value).ownBlock ∧ some k_ ≠ (.slice Ao173 t370.length co173 : Value).ownBlock ∧ some k_ ≠ (.slice Ao181 t378.length co181 : Value).ownBlock ∧ some k_ ≠ (.slice Ao189 t386.length co189 : Value).ownBlock ∧ some k_ ≠ (.slice Ao198 t393.length co198 : Value).ownBlock) (.slice Ao160 t356.length co160) t356) := ⟨by (with_reducible repeat (first | apply Kd.R_alloc | apply Kd.R_drewN | apply Kd.R_drew)); exact Kd.R_mono (Kd.R_far (p := ⟨gb399, 2, none⟩) (Kd.R_far (p := ⟨gb399, 1, none⟩) (Kd.R_far (p := ⟨gb399, 0, none⟩) (Kd.R_types HO358.out BK399.out (by decide)) (fun _ hk => hk.2) (.slice Ao198 t393.length co198)) (fun _ hk => hk.2) (.int .i64 t396)) (fun _ hk => hk.2) (.int .i64 t397)) (fun _ hk => ⟨hk.1.1.1.1.1.1.2, ⟨hk.1.1.1.1.1.2, ⟨hk.1.1.1.1.2, ⟨hk.1.1.1.2, ⟨hk.1.1.2, hk.1.2⟩⟩⟩⟩⟩)⟩
             have n2_ : Aside0 (Kd.R k105 105 (((w197.setCell ⟨gb399, 0, none⟩ (.slice Ao198 t393.length co198)).setCell ⟨gb399, 1, none⟩ (.int .i64 t396)).setCell ⟨gb399, 2, none⟩ (.int .i64 t397)) w.heap.size (fun k_ => some k_ ≠ (.slice Ao156 t349.length co156 : Value).ownBlock ∧ some k_ ≠ (.slice Ao160 t356.length co160 : Value).ownBlock ∧ some k_ ≠ (.slice Ao173 t370.length co173 : Value).ownBlock ∧ some k_ ≠ (.slice Ao181 t378.length co181 : Value).ownBlock ∧ some k_ ≠ (.slice Ao189 t386.length co189 : Value).ownBlock ∧ some k_ ≠ (.slice Ao198 t393.length co198 : Value).ownBlock) (.slice Ao166 t363.length co166) t363) := ⟨by (with_reducible repeat (first | apply Kd.R_alloc | apply Kd.R_drewN | apply Kd.R_drew)); exact Kd.R_mono (Kd.R_far (p := ⟨gb399, 2, none⟩) (Kd.R_far (p := ⟨gb399, 1, none⟩) (Kd.R_far (p := ⟨gb399, 0, none⟩) (Kd.R_types HO365.out BK399.out (by decide)) (fun _ hk => hk.2) (.slice Ao198 t393.length co198)) (fun _ hk => hk.2) (.int .i64 t396)) (fun _ hk => hk.2) (.int .i64 t397)) (fun _ hk => ⟨hk.1.1.1.1.1.1.2, ⟨hk.1.1.1.1.1.2, ⟨hk.1.1.1.1.2, ⟨hk.1.1.1.2, ⟨hk.1.1.2, hk.1.2⟩⟩⟩⟩⟩)⟩
             have n3_ : Aside0 (Kd.R k105 105 (((w197.setCell ⟨gb399, 0, none⟩ (.slice Ao198 t393.length co198)).setCell ⟨gb399, 1, none⟩ (.int .i64 t396)).setCell ⟨gb399, 2, none⟩ (.int .i64 t397)) w.heap.size (fun k_ => some k_ ≠ (.slice Ao156 t349.length co156 : Value).ownBlock ∧ some k_ ≠ (.slice Ao160 t356.length co160 : Value).ownBlock ∧ some k_ ≠ (.slice Ao166 t363.length co166 : Value).ownBlock ∧ some k_ ≠ (.slice Ao181 t378.length co181 : Value).ownBlock ∧ some k_ ≠ (.slice Ao189 t386.length co189 : Value).ownBlock ∧ some k_ ≠ (.slice Ao198 t393.length co198 : Value).ownBlock) (.slice Ao173 t370.length co173) t370) := ⟨by (with_reducible repeat (first | apply Kd.R_alloc | apply Kd.R_drewN | apply Kd.R_drew)); exact Kd.R_mono (Kd.R_far (p := ⟨gb399, 2, none⟩) (Kd.R_far (p := ⟨gb399, 1, none⟩) (Kd.R_far (p := ⟨gb399, 0, none⟩) (Kd.R_types HO372.out BK399.out (by decide)) (fun _ hk => hk.2) (.slice Ao198 t393.length co198)) (fun _ hk => hk.2) (.int .i64 t396)) (fun _ hk => hk.2) (.int .i64 t397)) (fun _ hk => ⟨hk.1.1.1.1.1.1.2, ⟨hk.1.1.1.1.1.2, ⟨hk.1.1.1.1.2, ⟨hk.1.1.1.2, ⟨hk.1.1.2, hk.1.2⟩⟩⟩⟩⟩)⟩
             have n4_ : Aside0 (Kd.R k105 105 (((w197.setCell ⟨gb399, 0, none⟩ (.slice Ao198 t393.length co198)).setCell ⟨gb399, 1, none⟩ (.int .i64 t396)).setCell ⟨gb399, 2, none⟩ (.int .i64 t397)) w.heap.size (fun k_ => some k_ ≠ (.slice Ao156 t349.length co156 : Value).ownBlock ∧ some k_ ≠ (.slice Ao160 t356.length co160 : Value).ownBlock ∧ some k_ ≠ (.slice Ao166 t363.length co166 : Value).ownBlock ∧ some k_ ≠ (.slice Ao173 t370.length co173 : Value).ownBlock ∧ some k_ ≠ (.slice Ao189 t386.length co189 : Value).ownBlock ∧ some k_ ≠ (.slice Ao198 t393.length co198 : Value).ownBlock) (.slice Ao181 t378.length co181) t378) := ⟨by (with_reducible repeat (first | apply Kd.R_alloc | apply Kd.R_drewN | apply Kd.R_drew)); exact Kd.R_mono (Kd.R_far (p := ⟨gb399, 2, none⟩) (Kd.R_far (p := ⟨gb399, 1, none⟩) (Kd.R_far (p := ⟨gb399, 0, none⟩) (Kd.R_types HO380.out BK399.out (by decide)) (fun _ hk => hk.2) (.slice Ao198 t393.length co198)) (fun _ hk => hk.2) (.int .i64 t396)) (fun _ hk => hk.2) (.int .i64 t397)) (fun _ hk => ⟨hk.1.1.1.1.1.1.2, ⟨hk.1.1.1.1.1.2, ⟨hk.1.1.1.1.2, ⟨hk.1.1.1.2, ⟨hk.1.1.2, hk.1.2⟩⟩⟩⟩⟩)⟩
             have n5_ : Aside0 (Kd.R k105 105 (((w197.setCell ⟨gb399, 0, none⟩ (.slice Ao198 t393.length co198)).setCell ⟨gb399, 1, none⟩ (.int .i64 t396)).setCell ⟨gb399, 2, none⟩ (.int .i64 t397)) w.heap.size (fun k_ => some k_ ≠ (.slice Ao156 t349.length co156 : Value).ownBlock ∧ some k_ ≠ (.slice Ao160 t356.length co160 : Value).ownBlock ∧ some k_ ≠ (.slice Ao166 t363.length co166 : Value).ownBlock ∧ some k_ ≠ (.slice Ao173 t370.length co173 : Value).ownBlock ∧ some k_ ≠ (.slice Ao181 t378.length co181 : Value).ownBlock ∧ some k_ ≠ (.slice Ao198 t393.length co198 : Value).ownBlock) (.slice Ao189 t386.length co189) t386) := ⟨by (with_reducible repeat (first | apply Kd.R_alloc | apply Kd.R_drewN | apply Kd.R_drew)); exact Kd.R_mono (Kd.R_far (p := ⟨gb399, 2, none⟩) (Kd.R_far (p := ⟨gb399, 1, none⟩) (Kd.R_far (p := ⟨gb399, 0, none⟩) (Kd.R_types HO388.out BK399.out (by decide)) (fun _ hk => hk.2) (.slice Ao198 t393.length co198)) (fun _ hk => hk.2) (.int .i64 t396)) (fun _ hk => hk.2) (.int .i64 t397)) (fun _ hk => ⟨hk.1.1.1.1.1.1.2, ⟨hk.1.1.1.1.1.2, ⟨hk.1.1.1.1.2, ⟨hk.1.1.1.2, ⟨hk.1.1.2, hk.1.2⟩⟩⟩⟩⟩)⟩
             have n6_ : Aside0 (Kd.R k105 105 (((w197.setCell ⟨gb399, 0, none⟩ (.slice Ao198 t393.length co198)).setCell ⟨gb399, 1, none⟩ (.int .i64 t396)).setCell ⟨gb399, 2, none⟩ (.int .i64 t397)) w.heap.size (fun k_ => some k_ ≠ (.slice Ao156 t349.length co156 : Value).ownBlock ∧ some k_ ≠ (.slice Ao160 t356.length co160 : Value).ownBlock ∧ some k_ ≠ (.slice Ao166 t363.length co166 : Value).ownBlock ∧ some k_ ≠ (.slice Ao173 t370.length co173 : Value).ownBlock ∧ some k_ ≠ (.slice Ao181 t378.length co181 : Value).ownBlock ∧ some k_ ≠ (.slice Ao189 t386.length co189 : Value).ownBlock) (.slice Ao198 t393.length co198) t393) := ⟨by (with_reducible repeat (first | apply Kd.R_alloc | apply Kd.R_drewN | apply Kd.R_drew)); exact Kd.R_mono (Kd.R_far (p := ⟨gb399, 2, none⟩) (Kd.R_far (p := ⟨gb399, 1, none⟩) (Kd.R_far (p := ⟨gb399, 0, none⟩) (Kd.R_types HO395.out BK399.out (by decide)) (fun _ hk => hk.2) (.slice Ao198 t393.length co198)) (fun _ hk => hk.2) (.int .i64 t396)) (fun _ hk => hk.2) (.int .i64 t397)) (fun _ hk => ⟨hk.1.1.1.1.1.1.2, ⟨hk.1.1.1.1.1.2, ⟨hk.1.1.1.1.2, ⟨hk.1.1.1.2, ⟨hk.1.1.2, hk.1.2⟩⟩⟩⟩⟩)⟩
             have n7_ : Aside0 ((((w197.setCell ⟨gb399, 0, none⟩ (.slice Ao198 t393.length co198)).setCell ⟨gb399, 1, none⟩ (.int .i64 t396)).setCell ⟨gb399, 2, none⟩ (.int .i64 t397)).heap[gb355]? = some (.cells #[.slice Ao156 t349.length co156, .int .i64 t352, .int .i64 t353] 45 (0, 0))) := ⟨by (with_reducible repeat (first | refine blk_drewN ?_ _ | refine blk_drew ?_ | refine blk_alloc ?_ _)); refine blk_far ?_ NB355_399.out _; (with_reducible repeat (first | refine blk_drewN ?_ _ | refine blk_drew ?_ | refine blk_alloc ?_ _)); refine blk_far ?_ NB355_399.out _; (with_reducible repeat (first | refine blk_drewN ?_ _ | refine blk_drew ?_ | refine blk_alloc ?_ _)); refine blk_far ?_ NB355_399.out _; (with_reducible repeat (first | refine blk_drewN ?_ _ | refine blk_drew ?_ | refine blk_alloc ?_ _)); exact BK355.out⟩
             have n8_ : Aside0 ((((w197.setCell ⟨gb399, 0, none⟩ (.slice Ao198 t393.length co198)).setCell ⟨gb399, 1, none⟩ (.int .i64 t396)).setCell ⟨gb399, 2, none⟩ (.int .i64 t397)).heap[gb362]? = some (.cells #[.slice Ao160 t356.length co160, .int .i64 t359, .int .i64 t360] 45 (0, 0))) := ⟨by (with_reducible repeat (first | refine blk_drewN ?_ _ | refine blk_drew ?_ | refine blk_alloc ?_ _)); refine blk_far ?_ NB362_399.out _; (with_reducible repeat (first | refine blk_drewN ?_ _ | refine blk_drew ?_ | refine blk_alloc ?_ _)); refine blk_far ?_ NB362_399.out _; (with_reducible repeat (first | refine blk_drewN ?_ _ | refine blk_drew ?_ | refine blk_alloc ?_ _)); refine blk_far ?_ NB362_399.out _; (with_reducible repeat (first | refine blk_drewN ?_ _ | refine blk_drew ?_ | refine blk_alloc ?_ _)); exact BK362.out⟩
             have n9_ : Aside0 ((((w197.setCell ⟨gb399, 0, none⟩ (.slice Ao198 t393.length co198)).setCell ⟨gb399, 1, none⟩ (.int .i64 t396)).setCell ⟨gb399, 2, none⟩ (.int .i64 t397)).heap[gb369]? = some (.cells #[.slice Ao166 t363.length co166, .int .i64 t366, .int .i64 t367] 45 (0, 0))) := ⟨by (with_reducible repeat (first | refine blk_drewN ?_ _ | refine blk_drew ?_ | refine blk_alloc ?_ _)); refine blk_far ?_ NB369_399.out _; (with_reducible repeat (first | refine blk_drewN ?_ _ | refine blk_drew ?_ | refine blk_alloc ?_ _)); refine blk_far ?_ NB369_399.out _; (with_reducible repeat (first | refine blk_drewN ?_ _ | refine blk_drew ?_ | refine blk_alloc ?_ _)); refine blk_far ?_ NB369_399.out _; (with_reducible repeat (first | refine blk_drewN ?_ _ | refine blk_drew ?_ | refine blk_alloc ?_ _)); exact BK369.out⟩
             have n10_ : Aside0 ((((w197.setCell ⟨gb399, 0, none⟩ (.slice Ao198 t393.length co198)).setCell ⟨gb399, 1, none⟩ (.int .i64 t396)).setCell ⟨gb399, 2, none⟩ (.int .i64 t397)).heap[gb377]? = some (.cells #[.slice Ao173 t370.length co173, .int .i64 t373, .int .i64 t374] 45 (0, 0))) := ⟨by (with_reducible repeat (first | refine blk_drewN ?_ _ | refine blk_drew ?_ | refine blk_alloc ?_ _)); refine blk_far ?_ NB377_399.out _; (with_reducible repeat (first | refine blk_drewN ?_ _ | refine blk_drew ?_ | refine blk_alloc ?_ _)); refine blk_far ?_ NB377_399.out _; (with_reducible repeat (first | refine blk_drewN ?_ _ | refine blk_drew ?_ | refine blk_alloc ?_ _)); refine blk_far ?_ NB377_399.out _; (with_reducible repeat (first | refine blk_drewN ?_ _ | refine blk_drew ?_ | refine blk_alloc ?_ _)); exact BK377.out⟩
             have n11_ : Aside0 ((((w197.setCell ⟨gb399, 0, none⟩ (.slice Ao198 t393.length co198)).setCell ⟨gb399, 1, none⟩ (.int .i64 t396)).setCell ⟨gb399, 2, none⟩ (.int .i64 t397)).heap[gb385]? = some (.cells #[.slice Ao181 t378.length co181, .int .i64 t381, .int .i64 t382] 45 (0, 0))) := ⟨by (with_reducible repeat (first | refine blk_drewN ?_ _ | refine blk_drew ?_ | refine blk_alloc ?_ _)); refine blk_far ?_ NB385_399.out _; (with_reducible repeat (first | refine blk_drewN ?_ _ | refine blk_drew ?_ | refine blk_alloc ?_ _)); refine blk_far ?_ NB385_399.out _; (with_reducible repeat (first | refine blk_drewN ?_ _ | refine blk_drew ?_ | refine blk_alloc ?_ _)); refine blk_far ?_ NB385_399.out _; (with_reducible repeat (first | refine blk_drewN ?_ _ | refine blk_drew ?_ | refine blk_alloc ?_ _)); exact BK385.out⟩
             have n12_ : Aside0 ((((w197.setCell ⟨gb399, 0, none⟩ (.slice Ao198 t393.length co198)).setCell ⟨gb399, 1, none⟩ (.int .i64 t396)).setCell ⟨gb399, 2, none⟩ (.int .i64 t397)).heap[gb392]? = some (.cells #[.slice Ao189 t386.length co189, .int .i64 t389, .int .i64 t390] 45 (0, 0))) := ⟨by (with_reducible repeat (first | refine blk_drewN ?_ _ | refine blk_drew ?_ | refine blk_alloc ?_ _)); refine blk_far ?_ NB392_399.out _; (with_reducible repeat (first | refine blk_drewN ?_ _ | refine blk_drew ?_ | refine blk_alloc ?_ _)); refine blk_far ?_ NB392_399.out _; (with_reducible repeat (first | refine blk_drewN ?_ _ | refine blk_drew ?_ | refine blk_alloc ?_ _)); refine blk_far ?_ NB392_399.out _; (with_reducible repeat (first | refine blk_drewN ?_ _ | refine blk_drew ?_ | refine blk_alloc ?_ _)); exact BK392.out⟩
             have n13_ : Aside0 ((((w197.setCell ⟨gb399, 0, none⟩ (.slice Ao198 t393.length co198)).setCell ⟨gb399, 1, none⟩ (.int .i64 t396)).setCell ⟨gb399, 2, none⟩ (.int .i64 t397)).heap[gb399]? = some (.cells #[.slice Ao198 t393.length co198, .int .i64 t396, .int .i64 t397] 45 (0, 0))) := ⟨by (with_reducible repeat (first | refine blk_drewN ?_ _ | refine blk_drew ?_ | refine blk_alloc ?_ _)); refine blk_put (cs := #[.slice Ao198 t393.length co198, .int .i64 t396, .int .i64 0]) ?_ 2 _ rfl; (with_reducible repeat (first | refine blk_drewN ?_ _ | refine blk_drew ?_ | refine blk_alloc ?_ _)); refine blk_put (cs := #[.slice Ao198 t393.length co198, .int .i64 0, .int .i64 0]) ?_ 1 _ rfl; (with_reducible repeat (first | refine blk_drewN ?_ _ | refine blk_drew ?_ | refine blk_alloc ?_ _)); refine blk_put (cs := #[.slice none 0 0, .int .i64 0, .int .i64 0]) ?_ 0 _ rfl; (with_reducible repeat (first | refine blk_drewN ?_ _ | refine blk_drew ?_ | refine blk_alloc ?_ _)); exact BK399.out⟩
             have n14_ : Aside0 (Below w.heap.size w (((w197.setCell ⟨gb399, 0, none⟩ (.slice Ao198 t393.length co198)).setCell ⟨gb399, 1, none⟩ (.int .i64 t396)).setCell ⟨gb399, 2, none⟩ (.int .i64 t397))) := ⟨by repeat (first | (with_reducible first | exact HB.out | apply below_alloc | apply pw_below_drewN | apply below_drew1 | refine below_set ?_ GE355.out | refine below_set ?_ GE362.out | refine below_set ?_ GE369.out | refine below_set ?_ GE377.out | refine below_set ?_ GE385.out | refine below_set ?_ GE392.out | refine below_set ?_ GE399.out) | exact HB.out)⟩
             (try clear HO351)
             (try clear HO358)
             (try clear HO365)
             (try clear HO372)
             (try clear HO380)
             (try clear HO388)
             (try clear HO395)
             (try clear BK355)
             (try clear BK362)
             (try clear BK369)
             (try clear BK377)
             (try clear BK385)
             (try clear BK392)
             (try clear BK399)
             (try clear HB)
             generalize (((w197.setCell ⟨gb399, 0, none⟩ (.slice Ao198 t393.length co198)).setCell ⟨gb399, 1, none⟩ (.int .i64 t396)).setCell ⟨gb399, 2, none⟩ (.int .i64 t397)) = w206 at n0_ n1_ n2_ n3_ n4_ n5_ n6_ n7_ n8_ n9_ n10_ n11_ n12_ n13_ n14_ ⊢
             have HO351 := n0_
             have HO358 := n1_
             have HO365 := n2_
             have HO372 := n3_
             have HO380 := n4_
             have HO388 := n5_
             have HO395 := n6_
             have BK355 := n7_
             have BK362 := n8_
             have BK369 := n9_
             have BK377 := n10_
             have BK385 := n11_
             have BK392 := n12_
             have BK399 := n13_
             have HB := n14_
             clear n0_ n1_ n2_ n3_ n4_ n5_ n6_ n7_ n8_ n9_ n10_ n11_ n12_ n13_ n14_
             have n0_ := Aside0.mk (Kd.R_drew HO351.out)
             have n1_ := Aside0.mk (Kd.R_drew HO358.out)
             have n2_ := Aside0.mk (Kd.R_drew HO365.out)
             have n3_ := Aside0.mk (Kd.R_drew HO372.out)
             have n4_ := Aside0.mk (Kd.R_drew HO380.out)
             have n5_ := Aside0.mk (Kd.R_drew HO388.out)
             have n6_ := Aside0.mk (Kd.R_drew HO395.out)
             have n7_ := Aside0.mk (blk_drew BK355.out)
             have n8_ := Aside0.mk (blk_drew BK362.out)
             have n9_ := Aside0.mk (blk_drew BK369.out)
             have n10_ := Aside0.mk (blk_drew BK377.out)
             have n11_ := Aside0.mk (blk_drew BK385.out)
             have n12_ := Aside0.mk (blk_drew BK392.out)
             have n13_ := Aside0.mk (blk_drew BK399.out)
             have n14_ := Aside0.mk (below_drew1 HB.out)
             clear HO351
             clear HO358
             clear HO365
             clear HO372
             clear HO380
             clear HO388
             clear HO395
             clear BK355
             clear BK362
             clear BK369
             clear BK377
             clear BK385
             clear BK392
             clear BK399
             clear HB
             have HO351 := n0_
             have HO358 := n1_
             have HO365 := n2_
             have HO372 := n3_
             have HO380 := n4_
             have HO388 := n5_
             have HO395 := n6_
             have BK355 := n7_
             have BK362 := n8_
             have BK369 := n9_
             have BK377 := n10_
             have BK385 := n11_
             have BK392 := n12_
             have BK399 := n13_
             have HB := n14_
             clear n0_ n1_ n2_ n3_ n4_ n5_ n6_ n7_ n8_ n9_ n10_ n11_ n12_ n13_ n14_
             refine start_ (n := 70) (S := fun w' => w'.cell? ⟨gb355, 0, none⟩ = some (.slice Ao156 t349.length co156) ∧ w'.cell? ⟨gb355, 1, none⟩ = some (.int .i64 t352) ∧ w'.cell? ⟨gb355, 2, none⟩ = some (.int .i64 t353) ∧ w'.cell? ⟨gb362, 0, none⟩ = some (.slice Ao160 t356.length co160) ∧ w'.cell? ⟨gb362, 1, none⟩ = some (.int .i64 t359) ∧ w'.cell? ⟨gb362, 2, none⟩ = some (.int .i64 t360) ∧ w'.cell? ⟨gb392, 0, none⟩ = some (.slice Ao189 t386.length co189) ∧ w'.cell? ⟨gb392, 1, none⟩ = some (.int .i64 t389) ∧ w'.cell? ⟨gb392, 2, none⟩ = some (.int .i64 t390)) (ds := []) #[false, false, false, false, false, false, false, false, false, false, false, false, false, false, false, false, false, false, false, false, false, false, false, false, false, false, false, false, false, false, false, false, false, false, false, false, false, false, false, false, false, false, false, false, false, false, false, false, false, false, false, false, false, false, false, false, false, false, false, false, false, false, false, false, false, false, false, false, false, false] B8x54_ rfl rfl ⟨(blk_cell BK355.out 0).trans rfl, (blk_cell BK355.out 1).trans rfl, (blk_cell BK355.out 2).trans rfl, (blk_cell BK362.out 0).trans rfl, (blk_cell BK362.out 1).trans rfl, (blk_cell BK362.out 2).trans rfl, (blk_cell BK392.out 0).trans rfl, (blk_cell BK392.out 1).trans rfl, (blk_cell BK392.out 2).trans rfl⟩ (fun hHeld => ?_); refine with_tabW laws_FnRingsTold.tab10 laws_FnRingsTold.bits10 (fun HT_ HW_ => ?_)
             generalize w206.drew = w207 at HO351 HO358 HO365 HO372 HO380 HO388 HO395 BK355 BK362 BK369 BK377 BK385 BK392 BK399 HB hHeld ⊢
             refine ta_ 0 58 HT_ HW_ hHeld ?_
             refine ta_ 2 60 HT_ HW_ hHeld ?_
             refine one_ (i := 1) (N := some 59) #[true, true, true, false, false, false, false, false, false, false, false, false, false, false, false, false, false, false, false, false, false, false, false, false, false, false, false, false, false, false, false, false, false, false, false, false, false, false, false, false, false, false, false, false, false, false, false, false, false, false, false, false, false, false, false, false, false, false, false, false, false, false, false, false, false, false, false, false, false, false] rfl rfl (one_of HT_.out B8x54_) (by decide) (fun K hK => ?_)
             refine goes_ Try.func30 B8x54_ rfl #[.agg #[.slice Ao156 t349.length co156, .int .i64 t352, .int .i64 t353]] (by rfl) rfl rfl B8x3_ ?_
             with_reducible refine (impl_RingOk.calls k _ _ t349 t352 t353 t400 _ ?side1 ?side2 A11.out).mono ?_
             (case side1 => repeat (first | exact (Kd.R_reads' HO351.out).2.2 | (with_reducible refine Kd.C_alloc ?_ _) | (with_reducible refine Kd.C_drewN ?_ _) | (with_reducible refine Kd.C_drew ?_)))
             (case side2 => exact (Kd.R_reads' HO351.out).2.1)
             rintro e w208 ⟨rfl, hb⟩
             refine ⟨_, rfl, ?_⟩
             have n0_ := Aside0.mk (Kd.R_below B8x10_ hb)
             have n1_ := Aside0.mk (Kd.R_below B8x12_ hb)
             have n2_ := Aside0.mk (Kd.R_below B8x14_ hb)
             have n3_ := Aside0.mk (Kd.R_below B8x15_ hb)
             have n4_ := Aside0.mk (Kd.R_below B8x18_ hb)
             have n5_ := Aside0.mk (Kd.R_below B8x20_ hb)
             have n6_ := Aside0.mk (Kd.R_below B8x21_ hb)
             have n7_ := Aside0.mk (blk_below (g := gb355) (o := .cells #[.slice Ao156 t349.length co156, .int .i64 t352, .int .i64 t353] 45 (0, 0)) B8x0_ hb)
             have n8_ := Aside0.mk (blk_below (g := gb362) (o := .cells #[.slice Ao160 t356.length co160, .int .i64 t359, .int .i64 t360] 45 (0, 0)) B8x1_ hb)
             have n9_ := Aside0.mk (blk_below (g := gb369) (o := .cells #[.slice Ao166 t363.length co166, .int .i64 t366, .int .i64 t367] 45 (0, 0)) B8x2_ hb)
             have n10_ := Aside0.mk (blk_below (g := gb377) (o := .cells #[.slice Ao173 t370.length co173, .int .i64 t373, .int .i64 t374] 45 (0, 0)) B8x5_ hb)
             have n11_ := Aside0.mk (blk_below (g := gb385) (o := .cells #[.slice Ao181 t378.length co181, .int .i64 t381, .int .i64 t382] 45 (0, 0)) B8x9_ hb)
             have n12_ := Aside0.mk (blk_below (g := gb392) (o := .cells #[.slice Ao189 t386.length co189, .int .i64 t389, .int .i64 t390] 45 (0, 0)) B8x16_ hb)
             have n13_ := Aside0.mk (blk_below (g := gb399) (o := .cells #[.slice Ao198 t393.length co198, .int .i64 t396, .int .i64 t397] 45 (0, 0)) B8x22_ hb)
             have n14_ := Aside0.mk (below_step B8x7_ hb)
             clear HO351
             clear HO358
             clear HO365
             clear HO372
             clear HO380
             clear HO388
             clear HO395
             clear BK355
             clear BK362
             clear BK369
             clear BK377
             clear BK385
             clear BK392
             clear BK399
             clear HB
             have HO351 := n0_
             have HO358 := n1_
             have HO365 := n2_
             have HO372 := n3_
             have HO380 := n4_
             have HO388 := n5_
             have HO395 := n6_
             have BK355 := n7_
             have BK362 := n8_
             have BK369 := n9_
             have BK377 := n10_
             have BK385 := n11_
             have BK392 := n12_
             have BK399 := n13_
             have HB := n14_
             clear n0_ n1_ n2_ n3_ n4_ n5_ n6_ n7_ n8_ n9_ n10_ n11_ n12_ n13_ n14_
             (try clear hb)
             (try clear hb2)
             (try clear hk)
             (try clear hi)
             refine hK.out _ _ ⟨(blk_cell BK355.out 0).trans rfl, (blk_cell BK355.out 1).trans rfl, (blk_cell BK355.out 2).trans rfl, (blk_cell BK362.out 0).trans rfl, (blk_cell BK362.out 1).trans rfl, (blk_cell BK362.out 2).trans rfl, (blk_cell BK392.out 0).trans rfl, (blk_cell BK392.out 1).trans rfl, (blk_cell BK392.out 2).trans rfl⟩ (fun hHeld => ?_)
             clear hK K
             refine norm_ (a' := ?_) ?_ ?_
             rotate_left
             ·show Act.put _ (some 59) _ = _
              simp only [Act.put, List.setIfInBounds_toArray, List.set_cons_zero, List.set_cons_succ, i64_w, i32_w]
              rfl
             refine one_ (i := 3) (N := some 61) #[true, true, true, true, false, false, false, false, false, false, false, false, false, false, false, false, false, false, false, false, false, false, false, false, false, false, false, false, false, false, false, false, false, false, false, false, false, false, false, false, false, false, false, false, false, false, false, false, false, false, false, false, false, false, false, false, false, false, false, false, false, false, false, false, false, false, false, false, false, false] rfl rfl (one_of HT_.out B8x54_) (by decide) (fun K hK => ?_)
             refine goes_ Try.func31 B8x54_ rfl #[.agg #[.slice Ao156 t349.length co156, .int .i64 t352, .int .i64 t353]] (by rfl) rfl rfl B8x3_ ?_
             with_reducible refine (spec_RingOk.calls k _ _ t349 t352 t353 t401 _ ?side1 ?side2 A12.out).mono ?_
             (case side1 => repeat (first | exact (Kd.R_reads' HO351.out).2.2 | (with_reducible refine Kd.C_alloc ?_ _) | (with_reducible refine Kd.C_drewN ?_ _) | (with_reducible refine Kd.C_drew ?_)))
             (case side2 => exact (Kd.R_reads' HO351.out).2.1)
             rintro e w209 ⟨rfl, hb⟩
             refine ⟨_, rfl, ?_⟩
             have n0_ := Aside0.mk (Kd.R_below B8x10_ hb)
             have n1_ := Aside0.mk (Kd.R_below B8x12_ hb)
             have n2_ := Aside0.mk (Kd.R_below B8x14_ hb)
             have n3_ := Aside0.mk (Kd.R_below B8x15_ hb)
             have n4_ := Aside0.mk (Kd.R_below B8x18_ hb)
             have n5_ := Aside0.mk (Kd.R_below B8x20_ hb)
             have n6_ := Aside0.mk (Kd.R_below B8x21_ hb)
             have n7_ := Aside0.mk (blk_below (g := gb355) (o := .cells #[.slice Ao156 t349.length co156, .int .i64 t352, .int .i64 t353] 45 (0, 0)) B8x0_ hb)
             have n8_ := Aside0.mk (blk_below (g := gb362) (o := .cells #[.slice Ao160 t356.length co160, .int .i64 t359, .int .i64 t360] 45 (0, 0)) B8x1_ hb)
             have n9_ := Aside0.mk (blk_below (g := gb369) (o := .cells #[.slice Ao166 t363.length co166, .int .i64 t366, .int .i64 t367] 45 (0, 0)) B8x2_ hb)
             have n10_ := Aside0.mk (blk_below (g := gb377) (o := .cells #[.slice Ao173 t370.length co173, .int .i64 t373, .int .i64 t374] 45 (0, 0)) B8x5_ hb)
             have n11_ := Aside0.mk (blk_below (g := gb385) (o := .cells #[.slice Ao181 t378.length co181, .int .i64 t381, .int .i64 t382] 45 (0, 0)) B8x9_ hb)
             have n12_ := Aside0.mk (blk_below (g := gb392) (o := .cells #[.slice Ao189 t386.length co189, .int .i64 t389, .int .i64 t390] 45 (0, 0)) B8x16_ hb)
             have n13_ := Aside0.mk (blk_below (g := gb399) (o := .cells #[.slice Ao198 t393.length co198, .int .i64 t396, .int .i64 t397] 45 (0, 0)) B8x22_ hb)
             have n14_ := Aside0.mk (below_step B8x7_ hb)
             clear HO351
             clear HO358
             clear HO365
             clear HO372
             clear HO380
             clear HO388
             clear HO395
             clear BK355
             clear BK362
             clear BK369
             clear BK377
             clear BK385
             clear BK392
             clear BK399
             clear HB
             have HO351 := n0_
             have HO358 := n1_
             have HO365 := n2_
             have HO372 := n3_
             have HO380 := n4_
             have HO388 := n5_
             have HO395 := n6_
             have BK355 := n7_
             have BK362 := n8_
             have BK369 := n9_
             have BK377 := n10_
             have BK385 := n11_
             have BK392 := n12_
             have BK399 := n13_
             have HB := n14_
             clear n0_ n1_ n2_ n3_ n4_ n5_ n6_ n7_ n8_ n9_ n10_ n11_ n12_ n13_ n14_
             (try clear hb)
             (try clear hb2)
             (try clear hk)
             (try clear hi)
             refine hK.out _ _ ⟨(blk_cell BK355.out 0).trans rfl, (blk_cell BK355.out 1).trans rfl, (blk_cell BK355.out 2).trans rfl, (blk_cell BK362.out 0).trans rfl, (blk_cell BK362.out 1).trans rfl, (blk_cell BK362.out 2).trans rfl, (blk_cell BK392.out 0).trans rfl, (blk_cell BK392.out 1).trans rfl, (blk_cell BK392.out 2).trans rfl⟩ (fun hHeld => ?_)
             clear hK K
             refine norm_ (a' := ?_) ?_ ?_
             rotate_left
             ·show Act.put _ (some 61) _ = _
              simp only [Act.put, List.setIfInBounds_toArray, List.set_cons_zero, List.set_cons_succ, i64_w, i32_w]
              rfl
             refine pu_ 4 62 HT_ ?_
             refine pu_ 5 63 HT_ ?_
             refine pu_ 6 64 HT_ ?_
             refine pu_ 7 65 HT_ ?_
             refine pu_ 8 66 HT_ ?_
             refine pu_ 9 67 HT_ ?_
             refine pu_ 10 68 HT_ ?_
             refine pu_ 11 69 HT_ ?_
             refine pu_ 12 70 HT_ ?_
             refine pu_ 13 71 HT_ ?_
             refine pu_ 14 72 HT_ ?_
             refine pu_ 15 73 HT_ ?_
             refine pu_ 16 74 HT_ ?_
             refine pu_ 17 75 HT_ ?_
             refine pu_ 18 76 HT_ ?_
             refine pu_ 19 77 HT_ ?_
             refine pu_ 20 78 HT_ ?_
             refine pu_ 21 79 HT_ ?_
             refine pu_ 22 80 HT_ ?_
             refine pu_ 23 81 HT_ ?_
             refine pu_ 26 84 HT_ ?_
             refine ta_ 24 82 HT_ HW_ hHeld ?_
             refine pu_ 25 83 HT_ ?_
             refine ta_ 27 85 HT_ HW_ hHeld ?_
             refine pu_ 28 86 HT_ ?_
             refine pu_ 29 87 HT_ ?_
             refine pu_ 30 88 HT_ ?_
             refine pu_ 31 89 HT_ ?_
             refine pu_ 33 91 HT_ ?_
             refine ta_ 32 90 HT_ HW_ hHeld ?_
             refine ta_ 34 92 HT_ HW_ hHeld ?_
             refine pu_ 35 93 HT_ ?_
             refine pu_ 36 94 HT_ ?_
             refine pu_ 37 95 HT_ ?_
             refine pu_ 38 96 HT_ ?_
             refine pu_ 39 97 HT_ ?_
             refine pu_ 40 98 HT_ ?_
             refine pu_ 41 99 HT_ ?_
             refine of_ 42 100 HT_ ?_
             refine of_ 43 101 HT_ ?_
             refine of_ 44 102 HT_ ?_
             refine of_ 45 103 HT_ ?_
             refine of_ 46 104 HT_ ?_
             refine pu_ 47 105 HT_ ?_
             refine pu_ 48 106 HT_ ?_
             refine pu_ 49 107 HT_ ?_
             refine pu_ 50 108 HT_ ?_
             refine pu_ 51 109 HT_ ?_
             refine pu_ 52 110 HT_ ?_
             refine pu_ 53 111 HT_ ?_
             refine pu_ 54 112 HT_ ?_
             refine pu_ 55 113 HT_ ?_
             refine pu_ 56 114 HT_ ?_
             refine pu_ 57 115 HT_ ?_
             refine ta_ 58 116 HT_ HW_ hHeld ?_
             refine pu_ 59 117 HT_ ?_
             refine pu_ 60 118 HT_ ?_
             refine pu_ 61 119 HT_ ?_
             refine pu_ 62 120 HT_ ?_
             refine ta_ 63 121 HT_ HW_ hHeld ?_
             refine ta_ 65 123 HT_ HW_ hHeld ?_
             refine one_ (i := 64) (N := some 122) #[true, true, true, true, true, true, true, true, true, true, true, true, true, true, true, true, true, true, true, true, true, true, true, true, true, true, true, true, true, true, true, true, true, true, true, true, true, true, true, true, true, true, true, true, true, true, true, true, true, true, true, true, true, true, true, true, true, true, true, true, true, true, true, true, true, true, false, false, false, false] rfl rfl (one_of HT_.out B8x54_) (by decide) (fun K hK => ?_)
             refine goes_ Try.func32 B8x54_ rfl #[.agg #[.slice Ao156 t349.length co156, .int .i64 t352, .int .i64 t353]] (by rfl) rfl rfl B8x3_ ?_
             with_reducible refine (impl_HeldBy.calls k _ _ t349 t352 t353 t406 _ ?side1 ?side2 A152.out).mono ?_
             (case side1 => repeat (first | exact (Kd.R_reads' HO351.out).2.2 | (with_reducible refine Kd.C_alloc ?_ _) | (with_reducible refine Kd.C_drewN ?_ _) | (with_reducible refine Kd.C_drew ?_)))
             (case side2 => exact (Kd.R_reads' HO351.out).2.1)
             rintro e w210 ⟨rfl, hb⟩
             refine ⟨_, rfl, ?_⟩
             have n0_ := Aside0.mk (Kd.R_below B8x10_ hb)
             have n1_ := Aside0.mk (Kd.R_below B8x12_ hb)
             have n2_ := Aside0.mk (Kd.R_below B8x14_ hb)
             have n3_ := Aside0.mk (Kd.R_below B8x15_ hb)
             have n4_ := Aside0.mk (Kd.R_below B8x18_ hb)
             have n5_ := Aside0.mk (Kd.R_below B8x20_ hb)
             have n6_ := Aside0.mk (Kd.R_below B8x21_ hb)
             have n7_ := Aside0.mk (blk_below (g := gb355) (o := .cells #[.slice Ao156 t349.length co156, .int .i64 t352, .int .i64 t353] 45 (0, 0)) B8x0_ hb)
             have n8_ := Aside0.mk (blk_below (g := gb362) (o := .cells #[.slice Ao160 t356.length co160, .int .i64 t359, .int .i64 t360] 45 (0, 0)) B8x1_ hb)
             have n9_ := Aside0.mk (blk_below (g := gb369) (o := .cells #[.slice Ao166 t363.length co166, .int .i64 t366, .int .i64 t367] 45 (0, 0)) B8x2_ hb)
             have n10_ := Aside0.mk (blk_below (g := gb377) (o := .cells #[.slice Ao173 t370.length co173, .int .i64 t373, .int .i64 t374] 45 (0, 0)) B8x5_ hb)
             have n11_ := Aside0.mk (blk_below (g := gb385) (o := .cells #[.slice Ao181 t378.length co181, .int .i64 t381, .int .i64 t382] 45 (0, 0)) B8x9_ hb)
             have n12_ := Aside0.mk (blk_below (g := gb392) (o := .cells #[.slice Ao189 t386.length co189, .int .i64 t389, .int .i64 t390] 45 (0, 0)) B8x16_ hb)
             have n13_ := Aside0.mk (blk_below (g := gb399) (o := .cells #[.slice Ao198 t393.length co198, .int .i64 t396, .int .i64 t397] 45 (0, 0)) B8x22_ hb)
             have n14_ := Aside0.mk (below_step B8x7_ hb)
             clear HO351
             clear HO358
             clear HO365
             clear HO372
             clear HO380
             clear HO388
             clear HO395
             clear BK355
             clear BK362
             clear BK369
             clear BK377
             clear BK385
             clear BK392
             clear BK399
             clear HB
             have HO351 := n0_
             have HO358 := n1_
             have HO365 := n2_
             have HO372 := n3_
             have HO380 := n4_
             have HO388 := n5_
             have HO395 := n6_
             have BK355 := n7_
             have BK362 := n8_
             have BK369 := n9_
             have BK377 := n10_
             have BK385 := n11_
             have BK392 := n12_
             have BK399 := n13_
             have HB := n14_
             clear n0_ n1_ n2_ n3_ n4_ n5_ n6_ n7_ n8_ n9_ n10_ n11_ n12_ n13_ n14_
             (try clear hb)
             (try clear hb2)
             (try clear hk)
             (try clear hi)
             refine hK.out _ _ ⟨(blk_cell BK355.out 0).trans rfl, (blk_cell BK355.out 1).trans rfl, (blk_cell BK355.out 2).trans rfl, (blk_cell BK362.out 0).trans rfl, (blk_cell BK362.out 1).trans rfl, (blk_cell BK362.out 2).trans rfl, (blk_cell BK392.out 0).trans rfl, (blk_cell BK392.out 1).trans rfl, (blk_cell BK392.out 2).trans rfl⟩ (fun hHeld => ?_)
             clear hK K
             refine norm_ (a' := ?_) ?_ ?_
             rotate_left
             ·show Act.put _ (some 122) _ = _
              simp only [Act.put, List.setIfInBounds_toArray, List.set_cons_zero, List.set_cons_succ, i64_w, i32_w]
              rfl
             refine one_ (i := 66) (N := some 124) #[true, true, true, true, true, true, true, true, true, true, true, true, true, true, true, true, true, true, true, true, true, true, true, true, true, true, true, true, true, true, true, true, true, true, true, true, true, true, true, true, true, true, true, true, true, true, true, true, true, true, true, true, true, true, true, true, true, true, true, true, true, true, true, true, true, true, true, false, false, false] rfl rfl (one_of HT_.out B8x54_) (by decide) (fun K hK => ?_)
             refine goes_ Try.func33 B8x54_ rfl #[.agg #[.slice Ao156 t349.length co156, .int .i64 t352, .int .i64 t353]] (by rfl) rfl rfl B8x3_ ?_
             with_reducible refine (spec_HeldBy.calls k _ _ t349 t352 t353 t407 _ ?side1 ?side2 A153.out).mono ?_
             (case side1 => repeat (first | exact (Kd.R_reads' HO351.out).2.2 | (with_reducible refine Kd.C_alloc ?_ _) | (with_reducible refine Kd.C_drewN ?_ _) | (with_reducible refine Kd.C_drew ?_)))
             (case side2 => exact (Kd.R_reads' HO351.out).2.1)
             rintro e w211 ⟨rfl, hb⟩
             refine ⟨_, rfl, ?_⟩
             have n0_ := Aside0.mk (Kd.R_below B8x10_ hb)
             have n1_ := Aside0.mk (Kd.R_below B8x12_ hb)
             have n2_ := Aside0.mk (Kd.R_below B8x14_ hb)
             have n3_ := Aside0.mk (Kd.R_below B8x15_ hb)
             have n4_ := Aside0.mk (Kd.R_below B8x18_ hb)
             have n5_ := Aside0.mk (Kd.R_below B8x20_ hb)
             have n6_ := Aside0.mk (Kd.R_below B8x21_ hb)
             have n7_ := Aside0.mk (blk_below (g := gb355) (o := .cells #[.slice Ao156 t349.length co156, .int .i64 t352, .int .i64 t353] 45 (0, 0)) B8x0_ hb)
             have n8_ := Aside0.mk (blk_below (g := gb362) (o := .cells #[.slice Ao160 t356.length co160, .int .i64 t359, .int .i64 t360] 45 (0, 0)) B8x1_ hb)
             have n9_ := Aside0.mk (blk_below (g := gb369) (o := .cells #[.slice Ao166 t363.length co166, .int .i64 t366, .int .i64 t367] 45 (0, 0)) B8x2_ hb)
             have n10_ := Aside0.mk (blk_below (g := gb377) (o := .cells #[.slice Ao173 t370.length co173, .int .i64 t373, .int .i64 t374] 45 (0, 0)) B8x5_ hb)
             have n11_ := Aside0.mk (blk_below (g := gb385) (o := .cells #[.slice Ao181 t378.length co181, .int .i64 t381, .int .i64 t382] 45 (0, 0)) B8x9_ hb)
             have n12_ := Aside0.mk (blk_below (g := gb392) (o := .cells #[.slice Ao189 t386.length co189, .int .i64 t389, .int .i64 t390] 45 (0, 0)) B8x16_ hb)
             have n13_ := Aside0.mk (blk_below (g := gb399) (o := .cells #[.slice Ao198 t393.length co198, .int .i64 t396, .int .i64 t397] 45 (0, 0)) B8x22_ hb)
             have n14_ := Aside0.mk (below_step B8x7_ hb)
             clear HO351
             clear HO358
             clear HO365
             clear HO372
             clear HO380
             clear HO388
             clear HO395
             clear BK355
             clear BK362
             clear BK369
             clear BK377
             clear BK385
             clear BK392
             clear BK399
             clear HB
             have HO351 := n0_
             have HO358 := n1_
             have HO365 := n2_
             have HO372 := n3_
             have HO380 := n4_
             have HO388 := n5_
             have HO395 := n6_
             have BK355 := n7_
             have BK362 := n8_
             have BK369 := n9_
             have BK377 := n10_
             have BK385 := n11_
             have BK392 := n12_
             have BK399 := n13_
             have HB := n14_
             clear n0_ n1_ n2_ n3_ n4_ n5_ n6_ n7_ n8_ n9_ n10_ n11_ n12_ n13_ n14_
             (try clear hb)
             (try clear hb2)
             (try clear hk)
             (try clear hi)
             refine hK.out _ _ ⟨(blk_cell BK355.out 0).trans rfl, (blk_cell BK355.out 1).trans rfl, (blk_cell BK355.out 2).trans rfl, (blk_cell BK362.out 0).trans rfl, (blk_cell BK362.out 1).trans rfl, (blk_cell BK362.out 2).trans rfl, (blk_cell BK392.out 0).trans rfl, (blk_cell BK392.out 1).trans rfl, (blk_cell BK392.out 2).trans rfl⟩ (fun hHeld => ?_)
             clear hK K
             refine norm_ (a' := ?_) ?_ ?_
             rotate_left
             ·show Act.put _ (some 124) _ = _
              simp only [Act.put, List.setIfInBounds_toArray, List.set_cons_zero, List.set_cons_succ, i64_w, i32_w]
              rfl
             refine pu_ 67 125 HT_ ?_
             refine pu_ 68 126 HT_ ?_
             refine pu_ 69 2 HT_ ?_
             refine done_ (done_of HT_.out B8x54_) ?_
             try go_wp2
             go_ret
             exact ⟨by first | rfl | (simp [errW_none, errW_some] <;> rfl) | (simp [*, errW_none, errW_some] <;> rfl), by repeat (first | (with_reducible first | exact HB.out | apply below_alloc | apply pw_below_drewN | apply below_drew1 | refine below_set ?_ GE355.out | refine below_set ?_ GE362.out | refine below_set ?_ GE369.out | refine below_set ?_ GE377.out | refine below_set ?_ GE385.out | refine below_set ?_ GE392.out | refine below_set ?_ GE399.out) | exact HB.out)⟩
            ·rw [if_neg c151] at H
             have c151b0 : ((t386.length : Int) == 3) = false := beq_eq_false_iff_ne.mpr c151
             have c151b1 : ((t386.length : Int) != 3) = true := bne_iff_ne.mpr c151
             exact absurd ((Option.some.inj H).trans hr_.out) (by decide)
          ·replace c149 := Bool.eq_false_iff.mpr c149
           subst c149
           rw [if_neg (show ¬ (false = true) by decide)] at H
           exact absurd ((Option.some.inj H).trans hr_.out) (by decide)
         ·replace c148 := Bool.eq_false_iff.mpr c148
          subst c148
          rw [if_neg (show ¬ (false = true) by decide)] at H
          by_cases c212 : t374 = t353
          ·rw [if_pos c212] at H
           have c212b0 : (t374 == t353) = true := beq_iff_eq.mpr c212
           have c212b1 : (t374 != t353) = false := bne_eq_false_iff_eq.mpr c212
           clear c212
           by_cases c213 : t391 = true
           ·subst c213
            rw [if_pos rfl] at H
            by_cases c214 : t398 = true
            ·subst c214
             rw [if_pos rfl] at H
             exact absurd ((Option.some.inj H).trans hr_.out) (by decide)
            ·replace c214 := Bool.eq_false_iff.mpr c214
             subst c214
             rw [if_neg (show ¬ (false = true) by decide)] at H
             by_cases c215 : (t386.length : Int) = 3
             ·rw [if_pos c215] at H
              have c215b0 : ((t386.length : Int) == 3) = true := beq_iff_eq.mpr c215
              have c215b1 : ((t386.length : Int) != 3) = false := bne_eq_false_iff_eq.mpr c215
              clear c215
              replace H := Option.bind_eq_some_iff.mp H
              obtain ⟨t408, A2160, H⟩ := H
              (try dsimp only at H)
              have A216 := Aside0.mk A2160
              clear A2160
              replace H := Option.bind_eq_some_iff.mp H
              obtain ⟨t409, A2170, H⟩ := H
              (try dsimp only at H)
              have A217 := Aside0.mk A2170
              clear A2170
              obtain rfl := Option.some.inj H
              go_enter Try.func5, Try.ntmps5
              try go_wp2_with (first | ((with_reducible refine gate_callee (f := 23) rfl ?_); refine goesL_ (some 20) rfl rfl Try.func23 B8x54_ rfl #[.slice A0 l0.length c0] rfl B8x3_ ?_; (with_reducible refine (laws_big.calls _ _ l0 false _ ?side1 ?side2 A2.out).mono ?_); (case side1 => repeat (first | exact HR0.out | (with_reducible refine Kd.C_alloc ?_ _) | (with_reducible refine Kd.C_drewN ?_ _) | (with_reducible refine Kd.C_drew ?_))); (case side2 => exact HC0.out); rintro e w' ⟨rfl, ⟨nd, rfl⟩⟩; refine ⟨_, rfl, ?_⟩) | ((with_reducible refine gate_callee (f := 24) rfl ?_); refine goesL_ (some 23) rfl rfl Try.func24 B8x54_ rfl #[.slice A0 l0.length c0] rfl B8x3_ ?_; (with_reducible refine (spec_DrawPostRing.calls k _ _ l0 t349 t352 t353 t354 _ ?side1 ?side2 A4.out).mono ?_); (case side1 => repeat (first | exact HR0.out | (with_reducible refine Kd.C_alloc ?_ _) | (with_reducible refine Kd.C_drewN ?_ _) | (with_reducible refine Kd.C_drew ?_))); (case side2 => exact HC0.out); rintro e w218 ⟨v350, rfl, ho0, hb⟩; refine ⟨_, rfl, ?_⟩; have n0_ := Aside0.mk (Kd.R_lower ho0 (below_size B8x19_)); have n1_ := Aside0.mk (below_step B8x19_ hb); clear HB; have HO351 := n0_; have HB := n1_; clear n0_ n1_; (try clear hb); (try clear hb2); (try clear hk); (try clear hi); (try clear ho0)) | ((with_reducible refine gate_dst (N := 3) rfl ?_); (try (refine gate_guard (by rfl) ?_; dsimp only)); refine box_event ?hg (N := 3) ?hd (cs := #[.slice none 0 0, .int .i64 0, .int .i64 0]) (t := 45) ?hr ?_; (case hd => rfl); (case hg => rfl); (case hr => first | (go_simp; done) | (go_simp; rfl)); intro gb355 hg w219 hbox hb; have n0_ := Aside0.mk (Kd.R_below B8x10_ hb); have n1_ := Aside0.mk (below_step B8x19_ hb); have n2_ := Aside0.mk (hbox); have n3_ := Aside0.mk ((by rw [hg]; exact (below_size B8x19_) : w.heap.size ≤ gb355)); have n4_ := Aside0.mk ((by rw [hg]; exact (below_size B8x19_) : w.heap.size ≤ gb355)); clear HO351; clear HB; have HO351 := n0_; have HB := n1_; have BK355 := n2_; have GW355 := n3_; have GE355 := n4_; clear n0_ n1_ n2_ n3_ n4_; clear hb hbox hg; obtain ⟨Ao220, co220, eo220⟩ := Kd.R_slice HO351.out; subst eo220; obtain ⟨hcz221_0, hcz221_1, hcz221_2⟩ := cl3 BK355.out; obtain ⟨hfz221_0, hfz221_1, hfz221_2⟩ := fr3 BK355.out) | ((with_reducible refine gate_callee (f := 25) rfl ?_); refine goesL_ (some 29) rfl rfl Try.func25 B8x54_ rfl #[.agg #[.slice Ao220 t349.length co220, .int .i64 t352, .int .i64 t353], .string t354] rfl B8x3_ ?_; (with_reducible refine (impl_PostRing.calls k _ _ t349 t352 t353 t354 t356 t359 t360 false _ ?side1 ?side2 A5.out).mono ?_); (case side1 => refine (Kd.R_reads' (e := 105) (base := w.heap.size) (ok := fun k_ => True) (n := t349.length) (c := co220) ?_).2.2; exact B8x39_); (case side2 => exact (Kd.R_reads' HO351.out).2.1); rintro e w222 ⟨v357, rfl, ho0, hb⟩; refine ⟨_, rfl, ?_⟩; have n0_ := Aside0.mk (Kd.R_elder' B8x39_ (Kd.R_base ho0) hb); have n1_ := Aside0.mk (Kd.R_lower (Kd.R_new' ho0 (Kd.R_lt B8x39_)) (below_size B8x17_)); have n2_ := Aside0.mk (blk_below (g := gb355) (o := .cells #[.slice Ao220 t349.length co220, .int .i64 t352, .int .i64 t353] 45 (0, 0)) (by (with_reducible repeat (first | refine blk_drewN ?_ _ | refine blk_drew ?_ | refine blk_alloc ?_ _)); refine blk_put (cs := #[.slice Ao220 t349.length co220, .int .i64 t352, .int .i64 0]) ?_ 2 _ rfl; (with_reducible repeat (first | refine blk_drewN ?_ _ | refine blk_drew ?_ | refine blk_alloc ?_ _)); refine blk_put (cs := #[.slice Ao220 t349.length co220, .int .i64 0, .int .i64 0]) ?_ 1 _ rfl; (with_reducible repeat (first | refine blk_drewN ?_ _ | refine blk_drew ?_ | refine blk_alloc ?_ _)); refine blk_put (cs := #[.slice none 0 0, .int .i64 0, .int .i64 0]) ?_ 0 _ rfl; (with_reducible repeat (first | refine blk_drewN ?_ _ | refine blk_drew ?_ | refine blk_alloc ?_ _)); exact BK355.out) hb); have n3_ := Aside0.mk (below_step B8x17_ hb); clear HO351; clear BK355; clear HB; have HO351 := n0_; have HO358 := n1_; have BK355 := n2_; have HB := n3_; clear n0_ n1_ n2_ n3_; (try clear hb); (try clear hb2); (try clear hk); (try clear hi); (try clear ho0)) | ((with_reducible refine gate_dst (N := 5) rfl ?_); (try (refine gate_guard (by rfl) ?_; dsimp only)); refine box_event ?hg (N := 5) ?hd (cs := #[.slice none 0 0, .int .i64 0, .int .i64 0]) (t := 45) ?hr ?_; (case hd => rfl); (case hg => rfl); (case hr => first | (go_simp; done) | (go_simp; rfl)); intro gb362 hg w223 hbox hb; have n0_ := Aside0.mk (Kd.R_below B8x10_ hb); have n1_ := Aside0.mk (Kd.R_below B8x12_ hb); have n2_ := Aside0.mk (blk_below (g := gb355) (o := .cells #[.slice Ao220 t349.length co220, .int .i64 t352, .int .i64 t353] 45 (0, 0)) B8x0_ hb); have n3_ := Aside0.mk (below_step B8x17_ hb); have n4_ := Aside0.mk (hbox); have n5_ := Aside0.mk ((by rw [hg]; exact (below_size B8x17_) : w.heap.size ≤ gb362)); have n6_ := Aside0.mk ((by rw [hg]; exact (below_size B8x17_) : w.heap.size ≤ gb362)); have n7_ := Aside0.mk ((by rw [hg]; exact Nat.ne_of_lt (blk_lt (g := gb355) (o := .cells #[.slice Ao220 t349.length co220, .int .i64 t352, .int .i64 t353] 45 (0, 0)) B8x0_) : gb355 ≠ gb362)); have n8_ := Aside0.mk ((by rw [hg]; exact Nat.ne_of_gt (blk_lt (g := gb355) (o := .cells #[.slice Ao220 t349.length co220, .int .i64 t352, .int .i64 t353] 45 (0, 0)) B8x0_) : gb362 ≠ gb355)); clear HO351; clear HO358; clear BK355; clear HB; have HO351 := n0_; have HO358 := n1_; have BK355 := n2_; have HB := n3_; have BK362 := n4_; have GW362 := n5_; have GE362 := n6_; have NB355_362 := n7_; have NB362_355 := n8_; clear n0_ n1_ n2_ n3_ n4_ n5_ n6_ n7_ n8_; clear hb hbox hg; obtain ⟨Ao224, co224, eo224⟩ := Kd.R_slice HO358.out; subst eo224; have hnb225 := NB362_355.out; have hnc225 := NB355_362.out; obtain ⟨hcz226_0, hcz226_1, hcz226_2⟩ := cl3 BK362.out; obtain ⟨hfz226_0, hfz226_1, hfz226_2⟩ := fr3 BK362.out; obtain ⟨hcz227_0, hcz227_1, hcz227_2⟩ := cl3 BK355.out; obtain ⟨hfz227_0, hfz227_1, hfz227_2⟩ := fr3 BK355.out) | ((with_reducible refine gate_callee (f := 26) rfl ?_); refine goesL_ (some 35) rfl rfl Try.func26 B8x54_ rfl #[.agg #[.slice Ao220 t349.length co220, .int .i64 t352, .int .i64 t353], .string t354] rfl B8x3_ ?_; (with_reducible refine (spec_PostRing.calls k _ _ t349 t352 t353 t354 t363 t366 t367 t368 _ ?side1 ?side2 A6.out).mono ?_); (case side1 => refine (Kd.R_reads' (e := 105) (base := w.heap.size) (ok := fun k_ => (True ∧ some k_ ≠ (.slice Ao224 t356.length co224 : Value).ownBlock)) (n := t349.length) (c := co220) ?_).2.2; exact B8x41_); (case side2 => exact (Kd.R_reads' HO351.out).2.1); rintro e w228 ⟨v364, rfl, ho0, hb⟩; refine ⟨_, rfl, ?_⟩; have n0_ := Aside0.mk (Kd.R_elder' B8x41_ (Kd.R_base ho0) hb); have n1_ := Aside0.mk (Kd.R_elder' B8x56_ (Kd.R_base ho0) hb); have n2_ := Aside0.mk (Kd.R_lower (Kd.R_new' (Kd.R_new' ho0 (Kd.R_lt B8x41_)) (Kd.R_lt B8x56_)) (below_size B8x13_)); have n3_ := Aside0.mk (blk_below (g := gb355) (o := .cells #[.slice Ao220 t349.length co220, .int .i64 t352, .int .i64 t353] 45 (0, 0)) B8x23_ hb); have n4_ := Aside0.mk (blk_below (g := gb362) (o := .cells #[.slice Ao224 t356.length co224, .int .i64 t359, .int .i64 t360] 45 (0, 0)) (by (with_reducible repeat (first | refine blk_drewN ?_ _ | refine blk_drew ?_ | refine blk_alloc ?_ _)); refine blk_put (cs := #[.slice Ao224 t356.length co224, .int .i64 t359, .int .i64 0]) ?_ 2 _ rfl; (with_reducible repeat (first | refine blk_drewN ?_ _ | refine blk_drew ?_ | refine blk_alloc ?_ _)); refine blk_put (cs := #[.slice Ao224 t356.length co224, .int .i64 0, .int .i64 0]) ?_ 1 _ rfl; (with_reducible repeat (first | refine blk_drewN ?_ _ | refine blk_drew ?_ | refine blk_alloc ?_ _)); refine blk_put (cs := #[.slice none 0 0, .int .i64 0, .int .i64 0]) ?_ 0 _ rfl; (with_reducible repeat (first | refine blk_drewN ?_ _ | refine blk_drew ?_ | refine blk_alloc ?_ _)); exact BK362.out) hb); have n5_ := Aside0.mk (below_step B8x13_ hb); clear HO351; clear HO358; clear BK355; clear BK362; clear HB; have HO351 := n0_; have HO358 := n1_; have HO365 := n2_; have BK355 := n3_; have BK362 := n4_; have HB := n5_; clear n0_ n1_ n2_ n3_ n4_ n5_; (try clear hb); (try clear hb2); (try clear hk); (try clear hi); (try clear ho0)) | ((with_reducible refine gate_dst (N := 7) rfl ?_); (try (refine gate_guard (by rfl) ?_; dsimp only)); refine box_event ?hg (N := 7) ?hd (cs := #[.slice none 0 0, .int .i64 0, .int .i64 0]) (t := 45) ?hr ?_; (case hd => rfl); (case hg => rfl); (case hr => first | (go_simp; done) | (go_simp; rfl)); intro gb369 hg w229 hbox hb; have n0_ := Aside0.mk (Kd.R_below B8x10_ hb); have n1_ := Aside0.mk (Kd.R_below B8x12_ hb); have n2_ := Aside0.mk (Kd.R_below B8x14_ hb); have n3_ := Aside0.mk (blk_below (g := gb355) (o := .cells #[.slice Ao220 t349.length co220, .int .i64 t352, .int .i64 t353] 45 (0, 0)) B8x0_ hb); have n4_ := Aside0.mk (blk_below (g := gb362) (o := .cells #[.slice Ao224 t356.length co224, .int .i64 t359, .int .i64 t360] 45 (0, 0)) B8x1_ hb); have n5_ := Aside0.mk (below_step B8x13_ hb); have n6_ := Aside0.mk (hbox); have n7_ := Aside0.mk ((by rw [hg]; exact (below_size B8x13_) : w.heap.size ≤ gb369)); have n8_ := Aside0.mk ((by rw [hg]; exact (below_size B8x13_) : w.heap.size ≤ gb369)); have n9_ := Aside0.mk ((by rw [hg]; exact Nat.ne_of_lt (blk_lt (g := gb355) (o := .cells #[.slice Ao220 t349.length co220, .int .i64 t352, .int .i64 t353] 45 (0, 0)) B8x0_) : gb355 ≠ gb369)); have n10_ := Aside0.mk ((by rw [hg]; exact Nat.ne_of_gt (blk_lt (g := gb355) (o := .cells #[.slice Ao220 t349.length co220, .int .i64 t352, .int .i64 t353] 45 (0, 0)) B8x0_) : gb369 ≠ gb355)); have n11_ := Aside0.mk ((by rw [hg]; exact Nat.ne_of_lt (blk_lt (g := gb362) (o := .cells #[.slice Ao224 t356.length co224, .int .i64 t359, .int .i64 t360] 45 (0, 0)) B8x1_) : gb362 ≠ gb369)); have n12_ := Aside0.mk ((by rw [hg]; exact Nat.ne_of_gt (blk_lt (g := gb362) (o := .cells #[.slice Ao224 t356.length co224, .int .i64 t359, .int .i64 t360] 45 (0, 0)) B8x1_) : gb369 ≠ gb362)); clear HO351; clear HO358; clear HO365; clear BK355; clear BK362; clear HB; have HO351 := n0_; have HO358 := n1_; have HO365 := n2_; have BK355 := n3_; have BK362 := n4_; have HB := n5_; have BK369 := n6_; have GW369 := n7_; have GE369 := n8_; have NB355_369 := n9_; have NB369_355 := n10_; have NB362_369 := n11_; have NB369_362 := n12_; clear n0_ n1_ n2_ n3_ n4_ n5_ n6_ n7_ n8_ n9_ n10_ n11_ n12_; clear hb hbox hg; obtain ⟨Ao230, co230, eo230⟩ := Kd.R_slice HO365.out; subst eo230; have hnb231 := NB369_355.out; have hnc231 := NB355_369.out; have hnb232 := NB369_362.out; have hnc232 := NB362_369.out; obtain ⟨hcz233_0, hcz233_1, hcz233_2⟩ := cl3 BK369.out; obtain ⟨hfz233_0, hfz233_1, hfz233_2⟩ := fr3 BK369.out; obtain ⟨hcz234_0, hcz234_1, hcz234_2⟩ := cl3 BK355.out; obtain ⟨hfz234_0, hfz234_1, hfz234_2⟩ := fr3 BK355.out) | ((with_reducible refine gate_callee (f := 27) rfl ?_); refine goesL_ (some 40) rfl rfl Try.func27 B8x54_ rfl #[.agg #[.slice Ao220 t349.length co220, .int .i64 t352, .int .i64 t353]] rfl B8x3_ ?_; (with_reducible refine (impl_TakeRing.calls k _ _ t349 t352 t353 t370 t373 t374 t375 false _ ?side1 ?side2 A7.out).mono ?_); (case side1 => refine (Kd.R_reads' (e := 105) (base := w.heap.size) (ok := fun k_ => ((True ∧ some k_ ≠ (.slice Ao224 t356.length co224 : Value).ownBlock) ∧ some k_ ≠ (.slice Ao230 t363.length co230 : Value).ownBlock)) (n := t349.length) (c := co220) ?_).2.2; exact B8x44_); (case side2 => exact (Kd.R_reads' HO351.out).2.1); rintro e w235 ⟨v371, rfl, ho0, hb⟩; refine ⟨_, rfl, ?_⟩; have n0_ := Aside0.mk (Kd.R_elder' B8x44_ (Kd.R_base ho0) hb); have n1_ := Aside0.mk (Kd.R_elder' B8x59_ (Kd.R_base ho0) hb); have n2_ := Aside0.mk (Kd.R_elder' B8x62_ (Kd.R_base ho0) hb); have n3_ := Aside0.mk (Kd.R_lower (Kd.R_new' (Kd.R_new' (Kd.R_new' ho0 (Kd.R_lt B8x44_)) (Kd.R_lt B8x59_)) (Kd.R_lt B8x62_)) (below_size B8x11_)); have n4_ := Aside0.mk (blk_below (g := gb355) (o := .cells #[.slice Ao220 t349.length co220, .int .i64 t352, .int .i64 t353] 45 (0, 0)) B8x24_ hb); have n5_ := Aside0.mk (blk_below (g := gb362) (o := .cells #[.slice Ao224 t356.length co224, .int .i64 t359, .int .i64 t360] 45 (0, 0)) B8x28_ hb); have n6_ := Aside0.mk (blk_below (g := gb369) (o := .cells #[.slice Ao230 t363.length co230, .int .i64 t366, .int .i64 t367] 45 (0, 0)) (by (with_reducible repeat (first | refine blk_drewN ?_ _ | refine blk_drew ?_ | refine blk_alloc ?_ _)); refine blk_put (cs := #[.slice Ao230 t363.length co230, .int .i64 t366, .int .i64 0]) ?_ 2 _ rfl; (with_reducible repeat (first | refine blk_drewN ?_ _ | refine blk_drew ?_ | refine blk_alloc ?_ _)); refine blk_put (cs := #[.slice Ao230 t363.length co230, .int .i64 0, .int .i64 0]) ?_ 1 _ rfl; (with_reducible repeat (first | refine blk_drewN ?_ _ | refine blk_drew ?_ | refine blk_alloc ?_ _)); refine blk_put (cs := #[.slice none 0 0, .int .i64 0, .int .i64 0]) ?_ 0 _ rfl; (with_reducible repeat (first | refine blk_drewN ?_ _ | refine blk_drew ?_ | refine blk_alloc ?_ _)); exact BK369.out) hb); have n7_ := Aside0.mk (below_step B8x11_ hb); clear HO351; clear HO358; clear HO365; clear BK355; clear BK362; clear BK369; clear HB; have HO351 := n0_; have HO358 := n1_; have HO365 := n2_; have HO372 := n3_; have BK355 := n4_; have BK362 := n5_; have BK369 := n6_; have HB := n7_; clear n0_ n1_ n2_ n3_ n4_ n5_ n6_ n7_; (try clear hb); (try clear hb2); (try clear hk); (try clear hi); (try clear ho0)) | ((with_reducible refine gate_dst (N := 9) rfl ?_); (try (refine gate_guard (by rfl) ?_; dsimp only)); refine box_event ?hg (N := 9) ?hd (cs := #[.slice none 0 0, .int .i64 0, .int .i64 0]) (t := 45) ?hr ?_; (case hd => rfl); (case hg => rfl); (case hr => first | (go_simp; done) | (go_simp; rfl)); intro gb377 hg w236 hbox hb; have n0_ := Aside0.mk (Kd.R_below B8x10_ hb); have n1_ := Aside0.mk (Kd.R_below B8x12_ hb); have n2_ := Aside0.mk (Kd.R_below B8x14_ hb); have n3_ := Aside0.mk (Kd.R_below B8x15_ hb); have n4_ := Aside0.mk (blk_below (g := gb355) (o := .cells #[.slice Ao220 t349.length co220, .int .i64 t352, .int .i64 t353] 45 (0, 0)) B8x0_ hb); have n5_ := Aside0.mk (blk_below (g := gb362) (o := .cells #[.slice Ao224 t356.length co224, .int .i64 t359, .int .i64 t360] 45 (0, 0)) B8x1_ hb); have n6_ := Aside0.mk (blk_below (g := gb369) (o := .cells #[.slice Ao230 t363.length co230, .int .i64 t366, .int .i64 t367] 45 (0, 0)) B8x2_ hb); have n7_ := Aside0.mk (below_step B8x11_ hb); have n8_ := Aside0.mk (hbox); have n9_ := Aside0.mk ((by rw [hg]; exact (below_size B8x11_) : w.heap.size ≤ gb377)); have n10_ := Aside0.mk ((by rw [hg]; exact (below_size B8x11_) : w.heap.size ≤ gb377)); have n11_ := Aside0.mk ((by rw [hg]; exact Nat.ne_of_lt (blk_lt (g := gb355) (o := .cells #[.slice Ao220 t349.length co220, .int .i64 t352, .int .i64 t353] 45 (0, 0)) B8x0_) : gb355 ≠ gb377)); have n12_ := Aside0.mk ((by rw [hg]; exact Nat.ne_of_gt (blk_lt (g := gb355) (o := .cells #[.slice Ao220 t349.length co220, .int .i64 t352, .int .i64 t353] 45 (0, 0)) B8x0_) : gb377 ≠ gb355)); have n13_ := Aside0.mk ((by rw [hg]; exact Nat.ne_of_lt (blk_lt (g := gb362) (o := .cells #[.slice Ao224 t356.length co224, .int .i64 t359, .int .i64 t360] 45 (0, 0)) B8x1_) : gb362 ≠ gb377)); have n14_ := Aside0.mk ((by rw [hg]; exact Nat.ne_of_gt (blk_lt (g := gb362) (o := .cells #[.slice Ao224 t356.length co224, .int .i64 t359, .int .i64 t360] 45 (0, 0)) B8x1_) : gb377 ≠ gb362)); have n15_ := Aside0.mk ((by rw [hg]; exact Nat.ne_of_lt (blk_lt (g := gb369) (o := .cells #[.slice Ao230 t363.length co230, .int .i64 t366, .int .i64 t367] 45 (0, 0)) B8x2_) : gb369 ≠ gb377)); have n16_ := Aside0.mk ((by rw [hg]; exact Nat.ne_of_gt (blk_lt (g := gb369) (o := .cells #[.slice Ao230 t363.length co230, .int .i64 t366, .int .i64 t367] 45 (0, 0)) B8x2_) : gb377 ≠ gb369)); clear HO351; clear HO358; clear HO365; clear HO372; clear BK355; clear BK362; clear BK369; clear HB; have HO351 := n0_; have HO358 := n1_; have HO365 := n2_; have HO372 := n3_; have BK355 := n4_; have BK362 := n5_; have BK369 := n6_; have HB := n7_; have BK377 := n8_; have GW377 := n9_; have GE377 := n10_; have NB355_377 := n11_; have NB377_355 := n12_; have NB362_377 := n13_; have NB377_362 := n14_; have NB369_377 := n15_; have NB377_369 := n16_; clear n0_ n1_ n2_ n3_ n4_ n5_ n6_ n7_ n8_ n9_ n10_ n11_ n12_ n13_ n14_ n15_ n16_; clear hb hbox hg; obtain ⟨Ao237, co237, eo237⟩ := Kd.R_slice HO372.out; subst eo237; have hnb238 := NB377_355.out; have hnc238 := NB355_377.out; have hnb239 := NB377_362.out; have hnc239 := NB362_377.out; have hnb240 := NB377_369.out; have hnc240 := NB369_377.out; obtain ⟨hcz241_0, hcz241_1, hcz241_2⟩ := cl3 BK377.out; obtain ⟨hfz241_0, hfz241_1, hfz241_2⟩ := fr3 BK377.out; obtain ⟨hcz242_0, hcz242_1, hcz242_2⟩ := cl3 BK355.out; obtain ⟨hfz242_0, hfz242_1, hfz242_2⟩ := fr3 BK355.out) | ((with_reducible refine gate_callee (f := 28) rfl ?_); refine goesL_ (some 46) rfl rfl Try.func28 B8x54_ rfl #[.agg #[.slice Ao220 t349.length co220, .int .i64 t352, .int .i64 t353]] rfl B8x3_ ?_; (with_reducible refine (spec_TakeRing.calls k _ _ t349 t352 t353 t378 t381 t382 t383 t384 _ ?side1 ?side2 A8.out).mono ?_); (case side1 => refine (Kd.R_reads' (e := 105) (base := w.heap.size) (ok := fun k_ => (((True ∧ some k_ ≠ (.slice Ao224 t356.length co224 : Value).ownBlock) ∧ some k_ ≠ (.slice Ao230 t363.length co230 : Value).ownBlock) ∧ some k_ ≠ (.slice Ao237 t370.length co237 : Value).ownBlock)) (n := t349.length) (c := co220) ?_).2.2; exact B8x47_); (case side2 => exact (Kd.R_reads' HO351.out).2.1); rintro e w243 ⟨v379, rfl, ho0, hb⟩; refine ⟨_, rfl, ?_⟩; have n0_ := Aside0.mk (Kd.R_elder' B8x47_ (Kd.R_base ho0) hb); have n1_ := Aside0.mk (Kd.R_elder' B8x65_ (Kd.R_base ho0) hb); have n2_ := Aside0.mk (Kd.R_elder' B8x68_ (Kd.R_base ho0) hb); have n3_ := Aside0.mk (Kd.R_elder' B8x71_ (Kd.R_base ho0) hb); have n4_ := Aside0.mk (Kd.R_lower (Kd.R_new' (Kd.R_new' (Kd.R_new' (Kd.R_new' ho0 (Kd.R_lt B8x47_)) (Kd.R_lt B8x65_)) (Kd.R_lt B8x68_)) (Kd.R_lt B8x71_)) (below_size B8x8_)); have n5_ := Aside0.mk (blk_below (g := gb355) (o := .cells #[.slice Ao220 t349.length co220, .int .i64 t352, .int .i64 t353] 45 (0, 0)) B8x25_ hb); have n6_ := Aside0.mk (blk_below (g := gb362) (o := .cells #[.slice Ao224 t356.length co224, .int .i64 t359, .int .i64 t360] 45 (0, 0)) B8x29_ hb); have n7_ := Aside0.mk (blk_below (g := gb369) (o := .cells #[.slice Ao230 t363.length co230, .int .i64 t366, .int .i64 t367] 45 (0, 0)) B8x32_ hb); have n8_ := Aside0.mk (blk_below (g := gb377) (o := .cells #[.slice Ao237 t370.length co237, .int .i64 t373, .int .i64 t374] 45 (0, 0)) (by (with_reducible repeat (first | refine blk_drewN ?_ _ | refine blk_drew ?_ | refine blk_alloc ?_ _)); refine blk_put (cs := #[.slice Ao237 t370.length co237, .int .i64 t373, .int .i64 0]) ?_ 2 _ rfl; (with_reducible repeat (first | refine blk_drewN ?_ _ | refine blk_drew ?_ | refine blk_alloc ?_ _)); refine blk_put (cs := #[.slice Ao237 t370.length co237, .int .i64 0, .int .i64 0]) ?_ 1 _ rfl; (with_reducible repeat (first | refine blk_drewN ?_ _ | refine blk_drew ?_ | refine blk_alloc ?_ _)); refine blk_put (cs := #[.slice none 0 0, .int .i64 0, .int .i64 0]) ?_ 0 _ rfl; (with_reducible repeat (first | refine blk_drewN ?_ _ | refine blk_drew ?_ | refine blk_alloc ?_ _)); exact BK377.out) hb); have n9_ := Aside0.mk (below_step B8x8_ hb); clear HO351; clear HO358; clear HO365; clear HO372; clear BK355; clear BK362; clear BK369; clear BK377; clear HB; have HO351 := n0_; have HO358 := n1_; have HO365 := n2_; have HO372 := n3_; have HO380 := n4_; have BK355 := n5_; have BK362 := n6_; have BK369 := n7_; have BK377 := n8_; have HB := n9_; clear n0_ n1_ n2_ n3_ n4_ n5_ n6_ n7_ n8_ n9_; (try clear hb); (try clear hb2); (try clear hk); (try clear hi); (try clear ho0)) | ((with_reducible refine gate_dst (N := 12) rfl ?_); (try (refine gate_guard (by rfl) ?_; dsimp only)); refine box_event ?hg (N := 12) ?hd (cs := #[.slice none 0 0, .int .i64 0, .int .i64 0]) (t := 45) ?hr ?_; (case hd => rfl); (case hg => rfl); (case hr => first | (go_simp; done) | (go_simp; rfl)); intro gb385 hg w244 hbox hb; have n0_ := Aside0.mk (Kd.R_below B8x10_ hb); have n1_ := Aside0.mk (Kd.R_below B8x12_ hb); have n2_ := Aside0.mk (Kd.R_below B8x14_ hb); have n3_ := Aside0.mk (Kd.R_below B8x15_ hb); have n4_ := Aside0.mk (Kd.R_below B8x18_ hb); have n5_ := Aside0.mk (blk_below (g := gb355) (o := .cells #[.slice Ao220 t349.length co220, .int .i64 t352, .int .i64 t353] 45 (0, 0)) B8x0_ hb); have n6_ := Aside0.mk (blk_below (g := gb362) (o := .cells #[.slice Ao224 t356.length co224, .int .i64 t359, .int .i64 t360] 45 (0, 0)) B8x1_ hb); have n7_ := Aside0.mk (blk_below (g := gb369) (o := .cells #[.slice Ao230 t363.length co230, .int .i64 t366, .int .i64 t367] 45 (0, 0)) B8x2_ hb); have n8_ := Aside0.mk (blk_below (g := gb377) (o := .cells #[.slice Ao237 t370.length co237, .int .i64 t373, .int .i64 t374] 45 (0, 0)) B8x5_ hb); have n9_ := Aside0.mk (below_step B8x8_ hb); have n10_ := Aside0.mk (hbox); have n11_ := Aside0.mk ((by rw [hg]; exact (below_size B8x8_) : w.heap.size ≤ gb385)); have n12_ := Aside0.mk ((by rw [hg]; exact (below_size B8x8_) : w.heap.size ≤ gb385)); have n13_ := Aside0.mk ((by rw [hg]; exact Nat.ne_of_lt (blk_lt (g := gb355) (o := .cells #[.slice Ao220 t349.length co220, .int .i64 t352, .int .i64 t353] 45 (0, 0)) B8x0_) : gb355 ≠ gb385)); have n14_ := Aside0.mk ((by rw [hg]; exact Nat.ne_of_gt (blk_lt (g := gb355) (o := .cells #[.slice Ao220 t349.length co220, .int .i64 t352, .int .i64 t353] 45 (0, 0)) B8x0_) : gb385 ≠ gb355)); have n15_ := Aside0.mk ((by rw [hg]; exact Nat.ne_of_lt (blk_lt (g := gb362) (o := .cells #[.slice Ao224 t356.length co224, .int .i64 t359, .int .i64 t360] 45 (0, 0)) B8x1_) : gb362 ≠ gb385)); have n16_ := Aside0.mk ((by rw [hg]; exact Nat.ne_of_gt (blk_lt (g := gb362) (o := .cells #[.slice Ao224 t356.length co224, .int .i64 t359, .int .i64 t360] 45 (0, 0)) B8x1_) : gb385 ≠ gb362)); have n17_ := Aside0.mk ((by rw [hg]; exact Nat.ne_of_lt (blk_lt (g := gb369) (o := .cells #[.slice Ao230 t363.length co230, .int .i64 t366, .int .i64 t367] 45 (0, 0)) B8x2_) : gb369 ≠ gb385)); have n18_ := Aside0.mk ((by rw [hg]; exact Nat.ne_of_gt (blk_lt (g := gb369) (o := .cells #[.slice Ao230 t363.length co230, .int .i64 t366, .int .i64 t367] 45 (0, 0)) B8x2_) : gb385 ≠ gb369)); have n19_ := Aside0.mk ((by rw [hg]; exact Nat.ne_of_lt (blk_lt (g := gb377) (o := .cells #[.slice Ao237 t370.length co237, .int .i64 t373, .int .i64 t374] 45 (0, 0)) B8x5_) : gb377 ≠ gb385)); have n20_ := Aside0.mk ((by rw [hg]; exact Nat.ne_of_gt (blk_lt (g := gb377) (o := .cells #[.slice Ao237 t370.length co237, .int .i64 t373, .int .i64 t374] 45 (0, 0)) B8x5_) : gb385 ≠ gb377)); clear HO351; clear HO358; clear HO365; clear HO372; clear HO380; clear BK355; clear BK362; clear BK369; clear BK377; clear HB; have HO351 := n0_; have HO358 := n1_; have HO365 := n2_; have HO372 := n3_; have HO380 := n4_; have BK355 := n5_; have BK362 := n6_; have BK369 := n7_; have BK377 := n8_; have HB := n9_; have BK385 := n10_; have GW385 := n11_; have GE385 := n12_; have NB355_385 := n13_; have NB385_355 := n14_; have NB362_385 := n15_; have NB385_362 := n16_; have NB369_385 := n17_; have NB385_369 := n18_; have NB377_385 := n19_; have NB385_377 := n20_; clear n0_ n1_ n2_ n3_ n4_ n5_ n6_ n7_ n8_ n9_ n10_ n11_ n12_ n13_ n14_ n15_ n16_ n17_ n18_ n19_ n20_; clear hb hbox hg; obtain ⟨Ao245, co245, eo245⟩ := Kd.R_slice HO380.out; subst eo245; have hnb246 := NB385_355.out; have hnc246 := NB355_385.out; have hnb247 := NB385_362.out; have hnc247 := NB362_385.out; have hnb248 := NB385_369.out; have hnc248 := NB369_385.out; have hnb249 := NB385_377.out; have hnc249 := NB377_385.out; obtain ⟨hcz250_0, hcz250_1, hcz250_2⟩ := cl3 BK385.out; obtain ⟨hfz250_0, hfz250_1, hfz250_2⟩ := fr3 BK385.out) | ((with_reducible refine gate_callee (f := 29) rfl ?_); refine goesL_ (some 51) rfl rfl Try.func29 B8x54_ rfl #[.int .i64 3] rfl B8x3_ ?_; (with_reducible refine (impl_RingNew.calls 3 t386 t389 t390 true _ A9.out).mono ?_); rintro e w251 ⟨v387, rfl, ho0, hb⟩; refine ⟨_, rfl, ?_⟩; have n0_ := Aside0.mk (Kd.R_elder' B8x74_ (Kd.R_base ho0) hb); have n1_ := Aside0.mk (Kd.R_elder' B8x77_ (Kd.R_base ho0) hb); have n2_ := Aside0.mk (Kd.R_elder' B8x80_ (Kd.R_base ho0) hb); have n3_ := Aside0.mk (Kd.R_elder' B8x83_ (Kd.R_base ho0) hb); have n4_ := Aside0.mk (Kd.R_elder' B8x86_ (Kd.R_base ho0) hb); have n5_ := Aside0.mk (Kd.R_lower (Kd.R_new' (Kd.R_new' (Kd.R_new' (Kd.R_new' (Kd.R_new' ho0 (Kd.R_lt B8x74_)) (Kd.R_lt B8x77_)) (Kd.R_lt B8x80_)) (Kd.R_lt B8x83_)) (Kd.R_lt B8x86_)) (below_size B8x6_)); have n6_ := Aside0.mk (blk_below (g := gb355) (o := .cells #[.slice Ao220 t349.length co220, .int .i64 t352, .int .i64 t353] 45 (0, 0)) B8x26_ hb); have n7_ := Aside0.mk (blk_below (g := gb362) (o := .cells #[.slice Ao224 t356.length co224, .int .i64 t359, .int .i64 t360] 45 (0, 0)) B8x30_ hb); have n8_ := Aside0.mk (blk_below (g := gb369) (o := .cells #[.slice Ao230 t363.length co230, .int .i64 t366, .int .i64 t367] 45 (0, 0)) B8x33_ hb); have n9_ := Aside0.mk (blk_below (g := gb377) (o := .cells #[.slice Ao237 t370.length co237, .int .i64 t373, .int .i64 t374] 45 (0, 0)) B8x35_ hb); have n10_ := Aside0.mk (blk_below (g := gb385) (o := .cells #[.slice Ao245 t378.length co245, .int .i64 t381, .int .i64 t382] 45 (0, 0)) (by (with_reducible repeat (first | refine blk_drewN ?_ _ | refine blk_drew ?_ | refine blk_alloc ?_ _)); refine blk_put (cs := #[.slice Ao245 t378.length co245, .int .i64 t381, .int .i64 0]) ?_ 2 _ rfl; (with_reducible repeat (first | refine blk_drewN ?_ _ | refine blk_drew ?_ | refine blk_alloc ?_ _)); refine blk_put (cs := #[.slice Ao245 t378.length co245, .int .i64 0, .int .i64 0]) ?_ 1 _ rfl; (with_reducible repeat (first | refine blk_drewN ?_ _ | refine blk_drew ?_ | refine blk_alloc ?_ _)); refine blk_put (cs := #[.slice none 0 0, .int .i64 0, .int .i64 0]) ?_ 0 _ rfl; (with_reducible repeat (first | refine blk_drewN ?_ _ | refine blk_drew ?_ | refine blk_alloc ?_ _)); exact BK385.out) hb); have n11_ := Aside0.mk (below_step B8x6_ hb); clear HO351; clear HO358; clear HO365; clear HO372; clear HO380; clear BK355; clear BK362; clear BK369; clear BK377; clear BK385; clear HB; have HO351 := n0_; have HO358 := n1_; have HO365 := n2_; have HO372 := n3_; have HO380 := n4_; have HO388 := n5_; have BK355 := n6_; have BK362 := n7_; have BK369 := n8_; have BK377 := n9_; have BK385 := n10_; have HB := n11_; clear n0_ n1_ n2_ n3_ n4_ n5_ n6_ n7_ n8_ n9_ n10_ n11_; (try clear hb); (try clear hb2); (try clear hk); (try clear hi); (try clear ho0)) | ((with_reducible refine gate_dst (N := 15) rfl ?_); (try (refine gate_guard (by rfl) ?_; dsimp only)); refine box_event ?hg (N := 15) ?hd (cs := #[.slice none 0 0, .int .i64 0, .int .i64 0]) (t := 45) ?hr ?_; (case hd => rfl); (case hg => rfl); (case hr => first | (go_simp; done) | (go_simp; rfl)); intro gb392 hg w252 hbox hb; have n0_ := Aside0.mk (Kd.R_below B8x10_ hb); have n1_ := Aside0.mk (Kd.R_below B8x12_ hb); have n2_ := Aside0.mk (Kd.R_below B8x14_ hb); have n3_ := Aside0.mk (Kd.R_below B8x15_ hb); have n4_ := Aside0.mk (Kd.R_below B8x18_ hb); have n5_ := Aside0.mk (Kd.R_below B8x20_ hb); have n6_ := Aside0.mk (blk_below (g := gb355) (o := .cells #[.slice Ao220 t349.length co220, .int .i64 t352, .int .i64 t353] 45 (0, 0)) B8x0_ hb); have n7_ := Aside0.mk (blk_below (g := gb362) (o := .cells #[.slice Ao224 t356.length co224, .int .i64 t359, .int .i64 t360] 45 (0, 0)) B8x1_ hb); have n8_ := Aside0.mk (blk_below (g := gb369) (o := .cells #[.slice Ao230 t363.length co230, .int .i64 t366, .int .i64 t367] 45 (0, 0)) B8x2_ hb); have n9_ := Aside0.mk (blk_below (g := gb377) (o := .cells #[.slice Ao237 t370.length co237, .int .i64 t373, .int .i64 t374] 45 (0, 0)) B8x5_ hb); have n10_ := Aside0.mk (blk_below (g := gb385) (o := .cells #[.slice Ao245 t378.length co245, .int .i64 t381, .int .i64 t382] 45 (0, 0)) B8x9_ hb); have n11_ := Aside0.mk (below_step B8x6_ hb); have n12_ := Aside0.mk (hbox); have n13_ := Aside0.mk ((by rw [hg]; exact (below_size B8x6_) : w.heap.size ≤ gb392)); have n14_ := Aside0.mk ((by rw [hg]; exact (below_size B8x6_) : w.heap.size ≤ gb392)); have n15_ := Aside0.mk ((by rw [hg]; exact Nat.ne_of_lt (blk_lt (g := gb355) (o := .cells #[.slice Ao220 t349.length co220, .int .i64 t352, .int .i64 t353] 45 (0, 0)) B8x0_) : gb355 ≠ gb392)); have n16_ := Aside0.mk ((by rw [hg]; exact Nat.ne_of_gt (blk_lt (g := gb355) (o := .cells #[.slice Ao220 t349.length co220, .int .i64 t352, .int .i64 t353] 45 (0, 0)) B8x0_) : gb392 ≠ gb355)); have n17_ := Aside0.mk ((by rw [hg]; exact Nat.ne_of_lt (blk_lt (g := gb362) (o := .cells #[.slice Ao224 t356.length co224, .int .i64 t359, .int .i64 t360] 45 (0, 0)) B8x1_) : gb362 ≠ gb392)); have n18_ := Aside0.mk ((by rw [hg]; exact Nat.ne_of_gt (blk_lt (g := gb362) (o := .cells #[.slice Ao224 t356.length co224, .int .i64 t359, .int .i64 t360] 45 (0, 0)) B8x1_) : gb392 ≠ gb362)); have n19_ := Aside0.mk ((by rw [hg]; exact Nat.ne_of_lt (blk_lt (g := gb369) (o := .cells #[.slice Ao230 t363.length co230, .int .i64 t366, .int .i64 t367] 45 (0, 0)) B8x2_) : gb369 ≠ gb392)); have n20_ := Aside0.mk ((by rw [hg]; exact Nat.ne_of_gt (blk_lt (g := gb369) (o := .cells #[.slice Ao230 t363.length co230, .int .i64 t366, .int .i64 t367] 45 (0, 0)) B8x2_) : gb392 ≠ gb369)); have n21_ := Aside0.mk ((by rw [hg]; exact Nat.ne_of_lt (blk_lt (g := gb377) (o := .cells #[.slice Ao237 t370.length co237, .int .i64 t373, .int .i64 t374] 45 (0, 0)) B8x5_) : gb377 ≠ gb392)); have n22_ := Aside0.mk ((by rw [hg]; exact Nat.ne_of_gt (blk_lt (g := gb377) (o := .cells #[.slice Ao237 t370.length co237, .int .i64 t373, .int .i64 t374] 45 (0, 0)) B8x5_) : gb392 ≠ gb377)); have n23_ := Aside0.mk ((by rw [hg]; exact Nat.ne_of_lt (blk_lt (g := gb385) (o := .cells #[.slice Ao245 t378.length co245, .int .i64 t381, .int .i64 t382] 45 (0, 0)) B8x9_) : gb385 ≠ gb392)); have n24_ := Aside0.mk ((by rw [hg]; exact Nat.ne_of_gt (blk_lt (g := gb385) (o := .cells #[.slice Ao245 t378.length co245, .int .i64 t381, .int .i64 t382] 45 (0, 0)) B8x9_) : gb392 ≠ gb385)); clear HO351; clear HO358; clear HO365; clear HO372; clear HO380; clear HO388; clear BK355; clear BK362; clear BK369; clear BK377; clear BK385; clear HB; have HO351 := n0_; have HO358 := n1_; have HO365 := n2_; have HO372 := n3_; have HO380 := n4_; have HO388 := n5_; have BK355 := n6_; have BK362 := n7_; have BK369 := n8_; have BK377 := n9_; have BK385 := n10_; have HB := n11_; have BK392 := n12_; have GW392 := n13_; have GE392 := n14_; have NB355_392 := n15_; have NB392_355 := n16_; have NB362_392 := n17_; have NB392_362 := n18_; have NB369_392 := n19_; have NB392_369 := n20_; have NB377_392 := n21_; have NB392_377 := n22_; have NB385_392 := n23_; have NB392_385 := n24_; clear n0_ n1_ n2_ n3_ n4_ n5_ n6_ n7_ n8_ n9_ n10_ n11_ n12_ n13_ n14_ n15_ n16_ n17_ n18_ n19_ n20_ n21_ n22_ n23_ n24_; clear hb hbox hg; obtain ⟨Ao253, co253, eo253⟩ := Kd.R_slice HO388.out; subst eo253; have hnb254 := NB392_355.out; have hnc254 := NB355_392.out; have hnb255 := NB392_362.out; have hnc255 := NB362_392.out; have hnb256 := NB392_369.out; have hnc256 := NB369_392.out; have hnb257 := NB392_377.out; have hnc257 := NB377_392.out; have hnb258 := NB392_385.out; have hnc258 := NB385_392.out; obtain ⟨hcz259_0, hcz259_1, hcz259_2⟩ := cl3 BK392.out; obtain ⟨hfz259_0, hfz259_1, hfz259_2⟩ := fr3 BK392.out) | ((with_reducible refine gate_callee (f := 29) rfl ?_); refine goesL_ (some 55) rfl rfl Try.func29 B8x54_ rfl #[.int .i64 9] rfl B8x3_ ?_; (with_reducible refine (impl_RingNew.calls 9 t393 t396 t397 false _ A10.out).mono ?_); rintro e w260 ⟨v394, rfl, ho0, hb⟩; refine ⟨_, rfl, ?_⟩; have n0_ := Aside0.mk (Kd.R_elder' B8x89_ (Kd.R_base ho0) hb); have n1_ := Aside0.mk (Kd.R_elder' B8x92_ (Kd.R_base ho0) hb); have n2_ := Aside0.mk (Kd.R_elder' B8x95_ (Kd.R_base ho0) hb); have n3_ := Aside0.mk (Kd.R_elder' B8x98_ (Kd.R_base ho0) hb); have n4_ := Aside0.mk (Kd.R_elder' B8x101_ (Kd.R_base ho0) hb); have n5_ := Aside0.mk (Kd.R_elder' B8x104_ (Kd.R_base ho0) hb); have n6_ := Aside0.mk (Kd.R_lower (Kd.R_new' (Kd.R_new' (Kd.R_new' (Kd.R_new' (Kd.R_new' (Kd.R_new' ho0 (Kd.R_lt B8x89_)) (Kd.R_lt B8x92_)) (Kd.R_lt B8x95_)) (Kd.R_lt B8x98_)) (Kd.R_lt B8x101_)) (Kd.R_lt B8x104_)) (below_size B8x4_)); have n7_ := Aside0.mk (blk_below (g := gb355) (o := .cells #[.slice Ao220 t349.length co220, .int .i64 t352, .int .i64 t353] 45 (0, 0)) B8x27_ hb); have n8_ := Aside0.mk (blk_below (g := gb362) (o := .cells #[.slice Ao224 t356.length co224, .int .i64 t359, .int .i64 t360] 45 (0, 0)) B8x31_ hb); have n9_ := Aside0.mk (blk_below (g := gb369) (o := .cells #[.slice Ao230 t363.length co230, .int .i64 t366, .int .i64 t367] 45 (0, 0)) B8x34_ hb); have n10_ := Aside0.mk (blk_below (g := gb377) (o := .cells #[.slice Ao237 t370.length co237, .int .i64 t373, .int .i64 t374] 45 (0, 0)) B8x36_ hb); have n11_ := Aside0.mk (blk_below (g := gb385) (o := .cells #[.slice Ao245 t378.length co245, .int .i64 t381, .int .i64 t382] 45 (0, 0)) B8x37_ hb); have n12_ := Aside0.mk (blk_below (g := gb392) (o := .cells #[.slice Ao253 t386.length co253, .int .i64 t389, .int .i64 t390] 45 (0, 0)) (by (with_reducible repeat (first | refine blk_drewN ?_ _ | refine blk_drew ?_ | refine blk_alloc ?_ _)); refine blk_put (cs := #[.slice Ao253 t386.length co253, .int .i64 t389, .int .i64 0]) ?_ 2 _ rfl; (with_reducible repeat (first | refine blk_drewN ?_ _ | refine blk_drew ?_ | refine blk_alloc ?_ _)); refine blk_put (cs := #[.slice Ao253 t386.length co253, .int .i64 0, .int .i64 0]) ?_ 1 _ rfl; (with_reducible repeat (first | refine blk_drewN ?_ _ | refine blk_drew ?_ | refine blk_alloc ?_ _)); refine blk_put (cs := #[.slice none 0 0, .int .i64 0, .int .i64 0]) ?_ 0 _ rfl; (with_reducible repeat (first | refine blk_drewN ?_ _ | refine blk_drew ?_ | refine blk_alloc ?_ _)); exact BK392.out) hb); have n13_ := Aside0.mk (below_step B8x4_ hb); clear HO351; clear HO358; clear HO365; clear HO372; clear HO380; clear HO388; clear BK355; clear BK362; clear BK369; clear BK377; clear BK385; clear BK392; clear HB; have HO351 := n0_; have HO358 := n1_; have HO365 := n2_; have HO372 := n3_; have HO380 := n4_; have HO388 := n5_; have HO395 := n6_; have BK355 := n7_; have BK362 := n8_; have BK369 := n9_; have BK377 := n10_; have BK385 := n11_; have BK392 := n12_; have HB := n13_; clear n0_ n1_ n2_ n3_ n4_ n5_ n6_ n7_ n8_ n9_ n10_ n11_ n12_ n13_; (try clear hb); (try clear hb2); (try clear hk); (try clear hi); (try clear ho0)) | ((with_reducible refine gate_dst (N := 17) rfl ?_); (try (refine gate_guard (by rfl) ?_; dsimp only)); refine box_event ?hg (N := 17) ?hd (cs := #[.slice none 0 0, .int .i64 0, .int .i64 0]) (t := 45) ?hr ?_; (case hd => rfl); (case hg => rfl); (case hr => first | (go_simp; done) | (go_simp; rfl)); intro gb399 hg w261 hbox hb; have n0_ := Aside0.mk (Kd.R_below B8x10_ hb); have n1_ := Aside0.mk (Kd.R_below B8x12_ hb); have n2_ := Aside0.mk (Kd.R_below B8x14_ hb); have n3_ := Aside0.mk (Kd.R_below B8x15_ hb); have n4_ := Aside0.mk (Kd.R_below B8x18_ hb); have n5_ := Aside0.mk (Kd.R_below B8x20_ hb); have n6_ := Aside0.mk (Kd.R_below B8x21_ hb); have n7_ := Aside0.mk (blk_below (g := gb355) (o := .cells #[.slice Ao220 t349.length co220, .int .i64 t352, .int .i64 t353] 45 (0, 0)) B8x0_ hb); have n8_ := Aside0.mk (blk_below (g := gb362) (o := .cells #[.slice Ao224 t356.length co224, .int .i64 t359, .int .i64 t360] 45 (0, 0)) B8x1_ hb); have n9_ := Aside0.mk (blk_below (g := gb369) (o := .cells #[.slice Ao230 t363.length co230, .int .i64 t366, .int .i64 t367] 45 (0, 0)) B8x2_ hb); have n10_ := Aside0.mk (blk_below (g := gb377) (o := .cells #[.slice Ao237 t370.length co237, .int .i64 t373, .int .i64 t374] 45 (0, 0)) B8x5_ hb); have n11_ := Aside0.mk (blk_below (g := gb385) (o := .cells #[.slice Ao245 t378.length co245, .int .i64 t381, .int .i64 t382] 45 (0, 0)) B8x9_ hb); have n12_ := Aside0.mk (blk_below (g := gb392) (o := .cells #[.slice Ao253 t386.length co253, .int .i64 t389, .int .i64 t390] 45 (0, 0)) B8x16_ hb); have n13_ := Aside0.mk (below_step B8x4_ hb); have n14_ := Aside0.mk (hbox); have n15_ := Aside0.mk ((by rw [hg]; exact (below_size B8x4_) : w.heap.size ≤ gb399)); have n16_ := Aside0.mk ((by rw [hg]; exact (below_size B8x4_) : w.heap.size ≤ gb399)); have n17_ := Aside0.mk ((by rw [hg]; exact Nat.ne_of_lt (blk_lt (g := gb355) (o := .cells #[.slice Ao220 t349.length co220, .int .i64 t352, .int .i64 t353] 45 (0, 0)) B8x0_) : gb355 ≠ gb399)); have n18_ := Aside0.mk ((by rw [hg]; exact Nat.ne_of_gt (blk_lt (g := gb355) (o := .cells #[.slice Ao220 t349.length co220, .int .i64 t352, .int .i64 t353] 45 (0, 0)) B8x0_) : gb399 ≠ gb355)); have n19_ := Aside0.mk ((by rw [hg]; exact Nat.ne_of_lt (blk_lt (g := gb362) (o := .cells #[.slice Ao224 t356.length co224, .int .i64 t359, .int .i64 t360] 45 (0, 0)) B8x1_) : gb362 ≠ gb399)); have n20_ := Aside0.mk ((by rw [hg]; exact Nat.ne_of_gt (blk_lt (g := gb362) (o := .cells #[.slice Ao224 t356.length co224, .int .i64 t359, .int .i64 t360] 45 (0, 0)) B8x1_) : gb399 ≠ gb362)); have n21_ := Aside0.mk ((by rw [hg]; exact Nat.ne_of_lt (blk_lt (g := gb369) (o := .cells #[.slice Ao230 t363.length co230, .int .i64 t366, .int .i64 t367] 45 (0, 0)) B8x2_) : gb369 ≠ gb399)); have n22_ := Aside0.mk ((by rw [hg]; exact Nat.ne_of_gt (blk_lt (g := gb369) (o := .cells #[.slice Ao230 t363.length co230, .int .i64 t366, .int .i64 t367] 45 (0, 0)) B8x2_) : gb399 ≠ gb369)); have n23_ := Aside0.mk ((by rw [hg]; exact Nat.ne_of_lt (blk_lt (g := gb377) (o := .cells #[.slice Ao237 t370.length co237, .int .i64 t373, .int .i64 t374] 45 (0, 0)) B8x5_) : gb377 ≠ gb399)); have n24_ := Aside0.mk ((by rw [hg]; exact Nat.ne_of_gt (blk_lt (g := gb377) (o := .cells #[.slice Ao237 t370.length co237, .int .i64 t373, .int .i64 t374] 45 (0, 0)) B8x5_) : gb399 ≠ gb377)); have n25_ := Aside0.mk ((by rw [hg]; exact Nat.ne_of_lt (blk_lt (g := gb385) (o := .cells #[.slice Ao245 t378.length co245, .int .i64 t381, .int .i64 t382] 45 (0, 0)) B8x9_) : gb385 ≠ gb399)); have n26_ := Aside0.mk ((by rw [hg]; exact Nat.ne_of_gt (blk_lt (g := gb385) (o := .cells #[.slice Ao245 t378.length co245, .int .i64 t381, .int .i64 t382] 45 (0, 0)) B8x9_) : gb399 ≠ gb385)); have n27_ := Aside0.mk ((by rw [hg]; exact Nat.ne_of_lt (blk_lt (g := gb392) (o := .cells #[.slice Ao253 t386.length co253, .int .i64 t389, .int .i64 t390] 45 (0, 0)) B8x16_) : gb392 ≠ gb399)); have n28_ := Aside0.mk ((by rw [hg]; exact Nat.ne_of_gt (blk_lt (g := gb392) (o := .cells #[.slice Ao253 t386.length co253, .int .i64 t389, .int .i64 t390] 45 (0, 0)) B8x16_) : gb399 ≠ gb392)); clear HO351; clear HO358; clear HO365; clear HO372; clear HO380; clear HO388; clear HO395; clear BK355; clear BK362; clear BK369; clear BK377; clear BK385; clear BK392; clear HB; have HO351 := n0_; have HO358 := n1_; have HO365 := n2_; have HO372 := n3_; have HO380 := n4_; have HO388 := n5_; have HO395 := n6_; have BK355 := n7_; have BK362 := n8_; have BK369 := n9_; have BK377 := n10_; have BK385 := n11_; have BK392 := n12_; have HB := n13_; have BK399 := n14_; have GW399 := n15_; have GE399 := n16_; have NB355_399 := n17_; have NB399_355 := n18_; have NB362_399 := n19_; have NB399_362 := n20_; have NB369_399 := n21_; have NB399_369 := n22_; have NB377_399 := n23_; have NB399_377 := n24_; have NB385_399 := n25_; have NB399_385 := n26_; have NB392_399 := n27_; have NB399_392 := n28_; clear n0_ n1_ n2_ n3_ n4_ n5_ n6_ n7_ n8_ n9_ n10_ n11_ n12_ n13_ n14_ n15_ n16_ n17_ n18_ n19_ n20_ n21_ n22_ n23_ n24_ n25_ n26_ n27_ n28_; clear hb hbox hg; obtain ⟨Ao262, co262, eo262⟩ := Kd.R_slice HO395.out; subst eo262; have hnb263 := NB399_355.out; have hnc263 := NB355_399.out; have hnb264 := NB399_362.out; have hnc264 := NB362_399.out; have hnb265 := NB399_369.out; have hnc265 := NB369_399.out; have hnb266 := NB399_377.out; have hnc266 := NB377_399.out; have hnb267 := NB399_385.out; have hnc267 := NB385_399.out; have hnb268 := NB399_392.out; have hnc268 := NB392_399.out; obtain ⟨hcz269_0, hcz269_1, hcz269_2⟩ := cl3 BK399.out; obtain ⟨hfz269_0, hfz269_1, hfz269_2⟩ := fr3 BK399.out))
              have n0_ : Aside0 (Kd.R k105 105 (((w261.setCell ⟨gb399, 0, none⟩ (.slice Ao262 t393.length co262)).setCell ⟨gb399, 1, none⟩ (.int .i64 t396)).setCell ⟨gb399, 2, none⟩ (.int .i64 t397)) w.heap.size (fun k_ => some k_ ≠ (.slice Ao224 t356.length co224 : Value).ownBlock ∧ some k_ ≠ (.slice Ao230 t363.length co230 : Value).ownBlock ∧ some k_ ≠ (.slice Ao237 t370.length co237 : Value).ownBlock ∧ some k_ ≠ (.slice Ao245 t378.length co245 : Value).ownBlock ∧ some k_ ≠ (.slice Ao253 t386.length co253 : Value).ownBlock ∧ some k_ ≠ (.slice Ao262 t393.length co262 : Value).ownBlock) (.slice Ao220 t349.length co220) t349) := ⟨by (with_reducible repeat (first | apply Kd.R_alloc | apply Kd.R_drewN | apply Kd.R_drew)); exact Kd.R_mono (Kd.R_far (p := ⟨gb399, 2, none⟩) (Kd.R_far (p := ⟨gb399, 1, none⟩) (Kd.R_far (p := ⟨gb399, 0, none⟩) (Kd.R_types HO351.out BK399.out (by decide)) (fun _ hk => hk.2) (.slice Ao262 t393.length co262)) (fun _ hk => hk.2) (.int .i64 t396)) (fun _ hk => hk.2) (.int .i64 t397)) (fun _ hk => ⟨hk.1.1.1.1.1.1.2, ⟨hk.1.1.1.1.1.2, ⟨hk.1.1.1.1.2, ⟨hk.1.1.1.2, ⟨hk.1.1.2, hk.1.2⟩⟩⟩⟩⟩)⟩
              have n1_ : Aside0 (Kd.R k105 105 (((w261.setCell ⟨gb399, 0, none⟩ (.slice Ao262 t393.length co262)).setCell ⟨gb399, 1, none⟩ (.int .i64 t396)).setCell ⟨gb399, 2, none⟩ (.int .i64 t397)) w.heap.size (fun k_ => some k_ ≠ (.slice Ao220 t349.length co220 : Value).ownBlock ∧ some k_ ≠ (.slice Ao230 t363.length co230 : Value).ownBlock ∧ some k_ ≠ (.slice Ao237 t370.length co237 : Value).ownBlock ∧ some k_ ≠ (.slice Ao245 t378.length co245 : Value).ownBlock ∧ some k_ ≠ (.slice Ao253 t386.length co253 : Value).ownBlock ∧ some k_ ≠ (.slice Ao262 t393.length co262 : Value).ownBlock) (.slice Ao224 t356.length co224) t356) := ⟨by (with_reducible repeat (first | apply Kd.R_alloc | apply Kd.R_drewN | apply Kd.R_drew)); exact Kd.R_mono (Kd.R_far (p := ⟨gb399, 2, none⟩) (Kd.R_far (p := ⟨gb399, 1, none⟩) (Kd.R_far (p := ⟨gb399, 0, none⟩) (Kd.R_types HO358.out BK399.out (by decide)) (fun _ hk => hk.2) (.slice Ao262 t393.length co262)) (fun _ hk => hk.2) (.int .i64 t396)) (fun _ hk => hk.2) (.int .i64 t397)) (fun _ hk => ⟨hk.1.1.1.1.1.1.2, ⟨hk.1.1.1.1.1.2, ⟨hk.1.1.1.1.2, ⟨hk.1.1.1.2, ⟨hk.1.1.2, hk.1.2⟩⟩⟩⟩⟩)⟩
              have n2_ : Aside0 (Kd.R k105 105 (((w261.setCell ⟨gb399, 0, none⟩ (.slice Ao262 t393.length co262)).setCell ⟨gb399, 1, none⟩ (.int .i64 t396)).setCell ⟨gb399, 2, none⟩ (.int .i64 t397)) w.heap.size (fun k_ => some k_ ≠ (.slice Ao220 t349.length co220 : Value).ownBlock ∧ some k_ ≠ (.slice Ao224 t356.length co224 : Value).ownBlock ∧ some k_ ≠ (.slice Ao237 t370.length co237 : Value).ownBlock ∧ some k_ ≠ (.slice Ao245 t378.length co245 : Value).ownBlock ∧ some k_ ≠ (.slice Ao253 t386.length co253 : Value).ownBlock ∧ some k_ ≠ (.slice Ao262 t393.length co262 : Value).ownBlock) (.slice Ao230 t363.length co230) t363) := ⟨by (with_reducible repeat (first | apply Kd.R_alloc | apply Kd.R_drewN | apply Kd.R_drew)); exact Kd.R_mono (Kd.R_far (p := ⟨gb399, 2, none⟩) (Kd.R_far (p := ⟨gb399, 1, none⟩) (Kd.R_far (p := ⟨gb399, 0, none⟩) (Kd.R_types HO365.out BK399.out (by decide)) (fun _ hk => hk.2) (.slice Ao262 t393.length co262)) (fun _ hk => hk.2) (.int .i64 t396)) (fun _ hk => hk.2) (.int .i64 t397)) (fun _ hk => ⟨hk.1.1.1.1.1.1.2, ⟨hk.1.1.1.1.1.2, ⟨hk.1.1.1.1.2, ⟨hk.1.1.1.2, ⟨hk.1.1.2, hk.1.2⟩⟩⟩⟩⟩)⟩
              have n3_ : Aside0 (Kd.R k105 105 (((w261.setCell ⟨gb399, 0, none⟩ (.slice Ao262 t393.length co262)).setCell ⟨gb399, 1, none⟩ (.int .i64 t396)).setCell ⟨gb399, 2, none⟩ (.int .i64 t397)) w.heap.size (fun k_ => some k_ ≠ (.slice Ao220 t349.length co220 : Value).ownBlock ∧ some k_ ≠ (.slice Ao224 t356.length co224 : Value).ownBlock ∧ some k_ ≠ (.slice Ao230 t363.length co230 : Value).ownBlock ∧ some k_ ≠ (.slice Ao245 t378.length co245 : Value).ownBlock ∧ some k_ ≠ (.slice Ao253 t386.length co253 : Value).ownBlock ∧ some k_ ≠ (.slice Ao262 t393.length co262 : Value).ownBlock) (.slice Ao237 t370.length co237) t370) := ⟨by (with_reducible repeat (first | apply Kd.R_alloc | apply Kd.R_drewN | apply Kd.R_drew)); exact Kd.R_mono (Kd.R_far (p := ⟨gb399, 2, none⟩) (Kd.R_far (p := ⟨gb399, 1, none⟩) (Kd.R_far (p := ⟨gb399, 0, none⟩) (Kd.R_types HO372.out BK399.out (by decide)) (fun _ hk => hk.2) (.slice Ao262 t393.length co262)) (fun _ hk => hk.2) (.int .i64 t396)) (fun _ hk => hk.2) (.int .i64 t397)) (fun _ hk => ⟨hk.1.1.1.1.1.1.2, ⟨hk.1.1.1.1.1.2, ⟨hk.1.1.1.1.2, ⟨hk.1.1.1.2, ⟨hk.1.1.2, hk.1.2⟩⟩⟩⟩⟩)⟩
              have n4_ : Aside0 (Kd.R k105 105 (((w261.setCell ⟨gb399, 0, none⟩ (.slice Ao262 t393.length co262)).setCell ⟨gb399, 1, none⟩ (.int .i64 t396)).setCell ⟨gb399, 2, none⟩ (.int .i64 t397)) w.heap.size (fun k_ => some k_ ≠ (.slice Ao220 t349.length co220 : Value).ownBlock ∧ some k_ ≠ (.slice Ao224 t356.length co224 : Value).ownBlock ∧ some k_ ≠ (.slice Ao230 t363.length co230 : Value).ownBlock ∧ some k_ ≠ (.slice Ao237 t370.length co237 : Value).ownBlock ∧ some k_ ≠ (.slice Ao253 t386.length co253 : Value).ownBlock ∧ some k_ ≠ (.slice Ao262 t393.length co262 : Value).ownBlock) (.slice Ao245 t378.length co245) t378) := ⟨by (with_reducible repeat (first | apply Kd.R_alloc | apply Kd.R_drewN | apply Kd.R_drew)); exact Kd.R_mono (Kd.R_far (p := ⟨gb399, 2, none⟩) (Kd.R_far (p := ⟨gb399, 1, none⟩) (Kd.R_far (p := ⟨gb399, 0, none⟩) (Kd.R_types HO380.out BK399.out (by decide)) (fun _ hk => hk.2) (.slice Ao262 t393.length co262)) (fun _ hk => hk.2) (.int .i64 t396)) (fun _ hk => hk.2) (.int .i64 t397)) (fun _ hk => ⟨hk.1.1.1.1.1.1.2, ⟨hk.1.1.1.1.1.2, ⟨hk.1.1.1.1.2, ⟨hk.1.1.1.2, ⟨hk.1.1.2, hk.1.2⟩⟩⟩⟩⟩)⟩
              have n5_ : Aside0 (Kd.R k105 105 (((w261.setCell ⟨gb399, 0, none⟩ (.slice Ao262 t393.length co262)).setCell ⟨gb399, 1, none⟩ (.int .i64 t396)).setCell ⟨gb399, 2, none⟩ (.int .i64 t397)) w.heap.size (fun k_ => some k_ ≠ (.slice Ao220 t349.length co220 : Value).ownBlock ∧ some k_ ≠ (.slice Ao224 t356.length co224 : Value).ownBlock ∧ some k_ ≠ (.slice Ao230 t363.length co230 : Value).ownBlock ∧ some k_ ≠ (.slice Ao237 t370.length co237 : Value).ownBlock ∧ some k_ ≠ (.slice Ao245 t378.length co245 : Value).ownBlock ∧ some k_ ≠ (.slice Ao262 t393.length co262 : Value).ownBlock) (.slice Ao253 t386.length co253) t386) := ⟨by (with_reducible repeat (first | apply Kd.R_alloc | apply Kd.R_drewN | apply Kd.R_drew)); exact Kd.R_mono (Kd.R_far (p := ⟨gb399, 2, none⟩) (Kd.R_far (p := ⟨gb399, 1, none⟩) (Kd.R_far (p := ⟨gb399, 0, none⟩) (Kd.R_types HO388.out BK399.out (by decide)) (fun _ hk => hk.2) (.slice Ao262 t393.length co262)) (fun _ hk => hk.2) (.int .i64 t396)) (fun _ hk => hk.2) (.int .i64 t397)) (fun _ hk => ⟨hk.1.1.1.1.1.1.2, ⟨hk.1.1.1.1.1.2, ⟨hk.1.1.1.1.2, ⟨hk.1.1.1.2, ⟨hk.1.1.2, hk.1.2⟩⟩⟩⟩⟩)⟩
              have n6_ : Aside0 (Kd.R k105 105 (((w261.setCell ⟨gb399, 0, none⟩ (.slice Ao262 t393.length co262)).setCell ⟨gb399, 1, none⟩ (.int .i64 t396)).setCell ⟨gb399, 2, none⟩ (.int .i64 t397)) w.heap.size (fun k_ => some k_ ≠ (.slice Ao220 t349.length co220 : Value).ownBlock ∧ some k_ ≠ (.slice Ao224 t356.length co224 : Value).ownBlock ∧ some k_ ≠ (.slice Ao230 t363.length co230 : Value).ownBlock ∧ some k_ ≠ (.slice Ao237 t370.length co237 : Value).ownBlock ∧ some k_ ≠ (.slice Ao245 t378.length co245 : Value).ownBlock ∧ some k_ ≠ (.slice Ao253 t386.length co253 : Value).ownBlock) (.slice Ao262 t393.length co262) t393) := ⟨by (with_reducible repeat (first | apply Kd.R_alloc | apply Kd.R_drewN | apply Kd.R_drew)); exact Kd.R_mono (Kd.R_far (p := ⟨gb399, 2, none⟩) (Kd.R_far (p := ⟨gb399, 1, none⟩) (Kd.R_far (p := ⟨gb399, 0, none⟩) (Kd.R_types HO395.out BK399.out (by decide)) (fun _ hk => hk.2) (.slice Ao262 t393.length co262)) (fun _ hk => hk.2) (.int .i64 t396)) (fun _ hk => hk.2) (.int .i64 t397)) (fun _ hk => ⟨hk.1.1.1.1.1.1.2, ⟨hk.1.1.1.1.1.2, ⟨hk.1.1.1.1.2, ⟨hk.1.1.1.2, ⟨hk.1.1.2, hk.1.2⟩⟩⟩⟩⟩)⟩
              have n7_ : Aside0 ((((w261.setCell ⟨gb399, 0, none⟩ (.slice Ao262 t393.length co262)).setCell ⟨gb399, 1, none⟩ (.int .i64 t396)).setCell ⟨gb399, 2, none⟩ (.int .i64 t397)).heap[gb355]? = some (.cells #[.slice Ao220 t349.length co220, .int .i64 t352, .int .i64 t353] 45 (0, 0))) := ⟨by (with_reducible repeat (first | refine blk_drewN ?_ _ | refine blk_drew ?_ | refine blk_alloc ?_ _)); refine blk_far ?_ NB355_399.out _; (with_reducible repeat (first | refine blk_drewN ?_ _ | refine blk_drew ?_ | refine blk_alloc ?_ _)); refine blk_far ?_ NB355_399.out _; (with_reducible repeat (first | refine blk_drewN ?_ _ | refine blk_drew ?_ | refine blk_alloc ?_ _)); refine blk_far ?_ NB355_399.out _; (with_reducible repeat (first | refine blk_drewN ?_ _ | refine blk_drew ?_ | refine blk_alloc ?_ _)); exact BK355.out⟩
              have n8_ : Aside0 ((((w261.setCell ⟨gb399, 0, none⟩ (.slice Ao262 t393.length co262)).setCell ⟨gb399, 1, none⟩ (.int .i64 t396)).setCell ⟨gb399, 2, none⟩ (.int .i64 t397)).heap[gb362]? = some (.cells #[.slice Ao224 t356.length co224, .int .i64 t359, .int .i64 t360] 45 (0, 0))) := ⟨by (with_reducible repeat (first | refine blk_drewN ?_ _ | refine blk_drew ?_ | refine blk_alloc ?_ _)); refine blk_far ?_ NB362_399.out _; (with_reducible repeat (first | refine blk_drewN ?_ _ | refine blk_drew ?_ | refine blk_alloc ?_ _)); refine blk_far ?_ NB362_399.out _; (with_reducible repeat (first | refine blk_drewN ?_ _ | refine blk_drew ?_ | refine blk_alloc ?_ _)); refine blk_far ?_ NB362_399.out _; (with_reducible repeat (first | refine blk_drewN ?_ _ | refine blk_drew ?_ | refine blk_alloc ?_ _)); exact BK362.out⟩
              have n9_ : Aside0 ((((w261.setCell ⟨gb399, 0, none⟩ (.slice Ao262 t393.length co262)).setCell ⟨gb399, 1, none⟩ (.int .i64 t396)).setCell ⟨gb399, 2, none⟩ (.int .i64 t397)).heap[gb369]? = some (.cells #[.slice Ao230 t363.length co230, .int .i64 t366, .int .i64 t367] 45 (0, 0))) := ⟨by (with_reducible repeat (first | refine blk_drewN ?_ _ | refine blk_drew ?_ | refine blk_alloc ?_ _)); refine blk_far ?_ NB369_399.out _; (with_reducible repeat (first | refine blk_drewN ?_ _ | refine blk_drew ?_ | refine blk_alloc ?_ _)); refine blk_far ?_ NB369_399.out _; (with_reducible repeat (first | refine blk_drewN ?_ _ | refine blk_drew ?_ | refine blk_alloc ?_ _)); refine blk_far ?_ NB369_399.out _; (with_reducible repeat (first | refine blk_drewN ?_ _ | refine blk_drew ?_ | refine blk_alloc ?_ _)); exact BK369.out⟩
              have n10_ : Aside0 ((((w261.setCell ⟨gb399, 0, none⟩ (.slice Ao262 t393.length co262)).setCell ⟨gb399, 1, none⟩ (.int .i64 t396)).setCell ⟨gb399, 2, none⟩ (.int .i64 t397)).heap[gb377]? = some (.cells #[.slice Ao237 t370.length co237, .int .i64 t373, .int .i64 t374] 45 (0, 0))) := ⟨by (with_reducible repeat (first | refine blk_drewN ?_ _ | refine blk_drew ?_ | refine blk_alloc ?_ _)); refine blk_far ?_ NB377_399.out _; (with_reducible repeat (first | refine blk_drewN ?_ _ | refine blk_drew ?_ | refine blk_alloc ?_ _)); refine blk_far ?_ NB377_399.out _; (with_reducible repeat (first | refine blk_drewN ?_ _ | refine blk_drew ?_ | refine blk_alloc ?_ _)); refine blk_far ?_ NB377_399.out _; (with_reducible repeat (first | refine blk_drewN ?_ _ | refine blk_drew ?_ | refine blk_alloc ?_ _)); exact BK377.out⟩
              have n11_ : Aside0 ((((w261.setCell ⟨gb399, 0, none⟩ (.slice Ao262 t393.length co262)).setCell ⟨gb399, 1, none⟩ (.int .i64 t396)).setCell ⟨gb399, 2, none⟩ (.int .i64 t397)).heap[gb385]? = some (.cells #[.slice Ao245 t378.length co245, .int .i64 t381, .int .i64 t382] 45 (0, 0))) := ⟨by (with_reducible repeat (first | refine blk_drewN ?_ _ | refine blk_drew ?_ | refine blk_alloc ?_ _)); refine blk_far ?_ NB385_399.out _; (with_reducible repeat (first | refine blk_drewN ?_ _ | refine blk_drew ?_ | refine blk_alloc ?_ _)); refine blk_far ?_ NB385_399.out _; (with_reducible repeat (first | refine blk_drewN ?_ _ | refine blk_drew ?_ | refine blk_alloc ?_ _)); refine blk_far ?_ NB385_399.out _; (with_reducible repeat (first | refine blk_drewN ?_ _ | refine blk_drew ?_ | refine blk_alloc ?_ _)); exact BK385.out⟩
              have n12_ : Aside0 ((((w261.setCell ⟨gb399, 0, none⟩ (.slice Ao262 t393.length co262)).setCell ⟨gb399, 1, none⟩ (.int .i64 t396)).setCell ⟨gb399, 2, none⟩ (.int .i64 t397)).heap[gb392]? = some (.cells #[.slice Ao253 t386.length co253, .int .i64 t389, .int .i64 t390] 45 (0, 0))) := ⟨by (with_reducible repeat (first | refine blk_drewN ?_ _ | refine blk_drew ?_ | refine blk_alloc ?_ _)); refine blk_far ?_ NB392_399.out _; (with_reducible repeat (first | refine blk_drewN ?_ _ | refine blk_drew ?_ | refine blk_alloc ?_ _)); refine blk_far ?_ NB392_399.out _; (with_reducible repeat (first | refine blk_drewN ?_ _ | refine blk_drew ?_ | refine blk_alloc ?_ _)); refine blk_far ?_ NB392_399.out _; (with_reducible repeat (first | refine blk_drewN ?_ _ | refine blk_drew ?_ | refine blk_alloc ?_ _)); exact BK392.out⟩
              have n13_ : Aside0 ((((w261.setCell ⟨gb399, 0, none⟩ (.slice Ao262 t393.length co262)).setCell ⟨gb399, 1, none⟩ (.int .i64 t396)).setCell ⟨gb399, 2, none⟩ (.int .i64 t397)).heap[gb399]? = some (.cells #[.slice Ao262 t393.length co262, .int .i64 t396, .int .i64 t397] 45 (0, 0))) := ⟨by (with_reducible repeat (first | refine blk_drewN ?_ _ | refine blk_drew ?_ | refine blk_alloc ?_ _)); refine blk_put (cs := #[.slice Ao262 t393.length co262, .int .i64 t396, .int .i64 0]) ?_ 2 _ rfl; (with_reducible repeat (first | refine blk_drewN ?_ _ | refine blk_drew ?_ | refine blk_alloc ?_ _)); refine blk_put (cs := #[.slice Ao262 t393.length co262, .int .i64 0, .int .i64 0]) ?_ 1 _ rfl; (with_reducible repeat (first | refine blk_drewN ?_ _ | refine blk_drew ?_ | refine blk_alloc ?_ _)); refine blk_put (cs := #[.slice none 0 0, .int .i64 0, .int .i64 0]) ?_ 0 _ rfl; (with_reducible repeat (first | refine blk_drewN ?_ _ | refine blk_drew ?_ | refine blk_alloc ?_ _)); exact BK399.out⟩
              have n14_ : Aside0 (Below w.heap.size w (((w261.setCell ⟨gb399, 0, none⟩ (.slice Ao262 t393.length co262)).setCell ⟨gb399, 1, none⟩ (.int .i64 t396)).setCell ⟨gb399, 2, none⟩ (.int .i64 t397))) := ⟨by repeat (first | (with_reducible first | exact HB.out | apply below_alloc | apply pw_below_drewN | apply below_drew1 | refine below_set ?_ GE355.out | refine below_set ?_ GE362.out | refine below_set ?_ GE369.out | refine below_set ?_ GE377.out | refine below_set ?_ GE385.out | refine below_set ?_ GE392.out | refine below_set ?_ GE399.out) | exact HB.out)⟩
              (try clear HO351)
              (try clear HO358)
              (try clear HO365)
              (try clear HO372)
              (try clear HO380)
              (try clear HO388)
              (try clear HO395)
              (try clear BK355)
              (try clear BK362)
              (try clear BK369)
              (try clear BK377)
              (try clear BK385)
              (try clear BK392)
              (try clear BK399)
              (try clear HB)
              generalize (((w261.setCell ⟨gb399, 0, none⟩ (.slice Ao262 t393.length co262)).setCell ⟨gb399, 1, none⟩ (.int .i64 t396)).setCell ⟨gb399, 2, none⟩ (.int .i64 t397)) = w270 at n0_ n1_ n2_ n3_ n4_ n5_ n6_ n7_ n8_ n9_ n10_ n11_ n12_ n13_ n14_ ⊢
              have HO351 := n0_
              have HO358 := n1_
              have HO365 := n2_
              have HO372 := n3_
              have HO380 := n4_
              have HO388 := n5_
              have HO395 := n6_
              have BK355 := n7_
              have BK362 := n8_
              have BK369 := n9_
              have BK377 := n10_
              have BK385 := n11_
              have BK392 := n12_
              have BK399 := n13_
              have HB := n14_
              clear n0_ n1_ n2_ n3_ n4_ n5_ n6_ n7_ n8_ n9_ n10_ n11_ n12_ n13_ n14_
              have n0_ := Aside0.mk (Kd.R_drew HO351.out)
              have n1_ := Aside0.mk (Kd.R_drew HO358.out)
              have n2_ := Aside0.mk (Kd.R_drew HO365.out)
              have n3_ := Aside0.mk (Kd.R_drew HO372.out)
              have n4_ := Aside0.mk (Kd.R_drew HO380.out)
              have n5_ := Aside0.mk (Kd.R_drew HO388.out)
              have n6_ := Aside0.mk (Kd.R_drew HO395.out)
              have n7_ := Aside0.mk (blk_drew BK355.out)
              have n8_ := Aside0.mk (blk_drew BK362.out)
              have n9_ := Aside0.mk (blk_drew BK369.out)
              have n10_ := Aside0.mk (blk_drew BK377.out)
              have n11_ := Aside0.mk (blk_drew BK385.out)
              have n12_ := Aside0.mk (blk_drew BK392.out)
              have n13_ := Aside0.mk (blk_drew BK399.out)
              have n14_ := Aside0.mk (below_drew1 HB.out)
              clear HO351
              clear HO358
              clear HO365
              clear HO372
              clear HO380
              clear HO388
              clear HO395
              clear BK355
              clear BK362
              clear BK369
              clear BK377
              clear BK385
              clear BK392
              clear BK399
              clear HB
              have HO351 := n0_
              have HO358 := n1_
              have HO365 := n2_
              have HO372 := n3_
              have HO380 := n4_
              have HO388 := n5_
              have HO395 := n6_
              have BK355 := n7_
              have BK362 := n8_
              have BK369 := n9_
              have BK377 := n10_
              have BK385 := n11_
              have BK392 := n12_
              have BK399 := n13_
              have HB := n14_
              clear n0_ n1_ n2_ n3_ n4_ n5_ n6_ n7_ n8_ n9_ n10_ n11_ n12_ n13_ n14_
              refine start_ (n := 70) (S := fun w' => w'.cell? ⟨gb355, 0, none⟩ = some (.slice Ao220 t349.length co220) ∧ w'.cell? ⟨gb355, 1, none⟩ = some (.int .i64 t352) ∧ w'.cell? ⟨gb355, 2, none⟩ = some (.int .i64 t353) ∧ w'.cell? ⟨gb362, 0, none⟩ = some (.slice Ao224 t356.length co224) ∧ w'.cell? ⟨gb362, 1, none⟩ = some (.int .i64 t359) ∧ w'.cell? ⟨gb362, 2, none⟩ = some (.int .i64 t360) ∧ w'.cell? ⟨gb377, 0, none⟩ = some (.slice Ao237 t370.length co237) ∧ w'.cell? ⟨gb377, 1, none⟩ = some (.int .i64 t373) ∧ w'.cell? ⟨gb377, 2, none⟩ = some (.int .i64 t374) ∧ w'.cell? ⟨gb392, 0, none⟩ = some (.slice Ao253 t386.length co253) ∧ w'.cell? ⟨gb392, 1, none⟩ = some (.int .i64 t389) ∧ w'.cell? ⟨gb392, 2, none⟩ = some (.int .i64 t390)) (ds := []) #[false, false, false, false, false, false, false, false, false, false, false, false, false, false, false, false, false, false, false, false, false, false, false, false, false, false, false, false, false, false, false, false, false, false, false, false, false, false, false, false, false, false, false, false, false, false, false, false, false, false, false, false, false, false, false, false, false, false, false, false, false, false, false, false, false, false, false, false, false, false] B8x54_ rfl rfl ⟨(blk_cell BK355.out 0).trans rfl, (blk_cell BK355.out 1).trans rfl, (blk_cell BK355.out 2).trans rfl, (blk_cell BK362.out 0).trans rfl, (blk_cell BK362.out 1).trans rfl, (blk_cell BK362.out 2).trans rfl, (blk_cell BK377.out 0).trans rfl, (blk_cell BK377.out 1).trans rfl, (blk_cell BK377.out 2).trans rfl, (blk_cell BK392.out 0).trans rfl, (blk_cell BK392.out 1).trans rfl, (blk_cell BK392.out 2).trans rfl⟩ (fun hHeld => ?_); refine with_tabW laws_FnRingsTold.tab10 laws_FnRingsTold.bits10 (fun HT_ HW_ => ?_)
              generalize w270.drew = w271 at HO351 HO358 HO365 HO372 HO380 HO388 HO395 BK355 BK362 BK369 BK377 BK385 BK392 BK399 HB hHeld ⊢
              refine ta_ 0 58 HT_ HW_ hHeld ?_
              refine ta_ 2 60 HT_ HW_ hHeld ?_
              refine one_ (i := 1) (N := some 59) #[true, true, true, false, false, false, false, false, false, false, false, false, false, false, false, false, false, false, false, false, false, false, false, false, false, false, false, false, false, false, false, false, false, false, false, false, false, false, false, false, false, false, false, false, false, false, false, false, false, false, false, false, false, false, false, false, false, false, false, false, false, false, false, false, false, false, false, false, false, false] rfl rfl (one_of HT_.out B8x54_) (by decide) (fun K hK => ?_)
              refine goes_ Try.func30 B8x54_ rfl #[.agg #[.slice Ao220 t349.length co220, .int .i64 t352, .int .i64 t353]] (by rfl) rfl rfl B8x3_ ?_
              with_reducible refine (impl_RingOk.calls k _ _ t349 t352 t353 t400 _ ?side1 ?side2 A11.out).mono ?_
              (case side1 => repeat (first | exact (Kd.R_reads' HO351.out).2.2 | (with_reducible refine Kd.C_alloc ?_ _) | (with_reducible refine Kd.C_drewN ?_ _) | (with_reducible refine Kd.C_drew ?_)))
              (case side2 => exact (Kd.R_reads' HO351.out).2.1)
              rintro e w272 ⟨rfl, hb⟩
              refine ⟨_, rfl, ?_⟩
              have n0_ := Aside0.mk (Kd.R_below B8x10_ hb)
              have n1_ := Aside0.mk (Kd.R_below B8x12_ hb)
              have n2_ := Aside0.mk (Kd.R_below B8x14_ hb)
              have n3_ := Aside0.mk (Kd.R_below B8x15_ hb)
              have n4_ := Aside0.mk (Kd.R_below B8x18_ hb)
              have n5_ := Aside0.mk (Kd.R_below B8x20_ hb)
              have n6_ := Aside0.mk (Kd.R_below B8x21_ hb)
              have n7_ := Aside0.mk (blk_below (g := gb355) (o := .cells #[.slice Ao220 t349.length co220, .int .i64 t352, .int .i64 t353] 45 (0, 0)) B8x0_ hb)
              have n8_ := Aside0.mk (blk_below (g := gb362) (o := .cells #[.slice Ao224 t356.length co224, .int .i64 t359, .int .i64 t360] 45 (0, 0)) B8x1_ hb)
              have n9_ := Aside0.mk (blk_below (g := gb369) (o := .cells #[.slice Ao230 t363.length co230, .int .i64 t366, .int .i64 t367] 45 (0, 0)) B8x2_ hb)
              have n10_ := Aside0.mk (blk_below (g := gb377) (o := .cells #[.slice Ao237 t370.length co237, .int .i64 t373, .int .i64 t374] 45 (0, 0)) B8x5_ hb)
              have n11_ := Aside0.mk (blk_below (g := gb385) (o := .cells #[.slice Ao245 t378.length co245, .int .i64 t381, .int .i64 t382] 45 (0, 0)) B8x9_ hb)
              have n12_ := Aside0.mk (blk_below (g := gb392) (o := .cells #[.slice Ao253 t386.length co253, .int .i64 t389, .int .i64 t390] 45 (0, 0)) B8x16_ hb)
              have n13_ := Aside0.mk (blk_below (g := gb399) (o := .cells #[.slice Ao262 t393.length co262, .int .i64 t396, .int .i64 t397] 45 (0, 0)) B8x22_ hb)
              have n14_ := Aside0.mk (below_step B8x7_ hb)
              clear HO351
              clear HO358
              clear HO365
              clear HO372
              clear HO380
              clear HO388
              clear HO395
              clear BK355
              clear BK362
              clear BK369
              clear BK377
              clear BK385
              clear BK392
              clear BK399
              clear HB
              have HO351 := n0_
              have HO358 := n1_
              have HO365 := n2_
              have HO372 := n3_
              have HO380 := n4_
              have HO388 := n5_
              have HO395 := n6_
              have BK355 := n7_
              have BK362 := n8_
              have BK369 := n9_
              have BK377 := n10_
              have BK385 := n11_
              have BK392 := n12_
              have BK399 := n13_
              have HB := n14_
              clear n0_ n1_ n2_ n3_ n4_ n5_ n6_ n7_ n8_ n9_ n10_ n11_ n12_ n13_ n14_
              (try clear hb)
              (try clear hb2)
              (try clear hk)
              (try clear hi)
              refine hK.out _ _ ⟨(blk_cell BK355.out 0).trans rfl, (blk_cell BK355.out 1).trans rfl, (blk_cell BK355.out 2).trans rfl, (blk_cell BK362.out 0).trans rfl, (blk_cell BK362.out 1).trans rfl, (blk_cell BK362.out 2).trans rfl, (blk_cell BK377.out 0).trans rfl, (blk_cell BK377.out 1).trans rfl, (blk_cell BK377.out 2).trans rfl, (blk_cell BK392.out 0).trans rfl, (blk_cell BK392.out 1).trans rfl, (blk_cell BK392.out 2).trans rfl⟩ (fun hHeld => ?_)
              clear hK K
              refine norm_ (a' := ?_) ?_ ?_
              rotate_left
              ·show Act.put _ (some 59) _ = _
               simp only [Act.put, List.setIfInBounds_toArray, List.set_cons_zero, List.set_cons_succ, i64_w, i32_w]
               rfl
              refine one_ (i := 3) (N := some 61) #[true, true, true, true, false, false, false, false, false, false, false, false, false, false, false, false, false, false, false, false, false, false, false, false, false, false, false, false, false, false, false, false, false, false, false, false, false, false, false, false, false, false, false, false, false, false, false, false, false, false, false, false, false, false, false, false, false, false, false, false, false, false, false, false, false, false, false, false, false, false] rfl rfl (one_of HT_.out B8x54_) (by decide) (fun K hK => ?_)
              refine goes_ Try.func31 B8x54_ rfl #[.agg #[.slice Ao220 t349.length co220, .int .i64 t352, .int .i64 t353]] (by rfl) rfl rfl B8x3_ ?_
              with_reducible refine (spec_RingOk.calls k _ _ t349 t352 t353 t401 _ ?side1 ?side2 A12.out).mono ?_
              (case side1 => repeat (first | exact (Kd.R_reads' HO351.out).2.2 | (with_reducible refine Kd.C_alloc ?_ _) | (with_reducible refine Kd.C_drewN ?_ _) | (with_reducible refine Kd.C_drew ?_)))
              (case side2 => exact (Kd.R_reads' HO351.out).2.1)
              rintro e w273 ⟨rfl, hb⟩
              refine ⟨_, rfl, ?_⟩
              have n0_ := Aside0.mk (Kd.R_below B8x10_ hb)
              have n1_ := Aside0.mk (Kd.R_below B8x12_ hb)
              have n2_ := Aside0.mk (Kd.R_below B8x14_ hb)
              have n3_ := Aside0.mk (Kd.R_below B8x15_ hb)
              have n4_ := Aside0.mk (Kd.R_below B8x18_ hb)
              have n5_ := Aside0.mk (Kd.R_below B8x20_ hb)
              have n6_ := Aside0.mk (Kd.R_below B8x21_ hb)
              have n7_ := Aside0.mk (blk_below (g := gb355) (o := .cells #[.slice Ao220 t349.length co220, .int .i64 t352, .int .i64 t353] 45 (0, 0)) B8x0_ hb)
              have n8_ := Aside0.mk (blk_below (g := gb362) (o := .cells #[.slice Ao224 t356.length co224, .int .i64 t359, .int .i64 t360] 45 (0, 0)) B8x1_ hb)
              have n9_ := Aside0.mk (blk_below (g := gb369) (o := .cells #[.slice Ao230 t363.length co230, .int .i64 t366, .int .i64 t367] 45 (0, 0)) B8x2_ hb)
              have n10_ := Aside0.mk (blk_below (g := gb377) (o := .cells #[.slice Ao237 t370.length co237, .int .i64 t373, .int .i64 t374] 45 (0, 0)) B8x5_ hb)
              have n11_ := Aside0.mk (blk_below (g := gb385) (o := .cells #[.slice Ao245 t378.length co245, .int .i64 t381, .int .i64 t382] 45 (0, 0)) B8x9_ hb)
              have n12_ := Aside0.mk (blk_below (g := gb392) (o := .cells #[.slice Ao253 t386.length co253, .int .i64 t389, .int .i64 t390] 45 (0, 0)) B8x16_ hb)
              have n13_ := Aside0.mk (blk_below (g := gb399) (o := .cells #[.slice Ao262 t393.length co262, .int .i64 t396, .int .i64 t397] 45 (0, 0)) B8x22_ hb)
              have n14_ := Aside0.mk (below_step B8x7_ hb)
              clear HO351
              clear HO358
              clear HO365
              clear HO372
              clear HO380
              clear HO388
              clear HO395
              clear BK355
              clear BK362
              clear BK369
              clear BK377
              clear BK385
              clear BK392
              clear BK399
              clear HB
              have HO351 := n0_
              have HO358 := n1_
              have HO365 := n2_
              have HO372 := n3_
              have HO380 := n4_
              have HO388 := n5_
              have HO395 := n6_
              have BK355 := n7_
              have BK362 := n8_
              have BK369 := n9_
              have BK377 := n10_
              have BK385 := n11_
              have BK392 := n12_
              have BK399 := n13_
              have HB := n14_
              clear n0_ n1_ n2_ n3_ n4_ n5_ n6_ n7_ n8_ n9_ n10_ n11_ n12_ n13_ n14_
              (try clear hb)
              (try clear hb2)
              (try clear hk)
              (try clear hi)
              refine hK.out _ _ ⟨(blk_cell BK355.out 0).trans rfl, (blk_cell BK355.out 1).trans rfl, (blk_cell BK355.out 2).trans rfl, (blk_cell BK362.out 0).trans rfl, (blk_cell BK362.out 1).trans rfl, (blk_cell BK362.out 2).trans rfl, (blk_cell BK377.out 0).trans rfl, (blk_cell BK377.out 1).trans rfl, (blk_cell BK377.out 2).trans rfl, (blk_cell BK392.out 0).trans rfl, (blk_cell BK392.out 1).trans rfl, (blk_cell BK392.out 2).trans rfl⟩ (fun hHeld => ?_)
              clear hK K
              refine norm_ (a' := ?_) ?_ ?_
              rotate_left
              ·show Act.put _ (some 61) _ = _
               simp only [Act.put, List.setIfInBounds_toArray, List.set_cons_zero, List.set_cons_succ, i64_w, i32_w]
               rfl
              refine pu_ 4 62 HT_ ?_
              refine pu_ 5 63 HT_ ?_
              refine pu_ 6 64 HT_ ?_
              refine pu_ 7 65 HT_ ?_
              refine pu_ 8 66 HT_ ?_
              refine pu_ 9 67 HT_ ?_
              refine pu_ 10 68 HT_ ?_
              refine pu_ 11 69 HT_ ?_
              refine pu_ 12 70 HT_ ?_
              refine pu_ 13 71 HT_ ?_
              refine pu_ 14 72 HT_ ?_
              refine pu_ 15 73 HT_ ?_
              refine pu_ 16 74 HT_ ?_
              refine pu_ 17 75 HT_ ?_
              refine pu_ 18 76 HT_ ?_
              refine pu_ 19 77 HT_ ?_
              refine pu_ 20 78 HT_ ?_
              refine pu_ 21 79 HT_ ?_
              refine pu_ 22 80 HT_ ?_
              refine pu_ 23 81 HT_ ?_
              refine pu_ 26 84 HT_ ?_
              refine ta_ 24 82 HT_ HW_ hHeld ?_
              refine pu_ 25 83 HT_ ?_
              refine ta_ 27 85 HT_ HW_ hHeld ?_
              refine pu_ 28 86 HT_ ?_
              refine pu_ 29 87 HT_ ?_
              refine pu_ 30 88 HT_ ?_
              refine pu_ 31 89 HT_ ?_
              refine pu_ 33 91 HT_ ?_
              refine ta_ 32 90 HT_ HW_ hHeld ?_
              refine ta_ 34 92 HT_ HW_ hHeld ?_
              refine pu_ 35 93 HT_ ?_
              refine pu_ 36 94 HT_ ?_
              refine pu_ 37 95 HT_ ?_
              refine pu_ 38 96 HT_ ?_
              refine pu_ 39 97 HT_ ?_
              refine pu_ 40 98 HT_ ?_
              refine pu_ 41 99 HT_ ?_
              refine pu_ 42 100 HT_ ?_
              refine pu_ 44 102 HT_ ?_
              refine ta_ 43 101 HT_ HW_ hHeld ?_
              refine ta_ 45 103 HT_ HW_ hHeld ?_
              refine pu_ 46 104 HT_ ?_
              refine pu_ 47 105 HT_ ?_
              refine pu_ 48 106 HT_ ?_
              refine pu_ 49 107 HT_ ?_
              refine pu_ 50 108 HT_ ?_
              refine pu_ 51 109 HT_ ?_
              refine pu_ 52 110 HT_ ?_
              refine pu_ 53 111 HT_ ?_
              refine pu_ 54 112 HT_ ?_
              refine pu_ 55 113 HT_ ?_
              refine pu_ 56 114 HT_ ?_
              refine pu_ 57 115 HT_ ?_
              refine ta_ 58 116 HT_ HW_ hHeld ?_
              refine pu_ 59 117 HT_ ?_
              refine pu_ 60 118 HT_ ?_
              refine pu_ 61 119 HT_ ?_
              refine pu_ 62 120 HT_ ?_
              refine ta_ 63 121 HT_ HW_ hHeld ?_
              refine ta_ 65 123 HT_ HW_ hHeld ?_
              refine one_ (i := 64) (N := some 122) #[true, true, true, true, true, true, true, true, true, true, true, true, true, true, true, true, true, true, true, true, true, true, true, true, true, true, true, true, true, true, true, true, true, true, true, true, true, true, true, true, true, true, true, true, true, true, true, true, true, true, true, true, true, true, true, true, true, true, true, true, true, true, true, true, true, true, false, false, false, false] rfl rfl (one_of HT_.out B8x54_) (by decide) (fun K hK => ?_)
              refine goes_ Try.func32 B8x54_ rfl #[.agg #[.slice Ao220 t349.length co220, .int .i64 t352, .int .i64 t353]] (by rfl) rfl rfl B8x3_ ?_
              with_reducible refine (impl_HeldBy.calls k _ _ t349 t352 t353 t408 _ ?side1 ?side2 A216.out).mono ?_
              (case side1 => repeat (first | exact (Kd.R_reads' HO351.out).2.2 | (with_reducible refine Kd.C_alloc ?_ _) | (with_reducible refine Kd.C_drewN ?_ _) | (with_reducible refine Kd.C_drew ?_)))
              (case side2 => exact (Kd.R_reads' HO351.out).2.1)
              rintro e w274 ⟨rfl, hb⟩
              refine ⟨_, rfl, ?_⟩
              have n0_ := Aside0.mk (Kd.R_below B8x10_ hb)
              have n1_ := Aside0.mk (Kd.R_below B8x12_ hb)
              have n2_ := Aside0.mk (Kd.R_below B8x14_ hb)
              have n3_ := Aside0.mk (Kd.R_below B8x15_ hb)
              have n4_ := Aside0.mk (Kd.R_below B8x18_ hb)
              have n5_ := Aside0.mk (Kd.R_below B8x20_ hb)
              have n6_ := Aside0.mk (Kd.R_below B8x21_ hb)
              have n7_ := Aside0.mk (blk_below (g := gb355) (o := .cells #[.slice Ao220 t349.length co220, .int .i64 t352, .int .i64 t353] 45 (0, 0)) B8x0_ hb)
              have n8_ := Aside0.mk (blk_below (g := gb362) (o := .cells #[.slice Ao224 t356.length co224, .int .i64 t359, .int .i64 t360] 45 (0, 0)) B8x1_ hb)
              have n9_ := Aside0.mk (blk_below (g := gb369) (o := .cells #[.slice Ao230 t363.length co230, .int .i64 t366, .int .i64 t367] 45 (0, 0)) B8x2_ hb)
              have n10_ := Aside0.mk (blk_below (g := gb377) (o := .cells #[.slice Ao237 t370.length co237, .int .i64 t373, .int .i64 t374] 45 (0, 0)) B8x5_ hb)
              have n11_ := Aside0.mk (blk_below (g := gb385) (o := .cells #[.slice Ao245 t378.length co245, .int .i64 t381, .int .i64 t382] 45 (0, 0)) B8x9_ hb)
              have n12_ := Aside0.mk (blk_below (g := gb392) (o := .cells #[.slice Ao253 t386.length co253, .int .i64 t389, .int .i64 t390] 45 (0, 0)) B8x16_ hb)
              have n13_ := Aside0.mk (blk_below (g := gb399) (o := .cells #[.slice Ao262 t393.length co262, .int .i64 t396, .int .i64 t397] 45 (0, 0)) B8x22_ hb)
              have n14_ := Aside0.mk (below_step B8x7_ hb)
              clear HO351
              clear HO358
              clear HO365
              clear HO372
              clear HO380
              clear HO388
              clear HO395
              clear BK355
              clear BK362
              clear BK369
              clear BK377
              clear BK385
              clear BK392
              clear BK399
              clear HB
              have HO351 := n0_
              have HO358 := n1_
              have HO365 := n2_
              have HO372 := n3_
              have HO380 := n4_
              have HO388 := n5_
              have HO395 := n6_
              have BK355 := n7_
              have BK362 := n8_
              have BK369 := n9_
              have BK377 := n10_
              have BK385 := n11_
              have BK392 := n12_
              have BK399 := n13_
              have HB := n14_
              clear n0_ n1_ n2_ n3_ n4_ n5_ n6_ n7_ n8_ n9_ n10_ n11_ n12_ n13_ n14_
              (try clear hb)
              (try clear hb2)
              (try clear hk)
              (try clear hi)
              refine hK.out _ _ ⟨(blk_cell BK355.out 0).trans rfl, (blk_cell BK355.out 1).trans rfl, (blk_cell BK355.out 2).trans rfl, (blk_cell BK362.out 0).trans rfl, (blk_cell BK362.out 1).trans rfl, (blk_cell BK362.out 2).trans rfl, (blk_cell BK377.out 0).trans rfl, (blk_cell BK377.out 1).trans rfl, (blk_cell BK377.out 2).trans rfl, (blk_cell BK392.out 0).trans rfl, (blk_cell BK392.out 1).trans rfl, (blk_cell BK392.out 2).trans rfl⟩ (fun hHeld => ?_)
              clear hK K
              refine norm_ (a' := ?_) ?_ ?_
              rotate_left
              ·show Act.put _ (some 122) _ = _
               simp only [Act.put, List.setIfInBounds_toArray, List.set_cons_zero, List.set_cons_succ, i64_w, i32_w]
               rfl
              refine one_ (i := 66) (N := some 124) #[true, true, true, true, true, true, true, true, true, true, true, true, true, true, true, true, true, true, true, true, true, true, true, true, true, true, true, true, true, true, true, true, true, true, true, true, true, true, true, true, true, true, true, true, true, true, true, true, true, true, true, true, true, true, true, true, true, true, true, true, true, true, true, true, true, true, true, false, false, false] rfl rfl (one_of HT_.out B8x54_) (by decide) (fun K hK => ?_)
              refine goes_ Try.func33 B8x54_ rfl #[.agg #[.slice Ao220 t349.length co220, .int .i64 t352, .int .i64 t353]] (by rfl) rfl rfl B8x3_ ?_
              with_reducible refine (spec_HeldBy.calls k _ _ t349 t352 t353 t409 _ ?side1 ?side2 A217.out).mono ?_
              (case side1 => repeat (first | exact (Kd.R_reads' HO351.out).2.2 | (with_reducible refine Kd.C_alloc ?_ _) | (with_reducible refine Kd.C_drewN ?_ _) | (with_reducible refine Kd.C_drew ?_)))
              (case side2 => exact (Kd.R_reads' HO351.out).2.1)
              rintro e w275 ⟨rfl, hb⟩
              refine ⟨_, rfl, ?_⟩
              have n0_ := Aside0.mk (Kd.R_below B8x10_ hb)
              have n1_ := Aside0.mk (Kd.R_below B8x12_ hb)
              have n2_ := Aside0.mk (Kd.R_below B8x14_ hb)
              have n3_ := Aside0.mk (Kd.R_below B8x15_ hb)
              have n4_ := Aside0.mk (Kd.R_below B8x18_ hb)
              have n5_ := Aside0.mk (Kd.R_below B8x20_ hb)
              have n6_ := Aside0.mk (Kd.R_below B8x21_ hb)
              have n7_ := Aside0.mk (blk_below (g := gb355) (o := .cells #[.slice Ao220 t349.length co220, .int .i64 t352, .int .i64 t353] 45 (0, 0)) B8x0_ hb)
              have n8_ := Aside0.mk (blk_below (g := gb362) (o := .cells #[.slice Ao224 t356.length co224, .int .i64 t359, .int .i64 t360] 45 (0, 0)) B8x1_ hb)
              have n9_ := Aside0.mk (blk_below (g := gb369) (o := .cells #[.slice Ao230 t363.length co230, .int .i64 t366, .int .i64 t367] 45 (0, 0)) B8x2_ hb)
              have n10_ := Aside0.mk (blk_below (g := gb377) (o := .cells #[.slice Ao237 t370.length co237, .int .i64 t373, .int .i64 t374] 45 (0, 0)) B8x5_ hb)
              have n11_ := Aside0.mk (blk_below (g := gb385) (o := .cells #[.slice Ao245 t378.length co245, .int .i64 t381, .int .i64 t382] 45 (0, 0)) B8x9_ hb)
              have n12_ := Aside0.mk (blk_below (g := gb392) (o := .cells #[.slice Ao253 t386.length co253, .int .i64 t389, .int .i64 t390] 45 (0, 0)) B8x16_ hb)
              have n13_ := Aside0.mk (blk_below (g := gb399) (o := .cells #[.slice Ao262 t393.length co262, .int .i64 t396, .int .i64 t397] 45 (0, 0)) B8x22_ hb)
              have n14_ := Aside0.mk (below_step B8x7_ hb)
              clear HO351
              clear HO358
              clear HO365
              clear HO372
              clear HO380
              clear HO388
              clear HO395
              clear BK355
              clear BK362
              clear BK369
              clear BK377
              clear BK385
              clear BK392
              clear BK399
              clear HB
              have HO351 := n0_
              have HO358 := n1_
              have HO365 := n2_
              have HO372 := n3_
              have HO380 := n4_
              have HO388 := n5_
              have HO395 := n6_
              have BK355 := n7_
              have BK362 := n8_
              have BK369 := n9_
              have BK377 := n10_
              have BK385 := n11_
              have BK392 := n12_
              have BK399 := n13_
              have HB := n14_
              clear n0_ n1_ n2_ n3_ n4_ n5_ n6_ n7_ n8_ n9_ n10_ n11_ n12_ n13_ n14_
              (try clear hb)
              (try clear hb2)
              (try clear hk)
              (try clear hi)
              refine hK.out _ _ ⟨(blk_cell BK355.out 0).trans rfl, (blk_cell BK355.out 1).trans rfl, (blk_cell BK355.out 2).trans rfl, (blk_cell BK362.out 0).trans rfl, (blk_cell BK362.out 1).trans rfl, (blk_cell BK362.out 2).trans rfl, (blk_cell BK377.out 0).trans rfl, (blk_cell BK377.out 1).trans rfl, (blk_cell BK377.out 2).trans rfl, (blk_cell BK392.out 0).trans rfl, (blk_cell BK392.out 1).trans rfl, (blk_cell BK392.out 2).trans rfl⟩ (fun hHeld => ?_)
              clear hK K
              refine norm_ (a' := ?_) ?_ ?_
              rotate_left
              ·show Act.put _ (some 124) _ = _
               simp only [Act.put, List.setIfInBounds_toArray, List.set_cons_zero, List.set_cons_succ, i64_w, i32_w]
               rfl
              refine pu_ 67 125 HT_ ?_
              refine pu_ 68 126 HT_ ?_
              refine pu_ 69 2 HT_ ?_
              refine done_ (done_of HT_.out B8x54_) ?_
              try go_wp2
              go_ret
              exact ⟨by first | rfl | (simp [errW_none, errW_some] <;> rfl) | (simp [*, errW_none, errW_some] <;> rfl), by repeat (first | (with_reducible first | exact HB.out | apply below_alloc | apply pw_below_drewN | apply below_drew1 | refine below_set ?_ GE355.out | refine below_set ?_ GE362.out | refine below_set ?_ GE369.out | refine below_set ?_ GE377.out | refine below_set ?_ GE385.out | refine below_set ?_ GE392.out | refine below_set ?_ GE399.out) | exact HB.out)⟩
             ·rw [if_neg c215] at H
              have c215b0 : ((t386.length : Int) == 3) = false := beq_eq_false_iff_ne.mpr c215
              have c215b1 : ((t386.length : Int) != 3) = true := bne_iff_ne.mpr c215
              exact absurd ((Option.some.inj H).trans hr_.out) (by decide)
           ·replace c213 := Bool.eq_false_iff.mpr c213
            subst c213
            rw [if_neg (show ¬ (false = true) by decide)] at H
            exact absurd ((Option.some.inj H).trans hr_.out) (by decide)
          ·rw [if_neg c212] at H
           have c212b0 : (t374 == t353) = false := beq_eq_false_iff_ne.mpr c212
           have c212b1 : (t374 != t353) = true := bne_iff_ne.mpr c212
           exact absurd ((Option.some.inj H).trans hr_.out) (by decide)
        ·rw [if_neg c147] at H
         have c147b0 : (t359 == t352) = false := beq_eq_false_iff_ne.mpr c147
         have c147b1 : (t359 != t352) = true := bne_iff_ne.mpr c147
         exact absurd ((Option.some.inj H).trans hr_.out) (by decide)
       ·rw [if_neg c146] at H
        have c146b0 : ((t356.length : Int) == (t349.length : Int)) = false := beq_eq_false_iff_ne.mpr c146
        have c146b1 : ((t356.length : Int) != (t349.length : Int)) = true := bne_iff_ne.mpr c146
        have c146b2 : (t356.length == t349.length) = false := by first | simpa using c146 | (simp at c146 ⊢; omega)
        exact absurd ((Option.some.inj H).trans hr_.out) (by decide)
     ·rw [if_neg c16] at H
      have c16b0 : (t375.toList == t383.toList) = false := beq_eq_false_iff_ne.mpr c16
      have c16b1 : (t375.toList != t383.toList) = true := bne_iff_ne.mpr c16
      exact absurd ((Option.some.inj H).trans hr_.out) (by decide)
    ·rw [if_neg c15] at H
     have c15b0 : (t376 == t384) = false := by simpa using c15
     (try (have c15b1 : decide (t376 = t384) = false := by simpa using c15))
     (try (have c15b2 : (t376 == t384) = false := by simpa using c15))
     (try (have c15b3 : ¬ (t376 = t384) := by simpa using c15))
     clear c15
     exact absurd ((Option.some.inj H).trans hr_.out) (by decide)
   ·rw [if_neg c14] at H
    have c14b0 : (t361 == t368) = false := by simpa using c14
    (try (have c14b1 : decide (t361 = t368) = false := by simpa using c14))
    (try (have c14b2 : (t361 == t368) = false := by simpa using c14))
    (try (have c14b3 : ¬ (t361 = t368) := by simpa using c14))
    clear c14
    exact absurd ((Option.some.inj H).trans hr_.out) (by decide)
  ·rw [if_neg c13] at H
   have c13b0 : (t400 == t401) = false := by simpa using c13
   (try (have c13b1 : decide (t400 = t401) = false := by simpa using c13))
   (try (have c13b2 : (t400 == t401) = false := by simpa using c13))
   (try (have c13b3 : ¬ (t400 = t401) := by simpa using c13))
   clear c13
   exact absurd ((Option.some.inj H).trans hr_.out) (by decide)
set_option maxHeartbeats 8000000 in
set_option maxRecDepth 100000 in
theorem laws_FnRingsTold.calls (k : Nat) (A0 : Option Addr) (c0 : Nat) (l0 : List Int) (r : Bool) (w : World) (hr0 : Kd.C (Kd.int .u8) w A0 l0.length l0) (hc0 : l0.length ≤ c0) (h : laws_FnRingsTold.f k l0 = some r) (hr_ : Aside0 (r = true)) :
  Calls Try.prog 5 #[.slice A0 l0.length c0] w fun e w' => e = .returned (.bool r) ∧ Below w.heap.size w w' := by
 rcases hd : spec_DrawPostRing.f k l0 with _ | ⟨a, b, c, d⟩
 ·exact laws_FnRingsTold.callsA k A0 c0 l0 r w hr0 hc0 h hr_ ⟨by intro a b c d e f g t h1 _; rw [hd] at h1; cases h1⟩
 ·rcases hp : impl_PostRing.f k a b c d with _ | ⟨e, f, g, t⟩
  ·exact laws_FnRingsTold.callsA k A0 c0 l0 r w hr0 hc0 h hr_ ⟨by intro a' b' c' d' e f g t h1 h2; rw [hd] at h1; simp only [Option.some.injEq, Prod.mk.injEq] at h1; obtain ⟨rfl, rfl, rfl, rfl⟩ := h1; rw [hp] at h2; cases h2⟩
  ·cases t with
   | true => exact laws_FnRingsTold.callsA k A0 c0 l0 r w hr0 hc0 h hr_ ⟨by intro a' b' c' d' e' f' g' t' h1 h2; rw [hd] at h1; simp only [Option.some.injEq, Prod.mk.injEq] at h1; obtain ⟨rfl, rfl, rfl, rfl⟩ := h1; rw [hp] at h2; simp only [Option.some.injEq, Prod.mk.injEq] at h2; exact h2.2.2.2.symm⟩
   | false => exact laws_FnRingsTold.callsB k A0 c0 l0 r w hr0 hc0 h hr_ ⟨by intro a' b' c' d' e' f' g' t' h1 h2; rw [hd] at h1; simp only [Option.some.injEq, Prod.mk.injEq] at h1; obtain ⟨rfl, rfl, rfl, rfl⟩ := h1; rw [hp] at h2; simp only [Option.some.injEq, Prod.mk.injEq] at h2; exact h2.2.2.2.symm⟩

/-- THE ONE PURE STATEMENT of laws_FnRingsTold: yours. -/
def laws_FnRingsTold.Pure : Prop := ∀ (l0 : List Int), l0.length ≤ maxLen → l0.length * 1 ≤ 140737488351232 → (∀ x ∈ l0, (Lit.int .u8 x).wf = true) → ∃ k, laws_FnRingsTold.f k l0 = some true
theorem laws_FnRingsTold.walk (P : laws_FnRingsTold.Pure) (a0 : Option Addr) (len0 cap0 : Nat) (z0 : List Int) (w : World) (w0 : (a0 = none ∧ len0 = 0 ∧ cap0 = 0 ∧ z0 = []) ∨ ∃ x, a0 = some x ∧ len0 ≤ cap0 ∧ cap0 ≤ maxLen ∧ z0.length = cap0 ∧ (∀ i, i < z0.length → w.cell? (x.add i) = some (.int .u8 (z0.getD i 0))) ∧ ∀ n ∈ z0, (Lit.int .u8 n).wf = true) (y0 : len0 * 1 ≤ 140737488351232) :
  Calls Try.prog 5 #[.slice a0 len0 cap0] w fun e w' => e = .returned (.bool true) ∧ Below w.heap.size w w' := by
 obtain ⟨l0, rfl, hr0, hm0, hw0, hc0⟩ := ReadsInt.ofRowC w0
 obtain ⟨k, h⟩ := P l0 hm0 y0 hw0
 refine (laws_FnRingsTold.calls k _ _ l0 true w (Kd.C_of_reads (d := (0 : Int)) (h1 := fun _ => rfl) hr0) hc0 h ⟨rfl⟩).mono ?_
 rintro e w' ⟨rfl, hd⟩
 exact ⟨rfl, hd⟩

end Go.Proofs.Ytideegpoakkgeaa.QFnRingsTold
