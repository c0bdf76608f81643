/- Functions that a law reaches, as functions of Lean, and the walks that show that the calls come to their answers: written by a program of this project out of the translation. No condition. -/
import Derived.Test.YtmknnoeggkgkgaaQFnExactJoinBitsx0
import Derived.Test.YtmknnoeggkgkgaaVFnExactJoinBitshort4
import Derived.Test.YtmknnoeggkgkgaaVFnExactJoinBitshort3
import Derived.Test.YtmknnoeggkgkgaaVFnExactJoinBitsShort2
import Derived.Test.YtmknnoeggkgkgaaVFnExactJoinBitsShort
namespace Go.Proofs.Ytmknnoeggkgkgaa.QFnExactJoinBits
open Go.RowKit Go.Proofs.YtmknnoeggkgkgaaW.PrintWords Go.Proofs.YtmknnoeggkgkgaaW.PrintLast Go.Proofs.YtmknnoeggkgkgaaW.PrintMore Go.Proofs.Ytmknnoeggkgkgaa.Short
attribute [local go_sem] max2_int min2_int max_two min_two max_three min_three max_four min_four   -- for this text's walks alone
set_option linter.unusedVariables false
set_option linter.unusedSimpArgs false

theorem B1x0_ {p : Prop} (h : p := by (try simp only [List.map_toArray, List.map_cons, List.map_nil]); first | done | rfl | (simp only [List.length_drop, List.length_take]; rfl)) : p := h
theorem B1x1_ {p : Prop} (h : p := by repeat (first | (with_reducible first | exact HB.out | apply below_alloc | apply pw_below_drewN | apply below_drew1) | exact HB.out)) : p := h
theorem B1x2_ {p : Prop} (h : p := by repeat (first | (with_reducible first | exact HB.out | apply below_alloc | apply pw_below_drewN | apply below_drew1 | refine below_set ?_ GE103.out) | exact HB.out)) : p := h
theorem B1x3_ {p : Prop} (h : p := by repeat (first | (with_reducible first | exact HB.out | apply below_alloc | apply pw_below_drewN | apply below_drew1 | refine below_set ?_ GE125.out) | exact HB.out)) : p := h
theorem B1x4_ {p : Prop} (h : p := by first | rfl | (simp [errW_none, errW_some] <;> rfl) | (simp [*, errW_none, errW_some] <;> rfl)) : p := h
theorem B1x5_ {p : Prop} (h : p := by first | (go_simp; done) | (go_simp; rfl)) : p := h
theorem B1x6_ {p : Prop} (h : p := by kernel_rfl) : p := h
theorem B1x7_ {p : Prop} (h : p := by (with_reducible repeat (first | apply Kd.S_alloc | apply Kd.S_drewN | apply Kd.S_drew)); exact HO_3.out) : p := h
theorem B1x8_ {p : Prop} (h : p := by (repeat (with_reducible (first | exact BK125.out | apply blk_drewN | apply blk_drew | apply blk_alloc | apply blk_put))); repeat (first | exact BK125.out | (simp only [List.setIfInBounds_toArray, List.set_cons_zero, List.set_cons_succ]; with_reducible rfl) | rfl)) : p := h
theorem B1x9_ {p : Prop} (h : p := by (with_reducible repeat (first | refine blk_drewN ?_ _ | refine blk_drew ?_ | refine blk_alloc ?_ _)); exact BK125.out) : p := h
theorem B1x10_ {p : Prop} (h : p := by repeat (first | exact Drawn0.refl _ | apply Drawn0.step)) : p := h
theorem B1x11_ {p : Prop} (h : p := by first | rfl | (simp; done) | (simp [*]; done)) : p := h
theorem B1x12_ {p : Prop} (h : p := by first | (with_reducible assumption) | assumption) : p := h
/-! ### impl_within: function 74 -/
def impl_within.f (a0 : Int) (a1 : Int) (a2 : Int) : Option (Bool) := if a0 ≥ a1 then (some (decide (a0 ≤ a2))) else (some false)
set_option maxHeartbeats 8000000 in
set_option maxRecDepth 100000 in
theorem impl_within.calls (a0 : Int) (a1 : Int) (a2 : Int) (r : Bool) (w : World) (h : impl_within.f a0 a1 a2 = some r) :
  Calls Try.prog 74 #[.int .i64 a0, .int .i64 a1, .int .i64 a2] w fun e w' => e = .returned (.bool r) ∧ Drawn0 w w' := by
 have H : (if a0 ≥ a1 then (some (decide (a0 ≤ a2))) else (some false)) = some r := h
 clear h
 by_cases c4 : a0 ≥ a1
 ·rw [if_pos c4] at H
  have c4b0 : decide (a1 ≤ a0) = true := decide_eq_true c4
  clear c4
  obtain rfl := Option.some.inj H
  go_enter Try.func74, Try.ntmps74
  go_wp2
  go_ret
  exact ⟨B1x11_, B1x10_⟩
 ·rw [if_neg c4] at H
  have c4b0 : decide (a1 ≤ a0) = false := decide_eq_false c4
  clear c4
  obtain rfl := Option.some.inj H
  go_enter Try.func74, Try.ntmps74
  go_wp2
  go_ret
  exact ⟨B1x11_, B1x10_⟩

/-! ### impl_isAddr: function 96 -/
def impl_isAddr.f (a0 : Int) : Option (Bool) := (impl_within.f a0 1 99).bind fun t101 => (some t101)
set_option maxHeartbeats 8000000 in
set_option maxRecDepth 100000 in
theorem impl_isAddr.calls (a0 : Int) (r : Bool) (w : World) (h : impl_isAddr.f a0 = some r) :
  Calls Try.prog 96 #[.int .i64 a0] w fun e w' => e = .returned (.bool r) ∧ Drawn0 w w' := by
 have H : ((impl_within.f a0 1 99).bind fun t101 => (some t101)) = some r := h
 clear h
 replace H := bsi H
 obtain ⟨t101, A2, H⟩ := H
 (try dsimp only at H)
 obtain rfl := Option.some.inj H
 go_enter Try.func96, Try.ntmps96
 go_wp2_with (first | ((with_reducible refine gate_callee (f := 74) rfl ?_); refine goesL_ (some 4) rfl rfl Try.func74 B1x6_ rfl #[.int .i64 a0, .int .i64 1, .int .i64 99] rfl B1x0_ ?_; (with_reducible refine (impl_within.calls a0 1 99 t101 _ A2.out).mono ?_); rintro e w' ⟨rfl, ⟨nd, rfl⟩⟩; refine ⟨_, rfl, ?_⟩))
 go_ret
 exact ⟨B1x11_, B1x10_⟩

/-! ### impl_isWord: function 97 -/
def impl_isWord.f (a0 : Int) : Option (Bool) := (impl_within.f a0 0 65535).bind fun t102 => (some t102)
set_option maxHeartbeats 8000000 in
set_option maxRecDepth 100000 in
theorem impl_isWord.calls (a0 : Int) (r : Bool) (w : World) (h : impl_isWord.f a0 = some r) :
  Calls Try.prog 97 #[.int .i64 a0] w fun e w' => e = .returned (.bool r) ∧ Drawn0 w w' := by
 have H : ((impl_within.f a0 0 65535).bind fun t102 => (some t102)) = some r := h
 clear h
 replace H := bsi H
 obtain ⟨t102, A2, H⟩ := H
 (try dsimp only at H)
 obtain rfl := Option.some.inj H
 go_enter Try.func97, Try.ntmps97
 go_wp2_with (first | ((with_reducible refine gate_callee (f := 74) rfl ?_); refine goesL_ (some 4) rfl rfl Try.func74 B1x6_ rfl #[.int .i64 a0, .int .i64 0, .int .i64 65535] rfl B1x0_ ?_; (with_reducible refine (impl_within.calls a0 0 65535 t102 _ A2.out).mono ?_); rintro e w' ⟨rfl, ⟨nd, rfl⟩⟩; refine ⟨_, rfl, ?_⟩))
 go_ret
 exact ⟨B1x11_, B1x10_⟩

/-! ### impl_DgramOk: function 38 -/
def impl_DgramOk.f (a0_0 : Int) (a0_1 : Int) (a0_2 : Int) (a0_3 : Int) (a0_4 : Bool) (a0_5 : ByteArray) : Option (Bool) := (impl_within.f a0_3 0 160).bind fun t104 => (if t104 = true then (if (Int.tmod a0_3 8) = 0 then ((impl_within.f (a0_5.size : Int) 1 (wrap64 (160 - a0_3))).bind fun t105 => ((impl_isAddr.f a0_0).bind fun t106 => (if t106 = true then ((impl_isAddr.f a0_1).bind fun t107 => (if t107 = true then ((impl_isWord.f a0_2).bind fun t108 => (if t108 = true then (if t105 = true then (if a0_4 = true then (some (((a0_5.size : Int) % 8) == 0)) else (some true)) else (some false)) else (some false))) else (some false))) else (some false)))) else ((impl_isAddr.f a0_0).bind fun t109 => (if t109 = true then ((impl_isAddr.f a0_1).bind fun t110 => (if t110 = true then ((impl_isWord.f a0_2).bind fun t111 => (if t111 = true then (some false) else (some false))) else (some false))) else (some false)))) else ((impl_isAddr.f a0_0).bind fun t112 => (if t112 = true then ((impl_isAddr.f a0_1).bind fun t113 => (if t113 = true then ((impl_isWord.f a0_2).bind fun t114 => (if t114 = true then (some false) else (some false))) else (some false))) else (some false))))
set_option maxHeartbeats 8000000 in
set_option maxRecDepth 100000 in
theorem impl_DgramOk.calls (a0_0 : Int) (a0_1 : Int) (a0_2 : Int) (a0_3 : Int) (a0_4 : Bool) (a0_5 : ByteArray) (r : Bool) (w : World) (h : impl_DgramOk.f a0_0 a0_1 a0_2 a0_3 a0_4 a0_5 = some r) :
  Calls Try.prog 38 #[.agg #[.int .i64 a0_0, .int .i64 a0_1, .int .i64 a0_2, .int .i64 a0_3, .bool a0_4, .string a0_5]] w fun e w' => e = .returned (.bool r) ∧ Below w.heap.size w w' := by
 have hu62 := Try.underlying62
 have HB := Aside0.mk (Below.refl w.heap.size w)
 have H : ((impl_within.f a0_3 0 160).bind fun t104 => (if t104 = true then (if (Int.tmod a0_3 8) = 0 then ((impl_within.f (a0_5.size : Int) 1 (wrap64 (160 - a0_3))).bind fun t105 => ((impl_isAddr.f a0_0).bind fun t106 => (if t106 = true then ((impl_isAddr.f a0_1).bind fun t107 => (if t107 = true then ((impl_isWord.f a0_2).bind fun t108 => (if t108 = true then (if t105 = true then (if a0_4 = true then (some (((a0_5.size : Int) % 8) == 0)) else (some true)) else (some false)) else (some false))) else (some false))) else (some false)))) else ((impl_isAddr.f a0_0).bind fun t109 => (if t109 = true then ((impl_isAddr.f a0_1).bind fun t110 => (if t110 = true then ((impl_isWord.f a0_2).bind fun t111 => (if t111 = true then (some false) else (some false))) else (some false))) else (some false)))) else ((impl_isAddr.f a0_0).bind fun t112 => (if t112 = true then ((impl_isAddr.f a0_1).bind fun t113 => (if t113 = true then ((impl_isWord.f a0_2).bind fun t114 => (if t114 = true then (some false) else (some false))) else (some false))) else (some false))))) = some r := h
 clear h
 replace H := bsi H
 obtain ⟨t104, A2, H⟩ := H
 (try dsimp only at H)
 by_cases c3 : t104 = true
 ·subst c3
  rw [if_pos rfl] at H
  by_cases c4 : (Int.tmod a0_3 8) = 0
  ·rw [if_pos c4] at H
   have c4b0 := beq_iff_eq.mpr c4
   have c4b1 := bne_eq_false_iff_eq.mpr c4
   clear c4
   replace H := bsi H
   obtain ⟨t105, A5, H⟩ := H
   (try dsimp only at H)
   replace H := bsi H
   obtain ⟨t106, A6, H⟩ := H
   (try dsimp only at H)
   by_cases c7 : t106 = true
   ·subst c7
    rw [if_pos rfl] at H
    replace H := bsi H
    obtain ⟨t107, A8, H⟩ := H
    (try dsimp only at H)
    by_cases c9 : t107 = true
    ·subst c9
     rw [if_pos rfl] at H
     replace H := bsi H
     obtain ⟨t108, A10, H⟩ := H
     (try dsimp only at H)
     by_cases c11 : t108 = true
     ·subst c11
      rw [if_pos rfl] at H
      by_cases c12 : t105 = true
      ·subst c12
       rw [if_pos rfl] at H
       by_cases c13 : a0_4 = true
       ·subst c13
        rw [if_pos rfl] at H
        obtain rfl := Option.some.inj H
        go_enter Try.func38, Try.ntmps38
        go_wp2_with (first | ((with_reducible refine gate_dst (N := 1) rfl ?_); (try (refine gate_guard (by rfl) ?_; dsimp only)); refine box_event ?hg (N := 1) ?hd (cs := #[.int .i64 a0_0, .int .i64 a0_1, .int .i64 a0_2, .int .i64 a0_3, .bool true, .string a0_5]) (t := 62) ?hr ?_; (case hd => rfl); (case hg => rfl); (case hr => exact B1x5_); intro gb103 hg w14 hbox hb; have BK103 := Aside0.mk (hbox); have GW103 := Aside0.mk ((bs hg (below_size HB.out))); have GE103 := Aside0.mk ((bs hg (below_size HB.out))); replace HB := Aside0.mk (below_step B1x1_ hb); clear hb hbox hg; obtain ⟨hcz15_0, hcz15_1, hcz15_2, hcz15_3, hcz15_4, hcz15_5⟩ := cl6 BK103.out; obtain ⟨hfz15_0, hfz15_1, hfz15_2, hfz15_3, hfz15_4, hfz15_5⟩ := fr6 BK103.out) | ((with_reducible refine gate_callee (f := 74) rfl ?_); refine goesL_ (some 6) rfl rfl Try.func74 B1x6_ rfl #[.int .i64 a0_3, .int .i64 0, .int .i64 160] rfl B1x0_ ?_; (with_reducible refine (impl_within.calls a0_3 0 160 true _ A2.out).mono ?_); rintro e w' ⟨rfl, ⟨nd, rfl⟩⟩; refine ⟨_, rfl, ?_⟩) | (go_at_call 74; (with_reducible refine (impl_within.calls (a0_5.size : Int) 1 (wrap64 (160 - a0_3)) true _ A5.out).mono ?_); rintro e w' ⟨rfl, ⟨nd, rfl⟩⟩) | ((with_reducible refine gate_callee (f := 96) rfl ?_); refine goesL_ (some 24) rfl rfl Try.func96 B1x6_ rfl #[.int .i64 a0_0] rfl B1x0_ ?_; (with_reducible refine (impl_isAddr.calls a0_0 true _ A6.out).mono ?_); rintro e w' ⟨rfl, ⟨nd, rfl⟩⟩; refine ⟨_, rfl, ?_⟩) | (go_at_call 96; (with_reducible refine (impl_isAddr.calls a0_1 true _ A8.out).mono ?_); rintro e w' ⟨rfl, ⟨nd, rfl⟩⟩) | (go_at_call 97; (with_reducible refine (impl_isWord.calls a0_2 true _ A10.out).mono ?_); rintro e w' ⟨rfl, ⟨nd, rfl⟩⟩))
        go_ret
        exact ⟨B1x4_, B1x2_⟩
       ·replace c13 := Bool.eq_false_iff.mpr c13
        subst c13
        rw [if_neg (show ¬ (false = true) by decide)] at H
        obtain rfl := Option.some.inj H
        go_enter Try.func38, Try.ntmps38
        go_wp2_with (first | ((with_reducible refine gate_dst (N := 1) rfl ?_); (try (refine gate_guard (by rfl) ?_; dsimp only)); refine box_event ?hg (N := 1) ?hd (cs := #[.int .i64 a0_0, .int .i64 a0_1, .int .i64 a0_2, .int .i64 a0_3, .bool false, .string a0_5]) (t := 62) ?hr ?_; (case hd => rfl); (case hg => rfl); (case hr => exact B1x5_); intro gb103 hg w16 hbox hb; have BK103 := Aside0.mk (hbox); have GW103 := Aside0.mk ((bs hg (below_size HB.out))); have GE103 := Aside0.mk ((bs hg (below_size HB.out))); replace HB := Aside0.mk (below_step B1x1_ hb); clear hb hbox hg; obtain ⟨hcz17_0, hcz17_1, hcz17_2, hcz17_3, hcz17_4, hcz17_5⟩ := cl6 BK103.out; obtain ⟨hfz17_0, hfz17_1, hfz17_2, hfz17_3, hfz17_4, hfz17_5⟩ := fr6 BK103.out) | ((with_reducible refine gate_callee (f := 74) rfl ?_); refine goesL_ (some 6) rfl rfl Try.func74 B1x6_ rfl #[.int .i64 a0_3, .int .i64 0, .int .i64 160] rfl B1x0_ ?_; (with_reducible refine (impl_within.calls a0_3 0 160 true _ A2.out).mono ?_); rintro e w' ⟨rfl, ⟨nd, rfl⟩⟩; refine ⟨_, rfl, ?_⟩) | (go_at_call 74; (with_reducible refine (impl_within.calls (a0_5.size : Int) 1 (wrap64 (160 - a0_3)) true _ A5.out).mono ?_); rintro e w' ⟨rfl, ⟨nd, rfl⟩⟩) | ((with_reducible refine gate_callee (f := 96) rfl ?_); refine goesL_ (some 24) rfl rfl Try.func96 B1x6_ rfl #[.int .i64 a0_0] rfl B1x0_ ?_; (with_reducible refine (impl_isAddr.calls a0_0 true _ A6.out).mono ?_); rintro e w' ⟨rfl, ⟨nd, rfl⟩⟩; refine ⟨_, rfl, ?_⟩) | (go_at_call 96; (with_reducible refine (impl_isAddr.calls a0_1 true _ A8.out).mono ?_); rintro e w' ⟨rfl, ⟨nd, rfl⟩⟩) | (go_at_call 97; (with_reducible refine (impl_isWord.calls a0_2 true _ A10.out).mono ?_); rintro e w' ⟨rfl, ⟨nd, rfl⟩⟩))
        go_ret
        exact ⟨B1x4_, B1x2_⟩
      ·replace c12 := Bool.eq_false_iff.mpr c12
       subst c12
       rw [if_neg (show ¬ (false = true) by decide)] at H
       obtain rfl := Option.some.inj H
       go_enter Try.func38, Try.ntmps38
       go_wp2_with (first | ((with_reducible refine gate_dst (N := 1) rfl ?_); (try (refine gate_guard (by rfl) ?_; dsimp only)); refine box_event ?hg (N := 1) ?hd (cs := #[.int .i64 a0_0, .int .i64 a0_1, .int .i64 a0_2, .int .i64 a0_3, .bool a0_4, .string a0_5]) (t := 62) ?hr ?_; (case hd => rfl); (case hg => rfl); (case hr => exact B1x5_); intro gb103 hg w18 hbox hb; have BK103 := Aside0.mk (hbox); have GW103 := Aside0.mk ((bs hg (below_size HB.out))); have GE103 := Aside0.mk ((bs hg (below_size HB.out))); replace HB := Aside0.mk (below_step B1x1_ hb); clear hb hbox hg; obtain ⟨hcz19_0, hcz19_1, hcz19_2, hcz19_3, hcz19_4, hcz19_5⟩ := cl6 BK103.out; obtain ⟨hfz19_0, hfz19_1, hfz19_2, hfz19_3, hfz19_4, hfz19_5⟩ := fr6 BK103.out) | ((with_reducible refine gate_callee (f := 74) rfl ?_); refine goesL_ (some 6) rfl rfl Try.func74 B1x6_ rfl #[.int .i64 a0_3, .int .i64 0, .int .i64 160] rfl B1x0_ ?_; (with_reducible refine (impl_within.calls a0_3 0 160 true _ A2.out).mono ?_); rintro e w' ⟨rfl, ⟨nd, rfl⟩⟩; refine ⟨_, rfl, ?_⟩) | (go_at_call 74; (with_reducible refine (impl_within.calls (a0_5.size : Int) 1 (wrap64 (160 - a0_3)) false _ A5.out).mono ?_); rintro e w' ⟨rfl, ⟨nd, rfl⟩⟩) | ((with_reducible refine gate_callee (f := 96) rfl ?_); refine goesL_ (some 24) rfl rfl Try.func96 B1x6_ rfl #[.int .i64 a0_0] rfl B1x0_ ?_; (with_reducible refine (impl_isAddr.calls a0_0 true _ A6.out).mono ?_); rintro e w' ⟨rfl, ⟨nd, rfl⟩⟩; refine ⟨_, rfl, ?_⟩) | (go_at_call 96; (with_reducible refine (impl_isAddr.calls a0_1 true _ A8.out).mono ?_); rintro e w' ⟨rfl, ⟨nd, rfl⟩⟩) | (go_at_call 97; (with_reducible refine (impl_isWord.calls a0_2 true _ A10.out).mono ?_); rintro e w' ⟨rfl, ⟨nd, rfl⟩⟩))
       go_ret
       exact ⟨B1x4_, B1x2_⟩
     ·replace c11 := Bool.eq_false_iff.mpr c11
      subst c11
      rw [if_neg (show ¬ (false = true) by decide)] at H
      obtain rfl := Option.some.inj H
      go_enter Try.func38, Try.ntmps38
      go_wp2_with (first | ((with_reducible refine gate_dst (N := 1) rfl ?_); (try (refine gate_guard (by rfl) ?_; dsimp only)); refine box_event ?hg (N := 1) ?hd (cs := #[.int .i64 a0_0, .int .i64 a0_1, .int .i64 a0_2, .int .i64 a0_3, .bool a0_4, .string a0_5]) (t := 62) ?hr ?_; (case hd => rfl); (case hg => rfl); (case hr => exact B1x5_); intro gb103 hg w20 hbox hb; have BK103 := Aside0.mk (hbox); have GW103 := Aside0.mk ((bs hg (below_size HB.out))); have GE103 := Aside0.mk ((bs hg (below_size HB.out))); replace HB := Aside0.mk (below_step B1x1_ hb); clear hb hbox hg; obtain ⟨hcz21_0, hcz21_1, hcz21_2, hcz21_3, hcz21_4, hcz21_5⟩ := cl6 BK103.out; obtain ⟨hfz21_0, hfz21_1, hfz21_2, hfz21_3, hfz21_4, hfz21_5⟩ := fr6 BK103.out) | ((with_reducible refine gate_callee (f := 74) rfl ?_); refine goesL_ (some 6) rfl rfl Try.func74 B1x6_ rfl #[.int .i64 a0_3, .int .i64 0, .int .i64 160] rfl B1x0_ ?_; (with_reducible refine (impl_within.calls a0_3 0 160 true _ A2.out).mono ?_); rintro e w' ⟨rfl, ⟨nd, rfl⟩⟩; refine ⟨_, rfl, ?_⟩) | (go_at_call 74; (with_reducible refine (impl_within.calls (a0_5.size : Int) 1 (wrap64 (160 - a0_3)) t105 _ A5.out).mono ?_); rintro e w' ⟨rfl, ⟨nd, rfl⟩⟩) | ((with_reducible refine gate_callee (f := 96) rfl ?_); refine goesL_ (some 24) rfl rfl Try.func96 B1x6_ rfl #[.int .i64 a0_0] rfl B1x0_ ?_; (with_reducible refine (impl_isAddr.calls a0_0 true _ A6.out).mono ?_); rintro e w' ⟨rfl, ⟨nd, rfl⟩⟩; refine ⟨_, rfl, ?_⟩) | (go_at_call 96; (with_reducible refine (impl_isAddr.calls a0_1 true _ A8.out).mono ?_); rintro e w' ⟨rfl, ⟨nd, rfl⟩⟩) | (go_at_call 97; (with_reducible refine (impl_isWord.calls a0_2 false _ A10.out).mono ?_); rintro e w' ⟨rfl, ⟨nd, rfl⟩⟩))
      go_ret
      exact ⟨B1x4_, B1x2_⟩
    ·replace c9 := Bool.eq_false_iff.mpr c9
     subst c9
     rw [if_neg (show ¬ (false = true) by decide)] at H
     obtain rfl := Option.some.inj H
     go_enter Try.func38, Try.ntmps38
     go_wp2_with (first | ((with_reducible refine gate_dst (N := 1) rfl ?_); (try (refine gate_guard (by rfl) ?_; dsimp only)); refine box_event ?hg (N := 1) ?hd (cs := #[.int .i64 a0_0, .int .i64 a0_1, .int .i64 a0_2, .int .i64 a0_3, .bool a0_4, .string a0_5]) (t := 62) ?hr ?_; (case hd => rfl); (case hg => rfl); (case hr => exact B1x5_); intro gb103 hg w22 hbox hb; have BK103 := Aside0.mk (hbox); have GW103 := Aside0.mk ((bs hg (below_size HB.out))); have GE103 := Aside0.mk ((bs hg (below_size HB.out))); replace HB := Aside0.mk (below_step B1x1_ hb); clear hb hbox hg; obtain ⟨hcz23_0, hcz23_1, hcz23_2, hcz23_3, hcz23_4, hcz23_5⟩ := cl6 BK103.out; obtain ⟨hfz23_0, hfz23_1, hfz23_2, hfz23_3, hfz23_4, hfz23_5⟩ := fr6 BK103.out) | ((with_reducible refine gate_callee (f := 74) rfl ?_); refine goesL_ (some 6) rfl rfl Try.func74 B1x6_ rfl #[.int .i64 a0_3, .int .i64 0, .int .i64 160] rfl B1x0_ ?_; (with_reducible refine (impl_within.calls a0_3 0 160 true _ A2.out).mono ?_); rintro e w' ⟨rfl, ⟨nd, rfl⟩⟩; refine ⟨_, rfl, ?_⟩) | (go_at_call 74; (with_reducible refine (impl_within.calls (a0_5.size : Int) 1 (wrap64 (160 - a0_3)) t105 _ A5.out).mono ?_); rintro e w' ⟨rfl, ⟨nd, rfl⟩⟩) | ((with_reducible refine gate_callee (f := 96) rfl ?_); refine goesL_ (some 24) rfl rfl Try.func96 B1x6_ rfl #[.int .i64 a0_0] rfl B1x0_ ?_; (with_reducible refine (impl_isAddr.calls a0_0 true _ A6.out).mono ?_); rintro e w' ⟨rfl, ⟨nd, rfl⟩⟩; refine ⟨_, rfl, ?_⟩) | (go_at_call 96; (with_reducible refine (impl_isAddr.calls a0_1 false _ A8.out).mono ?_); rintro e w' ⟨rfl, ⟨nd, rfl⟩⟩))
     go_ret
     exact ⟨B1x4_, B1x2_⟩
   ·replace c7 := Bool.eq_false_iff.mpr c7
    subst c7
    rw [if_neg (show ¬ (false = true) by decide)] at H
    obtain rfl := Option.some.inj H
    go_enter Try.func38, Try.ntmps38
    go_wp2_with (first | ((with_reducible refine gate_dst (N := 1) rfl ?_); (try (refine gate_guard (by rfl) ?_; dsimp only)); refine box_event ?hg (N := 1) ?hd (cs := #[.int .i64 a0_0, .int .i64 a0_1, .int .i64 a0_2, .int .i64 a0_3, .bool a0_4, .string a0_5]) (t := 62) ?hr ?_; (case hd => rfl); (case hg => rfl); (case hr => exact B1x5_); intro gb103 hg w24 hbox hb; have BK103 := Aside0.mk (hbox); have GW103 := Aside0.mk ((bs hg (below_size HB.out))); have GE103 := Aside0.mk ((bs hg (below_size HB.out))); replace HB := Aside0.mk (below_step B1x1_ hb); clear hb hbox hg; obtain ⟨hcz25_0, hcz25_1, hcz25_2, hcz25_3, hcz25_4, hcz25_5⟩ := cl6 BK103.out; obtain ⟨hfz25_0, hfz25_1, hfz25_2, hfz25_3, hfz25_4, hfz25_5⟩ := fr6 BK103.out) | ((with_reducible refine gate_callee (f := 74) rfl ?_); refine goesL_ (some 6) rfl rfl Try.func74 B1x6_ rfl #[.int .i64 a0_3, .int .i64 0, .int .i64 160] rfl B1x0_ ?_; (with_reducible refine (impl_within.calls a0_3 0 160 true _ A2.out).mono ?_); rintro e w' ⟨rfl, ⟨nd, rfl⟩⟩; refine ⟨_, rfl, ?_⟩) | (go_at_call 74; (with_reducible refine (impl_within.calls (a0_5.size : Int) 1 (wrap64 (160 - a0_3)) t105 _ A5.out).mono ?_); rintro e w' ⟨rfl, ⟨nd, rfl⟩⟩) | ((with_reducible refine gate_callee (f := 96) rfl ?_); refine goesL_ (some 24) rfl rfl Try.func96 B1x6_ rfl #[.int .i64 a0_0] rfl B1x0_ ?_; (with_reducible refine (impl_isAddr.calls a0_0 false _ A6.out).mono ?_); rintro e w' ⟨rfl, ⟨nd, rfl⟩⟩; refine ⟨_, rfl, ?_⟩))
    go_ret
    exact ⟨B1x4_, B1x2_⟩
  ·rw [if_neg c4] at H
   have c4b0 := beq_eq_false_iff_ne.mpr c4
   have c4b1 := bne_iff_ne.mpr c4
   replace H := bsi H
   obtain ⟨t109, A26, H⟩ := H
   (try dsimp only at H)
   by_cases c27 : t109 = true
   ·subst c27
    rw [if_pos rfl] at H
    replace H := bsi H
    obtain ⟨t110, A28, H⟩ := H
    (try dsimp only at H)
    by_cases c29 : t110 = true
    ·subst c29
     rw [if_pos rfl] at H
     replace H := bsi H
     obtain ⟨t111, A30, H⟩ := H
     (try dsimp only at H)
     by_cases c31 : t111 = true
     ·subst c31
      rw [if_pos rfl] at H
      obtain rfl := Option.some.inj H
      go_enter Try.func38, Try.ntmps38
      go_wp2_with (first | ((with_reducible refine gate_dst (N := 1) rfl ?_); (try (refine gate_guard (by rfl) ?_; dsimp only)); refine box_event ?hg (N := 1) ?hd (cs := #[.int .i64 a0_0, .int .i64 a0_1, .int .i64 a0_2, .int .i64 a0_3, .bool a0_4, .string a0_5]) (t := 62) ?hr ?_; (case hd => rfl); (case hg => rfl); (case hr => exact B1x5_); intro gb103 hg w32 hbox hb; have BK103 := Aside0.mk (hbox); have GW103 := Aside0.mk ((bs hg (below_size HB.out))); have GE103 := Aside0.mk ((bs hg (below_size HB.out))); replace HB := Aside0.mk (below_step B1x1_ hb); clear hb hbox hg; obtain ⟨hcz33_0, hcz33_1, hcz33_2, hcz33_3, hcz33_4, hcz33_5⟩ := cl6 BK103.out; obtain ⟨hfz33_0, hfz33_1, hfz33_2, hfz33_3, hfz33_4, hfz33_5⟩ := fr6 BK103.out) | ((with_reducible refine gate_callee (f := 74) rfl ?_); refine goesL_ (some 6) rfl rfl Try.func74 B1x6_ rfl #[.int .i64 a0_3, .int .i64 0, .int .i64 160] rfl B1x0_ ?_; (with_reducible refine (impl_within.calls a0_3 0 160 true _ A2.out).mono ?_); rintro e w' ⟨rfl, ⟨nd, rfl⟩⟩; refine ⟨_, rfl, ?_⟩) | ((with_reducible refine gate_callee (f := 96) rfl ?_); refine goesL_ (some 24) rfl rfl Try.func96 B1x6_ rfl #[.int .i64 a0_0] rfl B1x0_ ?_; (with_reducible refine (impl_isAddr.calls a0_0 true _ A26.out).mono ?_); rintro e w' ⟨rfl, ⟨nd, rfl⟩⟩; refine ⟨_, rfl, ?_⟩) | (go_at_call 96; (with_reducible refine (impl_isAddr.calls a0_1 true _ A28.out).mono ?_); rintro e w' ⟨rfl, ⟨nd, rfl⟩⟩) | (go_at_call 97; (with_reducible refine (impl_isWord.calls a0_2 true _ A30.out).mono ?_); rintro e w' ⟨rfl, ⟨nd, rfl⟩⟩))
      go_ret
      exact ⟨B1x4_, B1x2_⟩
     ·replace c31 := Bool.eq_false_iff.mpr c31
      subst c31
      rw [if_neg (show ¬ (false = true) by decide)] at H
      obtain rfl := Option.some.inj H
      go_enter Try.func38, Try.ntmps38
      go_wp2_with (first | ((with_reducible refine gate_dst (N := 1) rfl ?_); (try (refine gate_guard (by rfl) ?_; dsimp only)); refine box_event ?hg (N := 1) ?hd (cs := #[.int .i64 a0_0, .int .i64 a0_1, .int .i64 a0_2, .int .i64 a0_3, .bool a0_4, .string a0_5]) (t := 62) ?hr ?_; (case hd => rfl); (case hg => rfl); (case hr => exact B1x5_); intro gb103 hg w34 hbox hb; have BK103 := Aside0.mk (hbox); have GW103 := Aside0.mk ((bs hg (below_size HB.out))); have GE103 := Aside0.mk ((bs hg (below_size HB.out))); replace HB := Aside0.mk (below_step B1x1_ hb); clear hb hbox hg; obtain ⟨hcz35_0, hcz35_1, hcz35_2, hcz35_3, hcz35_4, hcz35_5⟩ := cl6 BK103.out; obtain ⟨hfz35_0, hfz35_1, hfz35_2, hfz35_3, hfz35_4, hfz35_5⟩ := fr6 BK103.out) | ((with_reducible refine gate_callee (f := 74) rfl ?_); refine goesL_ (some 6) rfl rfl Try.func74 B1x6_ rfl #[.int .i64 a0_3, .int .i64 0, .int .i64 160] rfl B1x0_ ?_; (with_reducible refine (impl_within.calls a0_3 0 160 true _ A2.out).mono ?_); rintro e w' ⟨rfl, ⟨nd, rfl⟩⟩; refine ⟨_, rfl, ?_⟩) | ((with_reducible refine gate_callee (f := 96) rfl ?_); refine goesL_ (some 24) rfl rfl Try.func96 B1x6_ rfl #[.int .i64 a0_0] rfl B1x0_ ?_; (with_reducible refine (impl_isAddr.calls a0_0 true _ A26.out).mono ?_); rintro e w' ⟨rfl, ⟨nd, rfl⟩⟩; refine ⟨_, rfl, ?_⟩) | (go_at_call 96; (with_reducible refine (impl_isAddr.calls a0_1 true _ A28.out).mono ?_); rintro e w' ⟨rfl, ⟨nd, rfl⟩⟩) | (go_at_call 97; (with_reducible refine (impl_isWord.calls a0_2 false _ A30.out).mono ?_); rintro e w' ⟨rfl, ⟨nd, rfl⟩⟩))
      go_ret
      exact ⟨B1x4_, B1x2_⟩
    ·replace c29 := Bool.eq_false_iff.mpr c29
     subst c29
     rw [if_neg (show ¬ (false = true) by decide)] at H
     obtain rfl := Option.some.inj H
     go_enter Try.func38, Try.ntmps38
     go_wp2_with (first | ((with_reducible refine gate_dst (N := 1) rfl ?_); (try (refine gate_guard (by rfl) ?_; dsimp only)); refine box_event ?hg (N := 1) ?hd (cs := #[.int .i64 a0_0, .int .i64 a0_1, .int .i64 a0_2, .int .i64 a0_3, .bool a0_4, .string a0_5]) (t := 62) ?hr ?_; (case hd => rfl); (case hg => rfl); (case hr => exact B1x5_); intro gb103 hg w36 hbox hb; have BK103 := Aside0.mk (hbox); have GW103 := Aside0.mk ((bs hg (below_size HB.out))); have GE103 := Aside0.mk ((bs hg (below_size HB.out))); replace HB := Aside0.mk (below_step B1x1_ hb); clear hb hbox hg; obtain ⟨hcz37_0, hcz37_1, hcz37_2, hcz37_3, hcz37_4, hcz37_5⟩ := cl6 BK103.out; obtain ⟨hfz37_0, hfz37_1, hfz37_2, hfz37_3, hfz37_4, hfz37_5⟩ := fr6 BK103.out) | ((with_reducible refine gate_callee (f := 74) rfl ?_); refine goesL_ (some 6) rfl rfl Try.func74 B1x6_ rfl #[.int .i64 a0_3, .int .i64 0, .int .i64 160] rfl B1x0_ ?_; (with_reducible refine (impl_within.calls a0_3 0 160 true _ A2.out).mono ?_); rintro e w' ⟨rfl, ⟨nd, rfl⟩⟩; refine ⟨_, rfl, ?_⟩) | ((with_reducible refine gate_callee (f := 96) rfl ?_); refine goesL_ (some 24) rfl rfl Try.func96 B1x6_ rfl #[.int .i64 a0_0] rfl B1x0_ ?_; (with_reducible refine (impl_isAddr.calls a0_0 true _ A26.out).mono ?_); rintro e w' ⟨rfl, ⟨nd, rfl⟩⟩; refine ⟨_, rfl, ?_⟩) | (go_at_call 96; (with_reducible refine (impl_isAddr.calls a0_1 false _ A28.out).mono ?_); rintro e w' ⟨rfl, ⟨nd, rfl⟩⟩))
     go_ret
     exact ⟨B1x4_, B1x2_⟩
   ·replace c27 := Bool.eq_false_iff.mpr c27
    subst c27
    rw [if_neg (show ¬ (false = true) by decide)] at H
    obtain rfl := Option.some.inj H
    go_enter Try.func38, Try.ntmps38
    go_wp2_with (first | ((with_reducible refine gate_dst (N := 1) rfl ?_); (try (refine gate_guard (by rfl) ?_; dsimp only)); refine box_event ?hg (N := 1) ?hd (cs := #[.int .i64 a0_0, .int .i64 a0_1, .int .i64 a0_2, .int .i64 a0_3, .bool a0_4, .string a0_5]) (t := 62) ?hr ?_; (case hd => rfl); (case hg => rfl); (case hr => exact B1x5_); intro gb103 hg w38 hbox hb; have BK103 := Aside0.mk (hbox); have GW103 := Aside0.mk ((bs hg (below_size HB.out))); have GE103 := Aside0.mk ((bs hg (below_size HB.out))); replace HB := Aside0.mk (below_step B1x1_ hb); clear hb hbox hg; obtain ⟨hcz39_0, hcz39_1, hcz39_2, hcz39_3, hcz39_4, hcz39_5⟩ := cl6 BK103.out; obtain ⟨hfz39_0, hfz39_1, hfz39_2, hfz39_3, hfz39_4, hfz39_5⟩ := fr6 BK103.out) | ((with_reducible refine gate_callee (f := 74) rfl ?_); refine goesL_ (some 6) rfl rfl Try.func74 B1x6_ rfl #[.int .i64 a0_3, .int .i64 0, .int .i64 160] rfl B1x0_ ?_; (with_reducible refine (impl_within.calls a0_3 0 160 true _ A2.out).mono ?_); rintro e w' ⟨rfl, ⟨nd, rfl⟩⟩; refine ⟨_, rfl, ?_⟩) | ((with_reducible refine gate_callee (f := 96) rfl ?_); refine goesL_ (some 24) rfl rfl Try.func96 B1x6_ rfl #[.int .i64 a0_0] rfl B1x0_ ?_; (with_reducible refine (impl_isAddr.calls a0_0 false _ A26.out).mono ?_); rintro e w' ⟨rfl, ⟨nd, rfl⟩⟩; refine ⟨_, rfl, ?_⟩))
    go_ret
    exact ⟨B1x4_, B1x2_⟩
 ·replace c3 := Bool.eq_false_iff.mpr c3
  subst c3
  rw [if_neg (show ¬ (false = true) by decide)] at H
  replace H := bsi H
  obtain ⟨t112, A40, H⟩ := H
  (try dsimp only at H)
  by_cases c41 : t112 = true
  ·subst c41
   rw [if_pos rfl] at H
   replace H := bsi H
   obtain ⟨t113, A42, H⟩ := H
   (try dsimp only at H)
   by_cases c43 : t113 = true
   ·subst c43
    rw [if_pos rfl] at H
    replace H := bsi H
    obtain ⟨t114, A44, H⟩ := H
    (try dsimp only at H)
    by_cases c45 : t114 = true
    ·subst c45
     rw [if_pos rfl] at H
     obtain rfl := Option.some.inj H
     go_enter Try.func38, Try.ntmps38
     go_wp2_with (first | ((with_reducible refine gate_dst (N := 1) rfl ?_); (try (refine gate_guard (by rfl) ?_; dsimp only)); refine box_event ?hg (N := 1) ?hd (cs := #[.int .i64 a0_0, .int .i64 a0_1, .int .i64 a0_2, .int .i64 a0_3, .bool a0_4, .string a0_5]) (t := 62) ?hr ?_; (case hd => rfl); (case hg => rfl); (case hr => exact B1x5_); intro gb103 hg w46 hbox hb; have BK103 := Aside0.mk (hbox); have GW103 := Aside0.mk ((bs hg (below_size HB.out))); have GE103 := Aside0.mk ((bs hg (below_size HB.out))); replace HB := Aside0.mk (below_step B1x1_ hb); clear hb hbox hg; obtain ⟨hcz47_0, hcz47_1, hcz47_2, hcz47_3, hcz47_4, hcz47_5⟩ := cl6 BK103.out; obtain ⟨hfz47_0, hfz47_1, hfz47_2, hfz47_3, hfz47_4, hfz47_5⟩ := fr6 BK103.out) | ((with_reducible refine gate_callee (f := 74) rfl ?_); refine goesL_ (some 6) rfl rfl Try.func74 B1x6_ rfl #[.int .i64 a0_3, .int .i64 0, .int .i64 160] rfl B1x0_ ?_; (with_reducible refine (impl_within.calls a0_3 0 160 false _ A2.out).mono ?_); rintro e w' ⟨rfl, ⟨nd, rfl⟩⟩; refine ⟨_, rfl, ?_⟩) | ((with_reducible refine gate_callee (f := 96) rfl ?_); refine goesL_ (some 24) rfl rfl Try.func96 B1x6_ rfl #[.int .i64 a0_0] rfl B1x0_ ?_; (with_reducible refine (impl_isAddr.calls a0_0 true _ A40.out).mono ?_); rintro e w' ⟨rfl, ⟨nd, rfl⟩⟩; refine ⟨_, rfl, ?_⟩) | (go_at_call 96; (with_reducible refine (impl_isAddr.calls a0_1 true _ A42.out).mono ?_); rintro e w' ⟨rfl, ⟨nd, rfl⟩⟩) | (go_at_call 97; (with_reducible refine (impl_isWord.calls a0_2 true _ A44.out).mono ?_); rintro e w' ⟨rfl, ⟨nd, rfl⟩⟩))
     go_ret
     exact ⟨B1x4_, B1x2_⟩
    ·replace c45 := Bool.eq_false_iff.mpr c45
     subst c45
     rw [if_neg (show ¬ (false = true) by decide)] at H
     obtain rfl := Option.some.inj H
     go_enter Try.func38, Try.ntmps38
     go_wp2_with (first | ((with_reducible refine gate_dst (N := 1) rfl ?_); (try (refine gate_guard (by rfl) ?_; dsimp only)); refine box_event ?hg (N := 1) ?hd (cs := #[.int .i64 a0_0, .int .i64 a0_1, .int .i64 a0_2, .int .i64 a0_3, .bool a0_4, .string a0_5]) (t := 62) ?hr ?_; (case hd => rfl); (case hg => rfl); (case hr => exact B1x5_); intro gb103 hg w48 hbox hb; have BK103 := Aside0.mk (hbox); have GW103 := Aside0.mk ((bs hg (below_size HB.out))); have GE103 := Aside0.mk ((bs hg (below_size HB.out))); replace HB := Aside0.mk (below_step B1x1_ hb); clear hb hbox hg; obtain ⟨hcz49_0, hcz49_1, hcz49_2, hcz49_3, hcz49_4, hcz49_5⟩ := cl6 BK103.out; obtain ⟨hfz49_0, hfz49_1, hfz49_2, hfz49_3, hfz49_4, hfz49_5⟩ := fr6 BK103.out) | ((with_reducible refine gate_callee (f := 74) rfl ?_); refine goesL_ (some 6) rfl rfl Try.func74 B1x6_ rfl #[.int .i64 a0_3, .int .i64 0, .int .i64 160] rfl B1x0_ ?_; (with_reducible refine (impl_within.calls a0_3 0 160 false _ A2.out).mono ?_); rintro e w' ⟨rfl, ⟨nd, rfl⟩⟩; refine ⟨_, rfl, ?_⟩) | ((with_reducible refine gate_callee (f := 96) rfl ?_); refine goesL_ (some 24) rfl rfl Try.func96 B1x6_ rfl #[.int .i64 a0_0] rfl B1x0_ ?_; (with_reducible refine (impl_isAddr.calls a0_0 true _ A40.out).mono ?_); rintro e w' ⟨rfl, ⟨nd, rfl⟩⟩; refine ⟨_, rfl, ?_⟩) | (go_at_call 96; (with_reducible refine (impl_isAddr.calls a0_1 true _ A42.out).mono ?_); rintro e w' ⟨rfl, ⟨nd, rfl⟩⟩) | (go_at_call 97; (with_reducible refine (impl_isWord.calls a0_2 false _ A44.out).mono ?_); rintro e w' ⟨rfl, ⟨nd, rfl⟩⟩))
     go_ret
     exact ⟨B1x4_, B1x2_⟩
   ·replace c43 := Bool.eq_false_iff.mpr c43
    subst c43
    rw [if_neg (show ¬ (false = true) by decide)] at H
    obtain rfl := Option.some.inj H
    go_enter Try.func38, Try.ntmps38
    go_wp2_with (first | ((with_reducible refine gate_dst (N := 1) rfl ?_); (try (refine gate_guard (by rfl) ?_; dsimp only)); refine box_event ?hg (N := 1) ?hd (cs := #[.int .i64 a0_0, .int .i64 a0_1, .int .i64 a0_2, .int .i64 a0_3, .bool a0_4, .string a0_5]) (t := 62) ?hr ?_; (case hd => rfl); (case hg => rfl); (case hr => exact B1x5_); intro gb103 hg w50 hbox hb; have BK103 := Aside0.mk (hbox); have GW103 := Aside0.mk ((bs hg (below_size HB.out))); have GE103 := Aside0.mk ((bs hg (below_size HB.out))); replace HB := Aside0.mk (below_step B1x1_ hb); clear hb hbox hg; obtain ⟨hcz51_0, hcz51_1, hcz51_2, hcz51_3, hcz51_4, hcz51_5⟩ := cl6 BK103.out; obtain ⟨hfz51_0, hfz51_1, hfz51_2, hfz51_3, hfz51_4, hfz51_5⟩ := fr6 BK103.out) | ((with_reducible refine gate_callee (f := 74) rfl ?_); refine goesL_ (some 6) rfl rfl Try.func74 B1x6_ rfl #[.int .i64 a0_3, .int .i64 0, .int .i64 160] rfl B1x0_ ?_; (with_reducible refine (impl_within.calls a0_3 0 160 false _ A2.out).mono ?_); rintro e w' ⟨rfl, ⟨nd, rfl⟩⟩; refine ⟨_, rfl, ?_⟩) | ((with_reducible refine gate_callee (f := 96) rfl ?_); refine goesL_ (some 24) rfl rfl Try.func96 B1x6_ rfl #[.int .i64 a0_0] rfl B1x0_ ?_; (with_reducible refine (impl_isAddr.calls a0_0 true _ A40.out).mono ?_); rintro e w' ⟨rfl, ⟨nd, rfl⟩⟩; refine ⟨_, rfl, ?_⟩) | (go_at_call 96; (with_reducible refine (impl_isAddr.calls a0_1 false _ A42.out).mono ?_); rintro e w' ⟨rfl, ⟨nd, rfl⟩⟩))
    go_ret
    exact ⟨B1x4_, B1x2_⟩
  ·replace c41 := Bool.eq_false_iff.mpr c41
   subst c41
   rw [if_neg (show ¬ (false = true) by decide)] at H
   obtain rfl := Option.some.inj H
   go_enter Try.func38, Try.ntmps38
   go_wp2_with (first | ((with_reducible refine gate_dst (N := 1) rfl ?_); (try (refine gate_guard (by rfl) ?_; dsimp only)); refine box_event ?hg (N := 1) ?hd (cs := #[.int .i64 a0_0, .int .i64 a0_1, .int .i64 a0_2, .int .i64 a0_3, .bool a0_4, .string a0_5]) (t := 62) ?hr ?_; (case hd => rfl); (case hg => rfl); (case hr => exact B1x5_); intro gb103 hg w52 hbox hb; have BK103 := Aside0.mk (hbox); have GW103 := Aside0.mk ((bs hg (below_size HB.out))); have GE103 := Aside0.mk ((bs hg (below_size HB.out))); replace HB := Aside0.mk (below_step B1x1_ hb); clear hb hbox hg; obtain ⟨hcz53_0, hcz53_1, hcz53_2, hcz53_3, hcz53_4, hcz53_5⟩ := cl6 BK103.out; obtain ⟨hfz53_0, hfz53_1, hfz53_2, hfz53_3, hfz53_4, hfz53_5⟩ := fr6 BK103.out) | ((with_reducible refine gate_callee (f := 74) rfl ?_); refine goesL_ (some 6) rfl rfl Try.func74 B1x6_ rfl #[.int .i64 a0_3, .int .i64 0, .int .i64 160] rfl B1x0_ ?_; (with_reducible refine (impl_within.calls a0_3 0 160 false _ A2.out).mono ?_); rintro e w' ⟨rfl, ⟨nd, rfl⟩⟩; refine ⟨_, rfl, ?_⟩) | ((with_reducible refine gate_callee (f := 96) rfl ?_); refine goesL_ (some 24) rfl rfl Try.func96 B1x6_ rfl #[.int .i64 a0_0] rfl B1x0_ ?_; (with_reducible refine (impl_isAddr.calls a0_0 false _ A40.out).mono ?_); rintro e w' ⟨rfl, ⟨nd, rfl⟩⟩; refine ⟨_, rfl, ?_⟩))
   go_ret
   exact ⟨B1x4_, B1x2_⟩

/-! ### impl_copyInts: function 138 -/
def impl_copyInts.f (l0 : List Int) : Option (List Int) := (some (([] : List Int) : List Int)).bind fun y115 => (if y115.length + l0.length < 17592186044416 then (some (y115 ++ l0)) else (none))
set_option maxHeartbeats 8000000 in
set_option maxRecDepth 100000 in
theorem impl_copyInts.calls (A0 : Option Addr) (c0 : Nat) (l0 : List Int) (r : List Int) (w : World) (hr0 : Kd.C (Kd.int .i64) w A0 l0.length l0) (hc0 : l0.length ≤ c0) (h : impl_copyInts.f l0 = some r) :
  Calls Try.prog 138 #[.slice A0 l0.length c0] w fun e w' => ∃ v0_ : Value, e = .returned (v0_) ∧ Kd.R (Kd.int .i64) 3 w' w.heap.size (fun _ => True) v0_ r ∧ Below w.heap.size w w' := by
 have HR0 := Aside0.mk hr0
 have HC0 := Aside0.mk hc0
 clear hr0 hc0
 have HB := Aside0.mk (Below.refl w.heap.size w)
 have H : ((some (([] : List Int) : List Int)).bind fun y115 => (if y115.length + l0.length < 17592186044416 then (some (y115 ++ l0)) else (none))) = some r := h
 clear h
 obtain ⟨y115, hy115⟩ : ∃ y_ : List Int, y_ = (([] : List Int)) := ⟨_, rfl⟩
 replace H : (if y115.length + l0.length < 17592186044416 then (some (y115 ++ l0)) else (none)) = some r := by first | (rw [hy115]; with_reducible exact H) | (have H2_ := (Option.bind_some _ _).symm.trans H; rw [hy115]; with_reducible exact H2_) | (have H2_ := (Option.bind_some _ _).symm.trans H; with_reducible exact H2_) | with_reducible exact H | (rw [hy115]; exact H) | exact H
 have Ny115 := Aside0.mk hy115
 clear hy115
 by_cases c2 : y115.length + l0.length < 17592186044416
 rotate_left
 ·rw [if_neg c2] at H
  exact absurd H (by simp)
 rw [if_pos c2] at H
 have LMc2 := Aside0.mk c2
 clear c2
 obtain ⟨y118, hy118⟩ : ∃ y_ : List Int, y_ = (y115 ++ l0) := ⟨_, rfl⟩
 replace H : (some y118) = some r := by first | (rw [hy118]; with_reducible exact H) | (have H2_ := (Option.bind_some _ _).symm.trans H; rw [hy118]; with_reducible exact H2_) | (have H2_ := (Option.bind_some _ _).symm.trans H; with_reducible exact H2_) | with_reducible exact H | (rw [hy118]; exact H) | exact H
 have Ny118 := Aside0.mk hy118
 clear hy118
 obtain rfl := Option.some.inj H
 go_enter Try.func138, Try.ntmps138
 go_wp2_with (first | ((with_reducible refine gate_dst (N := 3) rfl ?_); refine Kd.R_lit (Kd.int .i64) _ 3 ?hg (N := 3) ?hd (xs := ([] : List Int)) (inner := []) (ok := fun _ => True) (okp := fun _ => True) ?hr ?hp (fun _ hk => hk) trivial (Below.refl _ _) (Nat.le_refl _) (by simp) ?_; (case hd => rfl); (case hg => rfl); (case hr => exact B1x5_); (case hp => exact (Reps.none _ _)); intro v116 w3 ho4 hb hg_ hnew_; clear hg_ hnew_; (first | rw [← Ny115.out] at ho4 | (simp only [Int.reduceToNat] at ho4; rw [← Ny115.out] at ho4)); have HO117 := Aside0.mk (Kd.R_lower ho4 (below_size B1x1_)); replace HB := Aside0.mk (below_step B1x1_ hb); clear hb ho4) | ((with_reducible refine gate_builtin (b := .append) (xs := #[.tmp 3, .tmp 4]) rfl ?_); at_builtin; refine Kd.R_append_rows (Kd.int .i64) (w0 := w) w.heap.size rfl (.tmp 3) (.tmp 4) 51 3 (.int .i64 0) 8 rfl Try.underlying51 info3 rfl (by decide) (by omega) v116 y115 l0 _ _ _ (fun _ => True) (fun _ => False) rfl rfl ?aO ?aR (fun _ _ h => h) (fun _ h => h.elim) ?aF ?aB ?aS ?aL ?_; (case aR => repeat (first | exact (Kd.C_below HR0.out HB.out) | (with_reducible refine Kd.C_alloc ?_ _) | (with_reducible refine Kd.C_drewN ?_ _) | (with_reducible refine Kd.C_drew ?_))); (case aB => exact B1x1_); (case aF => exact (fun _ _ => trivial)); (case aO => (with_reducible repeat (first | apply Kd.R_alloc | apply Kd.R_drewN | apply Kd.R_drew)); exact HO117.out); (case aS => exact (below_size B1x1_)); (case aL => have := LMc2.out; omega); intro v119 w5 ho hb hg hat; rw [← Ny118.out] at ho; replace HB := Aside0.mk (hb); have HO120 := Aside0.mk (ho); clear HO117; clear ho hb hg hat))
 go_ret
 exact ⟨_, by first | rfl | (simp [errW_none, errW_some] <;> rfl) | (simp [*, errW_none, errW_some] <;> rfl), by (with_reducible repeat (first | apply Kd.R_alloc | apply Kd.R_drewN | apply Kd.R_drew)); exact HO120.out, by repeat (first | (with_reducible first | exact HB.out | apply below_alloc | apply pw_below_drewN | apply below_drew1) | exact HB.out)⟩

/-! ### impl_copyBits: function 98 -/
def impl_copyBits.l0 : Nat → List (S82) → List (S82) → Int → Int → Option ((List (S82)))
 | 0, _, _, _, _ => none
 | k + 1, x3, x7, x8, x9 => if x9 < x8 then (if 0 ≤ x9 then (if x9 < (x7.length : Int) then ((some (([] : List ByteArray) : List ByteArray)).bind fun y126 => (if y126.length + ((rd_T82 x7 x9).f2).length < 8796093022208 then ((impl_copyInts.f ((rd_T82 x7 x9).f3)).bind fun t132 => (if x3.length < 1759218604441 then (impl_copyBits.l0 k (x3 ++ [(⟨(rd_T82 x7 x9).f0, (rd_T82 x7 x9).f1, (y126 ++ ((rd_T82 x7 x9).f2)), t132, (rd_T82 x7 x9).f4, (rd_T82 x7 x9).f5⟩ : S82)]) x7 x8 (wrap64 (x9 + 1))) else (none))) else (none))) else (none)) else (none)) else (some x3)
def impl_copyBits.f (k : Nat) (l0 : List (S82)) : Option ((List (S82))) := impl_copyBits.l0 k (([] : List (S82))) l0 (l0.length : Int) 0
theorem impl_copyBits.mono_l : ∀ k, (∀ y0 y1 y2 y3, LeO (impl_copyBits.l0 k y0 y1 y2 y3) (impl_copyBits.l0 (k + 1) y0 y1 y2 y3))
 | 0 => fun _ _ _ _ r h => by simp [impl_copyBits.l0] at h
 | k + 1 => by
  have ih0 := impl_copyBits.mono_l k
  ·intro y0 y1 y2 y3
   unfold impl_copyBits.l0
   repeat' first
   | (with_reducible exact ih0 _ _ _ _)
   | (with_reducible first | exact LeO.refl _ | exact LeO.none _ | refine LeO.ite ?_ ?_ | refine LeO.bind ?_ (fun _ => ?_))
   | exact ih0 _ _ _ _
theorem impl_copyBits.mono : ∀ a0 k, LeO (impl_copyBits.f k a0) (impl_copyBits.f (k + 1) a0) := by
 intro a0 k
 have ih0 := impl_copyBits.mono_l k
 unfold impl_copyBits.f
 repeat' first
   | (with_reducible exact ih0 _ _ _ _)
   | (with_reducible first | exact LeO.refl _ | exact LeO.none _ | refine LeO.ite ?_ ?_ | refine LeO.bind ?_ (fun _ => ?_))
   | exact ih0 _ _ _ _
def impl_copyBits.T5 : Bool × List (List Nat × List Nat) := (true, [([], []), ([], []), ([1], [1]), ([0, 2], [0, 2]), ([], []), ([4], [4]), ([5, 3], [5]), ([0, 1, 2, 3, 4, 5], []), ([7, 3, 6, 0, 1, 2, 3, 4, 5], [3, 7]), ([0, 1, 2, 3, 4, 5, 6, 7, 8], []), ([9, 6, 8, 0, 1, 2, 3, 4, 5, 6, 7, 8], [6, 9])])
def impl_copyBits.B5 : List Nat := [0, 0, 2, 7, 0, 16, 63, 63, 255, 511, 1023]
theorem impl_copyBits.tab5 : rtab .any (opsOf Try.f98 5) = impl_copyBits.T5 := by kernel_rfl
theorem impl_copyBits.bits5 : waitsOk impl_copyBits.T5.2 impl_copyBits.B5 = true := by kernel_rfl
set_option maxHeartbeats 8000000 in
set_option maxRecDepth 100000 in
theorem impl_copyBits.calls (k : Nat) (A0 : Option Addr) (c0 : Nat) (l0 : List (S82)) (r : List (S82)) (w : World) (hr0 : Kd.C k82 w A0 l0.length l0) (hc0 : l0.length ≤ c0) (h : impl_copyBits.f k l0 = some r) :
  Calls Try.prog 98 #[.slice A0 l0.length c0] w fun e w' => ∃ v0_ : Value, e = .returned (v0_) ∧ Kd.S k82 82 w' w.heap.size (fun _ => True) v0_ r ∧ Below w.heap.size w w' := by
 have hu82 := Try.underlying82
 have HR0 := Aside0.mk hr0
 have HC0 := Aside0.mk hc0
 clear hr0 hc0
 have HB := Aside0.mk (Below.refl w.heap.size w)
 have H : (impl_copyBits.l0 k (([] : List (S82))) l0 (l0.length : Int) 0) = some r := h
 clear h
 obtain ⟨y121, hy121⟩ : ∃ y_ : List (S82), y_ = (([] : List (S82))) := ⟨_, rfl⟩
 replace H : (impl_copyBits.l0 k y121 l0 (l0.length : Int) 0) = some r := by first | (rw [hy121]; with_reducible exact H) | (have H2_ := (Option.bind_some _ _).symm.trans H; rw [hy121]; with_reducible exact H2_) | (have H2_ := (Option.bind_some _ _).symm.trans H; with_reducible exact H2_) | with_reducible exact H | (rw [hy121]; exact H) | exact H
 have Ny121 := Aside0.mk hy121
 clear hy121
 have H' := Aside0.mk H
 clear H
 go_enter Try.func98, Try.ntmps98
 go_wp2_with (first | ((with_reducible refine gate_dst (N := 6) rfl ?_); refine Kd.S_lit k82 _ 82 ?hg (N := 6) ?hd (xs := ([] : List (S82))) (inner := []) (ok := fun _ => True) (okp := fun _ => True) ?hr ?hp (fun _ hk => hk) trivial (Below.refl _ _) (Nat.le_refl _) (by simp) ?_; (case hd => rfl); (case hg => rfl); (case hr => exact B1x5_); (case hp => exact (Reps.none _ _)); intro v122 w2 ho3 hb hg_ hnew_; clear hg_ hnew_; (first | rw [← Ny121.out] at ho3 | (simp only [Int.reduceToNat] at ho3; rw [← Ny121.out] at ho3)); have HO123 := Aside0.mk (Kd.S_lower ho3 (below_size B1x1_)); replace HB := Aside0.mk (below_step B1x1_ hb); clear hb ho3))
 go_loopg [3, 9] k (fun kq v3 v9 w' => ∃ (x3_1 : List (S82)) (x9_1 : Int), v9 = .int .i64 x9_1 ∧ Aside0 (impl_copyBits.l0 kq x3_1 l0 (l0.length : Int) x9_1 = some r) ∧ Aside0 (kq ≤ k) ∧ Aside0 (Kd.S k82 82 w' w.heap.size (fun _ => True) v3 x3_1) ∧ Aside0 (Below w.heap.size w w'))
 case atStart => exact ⟨(y121), (0), (be_), H', ⟨Nat.le_refl _⟩, ⟨(by (with_reducible repeat (first | apply Kd.S_alloc | apply Kd.S_drewN | apply Kd.S_drew)); exact HO123.out)⟩, ⟨B1x1_⟩⟩
 case round =>
  clear H'
  obtain ⟨x3_1, x9_1, rfl, HA, HK1, HO_3, HB⟩ := hrel
  cases gk with
  | zero => exact absurd HA.out (by simp [impl_copyBits.l0])
  | succ k1 =>
   have H := HA.out
   clear HA
   simp only [impl_copyBits.l0] at H
   by_cases c4 : x9_1 < (l0.length : Int)
   ·rw [if_pos c4] at H
    have c4b0 : decide (x9_1 < (l0.length : Int)) = true := decide_eq_true c4
    clear c4
    by_cases c5 : 0 ≤ x9_1
    rotate_left
    ·rw [if_neg c5] at H
     exact absurd H (by simp)
    rw [if_pos c5] at H
    have c5b0 : decide (0 ≤ x9_1) = true := decide_eq_true c5
    clear c5
    by_cases c6 : x9_1 < (l0.length : Int)
    rotate_left
    ·rw [if_neg c6] at H
     exact absurd H (by simp)
    rw [if_pos c6] at H
    have c6b0 : decide (x9_1 < (l0.length : Int)) = true := decide_eq_true c6
    clear c6
    obtain ⟨y126, hy126⟩ : ∃ y_ : List ByteArray, y_ = (([] : List ByteArray)) := ⟨_, rfl⟩
    replace H : (if y126.length + ((rd_T82 l0 x9_1).f2).length < 8796093022208 then ((impl_copyInts.f ((rd_T82 l0 x9_1).f3)).bind fun t132 => (if x3_1.length < 1759218604441 then (impl_copyBits.l0 k1 (x3_1 ++ [(⟨(rd_T82 l0 x9_1).f0, (rd_T82 l0 x9_1).f1, (y126 ++ ((rd_T82 l0 x9_1).f2)), t132, (rd_T82 l0 x9_1).f4, (rd_T82 l0 x9_1).f5⟩ : S82)]) l0 (l0.length : Int) (wrap64 (x9_1 + 1))) else (none))) else (none)) = some r := by first | (rw [hy126]; with_reducible exact H) | (have H2_ := (Option.bind_some _ _).symm.trans H; rw [hy126]; with_reducible exact H2_) | (have H2_ := (Option.bind_some _ _).symm.trans H; with_reducible exact H2_) | with_reducible exact H | (rw [hy126]; exact H) | exact H
    have Ny126 := Aside0.mk hy126
    clear hy126
    by_cases c7 : y126.length + ((rd_T82 l0 x9_1).f2).length < 8796093022208
    rotate_left
    ·rw [if_neg c7] at H
     exact absurd H (by simp)
    rw [if_pos c7] at H
    have LMc7 := Aside0.mk c7
    clear c7
    obtain ⟨y129, hy129⟩ : ∃ y_ : List ByteArray, y_ = (y126 ++ ((rd_T82 l0 x9_1).f2)) := ⟨_, rfl⟩
    replace H : ((impl_copyInts.f ((rd_T82 l0 x9_1).f3)).bind fun t132 => (if x3_1.length < 1759218604441 then (impl_copyBits.l0 k1 (x3_1 ++ [(⟨(rd_T82 l0 x9_1).f0, (rd_T82 l0 x9_1).f1, y129, t132, (rd_T82 l0 x9_1).f4, (rd_T82 l0 x9_1).f5⟩ : S82)]) l0 (l0.length : Int) (wrap64 (x9_1 + 1))) else (none))) = some r := by first | (rw [hy129]; with_reducible exact H) | (have H2_ := (Option.bind_some _ _).symm.trans H; rw [hy129]; with_reducible exact H2_) | (have H2_ := (Option.bind_some _ _).symm.trans H; with_reducible exact H2_) | with_reducible exact H | (rw [hy129]; exact H) | exact H
    have Ny129 := Aside0.mk hy129
    clear hy129
    replace H := bsi H
    obtain ⟨t132, A8, H⟩ := H
    (try dsimp only at H)
    by_cases c9 : x3_1.length < 1759218604441
    rotate_left
    ·rw [if_neg c9] at H
     exact absurd H (by simp)
    rw [if_pos c9] at H
    have LMc9 := Aside0.mk c9
    clear c9
    obtain ⟨y135, hy135⟩ : ∃ y_ : List (S82), y_ = (x3_1 ++ [(⟨(rd_T82 l0 x9_1).f0, (rd_T82 l0 x9_1).f1, y129, t132, (rd_T82 l0 x9_1).f4, (rd_T82 l0 x9_1).f5⟩ : S82)]) := ⟨_, rfl⟩
    replace H : (impl_copyBits.l0 k1 y135 l0 (l0.length : Int) (wrap64 (x9_1 + 1))) = some r := by first | (rw [hy135]; with_reducible exact H) | (have H2_ := (Option.bind_some _ _).symm.trans H; rw [hy135]; with_reducible exact H2_) | (have H2_ := (Option.bind_some _ _).symm.trans H; with_reducible exact H2_) | with_reducible exact H | (rw [hy135]; exact H) | exact H
    have Ny135 := Aside0.mk hy135
    clear hy135
    have H' := Aside0.mk H
    clear H
    have p124 : 0 ≤ (x9_1 : Int) := of_decide_eq_true B1x12_
    have q124 : x9_1 < (l0.length : Int) := of_decide_eq_true B1x12_
    obtain ⟨ad124, A124_2, c124_2, A124_3, c124_3, e124, hx124_0, hx124_1, hx124_2, hx124_3, hx124_4, hx124_5, hl124_2, hi124_2, hl124_3, hi124_3⟩ := at_T82 HR0.out x9_1 p124 q124
    cases e124
    replace hx124_0 := (HB.out.cell (World.block_lt_of_cell? w _ hx124_0)).trans hx124_0
    replace hx124_1 := (HB.out.cell (World.block_lt_of_cell? w _ hx124_1)).trans hx124_1
    replace hx124_2 := (HB.out.cell (World.block_lt_of_cell? w _ hx124_2)).trans hx124_2
    replace hx124_3 := (HB.out.cell (World.block_lt_of_cell? w _ hx124_3)).trans hx124_3
    replace hx124_4 := (HB.out.cell (World.block_lt_of_cell? w _ hx124_4)).trans hx124_4
    replace hx124_5 := (HB.out.cell (World.block_lt_of_cell? w _ hx124_5)).trans hx124_5
    have HR124_2 := Aside0.mk hi124_2
    have HC124_2 := Aside0.mk hl124_2
    clear hi124_2 hl124_2
    have HR124_3 := Aside0.mk hi124_3
    have HC124_3 := Aside0.mk hl124_3
    clear hi124_3 hl124_3
    replace p124 := eq_true p124
    replace q124 := eq_true q124
    try go_wp2_with (first | ((with_reducible refine gate_dst (N := 5) rfl ?_); refine box_event ?hg (N := 5) ?hd (cs := #[.int .i64 0, .int .i64 0, .slice none 0 0, .slice none 0 0, .int .i64 0, .int .i64 0]) (t := 82) ?hr ?_; (case hd => rfl); (case hg => rfl); (case hr => exact B1x5_); intro gb125 hg w10 hbox hb; replace HO_3 := Aside0.mk (Kd.S_below (Kd.S_elderB B1x7_ gb125 (Nat.le_of_eq hg.symm)) hb); have BK125 := Aside0.mk (hbox); have GW125 := Aside0.mk ((bs hg (below_size HB.out))); have GE125 := Aside0.mk ((bs hg (below_size HB.out))); replace HB := Aside0.mk (below_step B1x1_ hb); clear hb hbox hg; obtain ⟨hcz11_0, hcz11_1, hcz11_2, hcz11_3, hcz11_4, hcz11_5⟩ := cl6 BK125.out; obtain ⟨hfz11_0, hfz11_1, hfz11_2, hfz11_3, hfz11_4, hfz11_5⟩ := fr6 BK125.out) | ((with_reducible refine gate_store (t := 82) (p := 5) rfl ?_); refine store_event (t := 82) (p := 5) (v := ?vo_w12) (w1 := ((((((w10.setCell ⟨gb125, 0, none⟩ (.int .i64 ((rd_T82 l0 x9_1).f0))).setCell ⟨gb125, 1, none⟩ (.int .i64 ((rd_T82 l0 x9_1).f1))).setCell ⟨gb125, 2, none⟩ (.slice A124_2 ((rd_T82 l0 x9_1).f2).length c124_2)).setCell ⟨gb125, 3, none⟩ (.slice A124_3 ((rd_T82 l0 x9_1).f3).length c124_3)).setCell ⟨gb125, 4, none⟩ (.int .i64 ((rd_T82 l0 x9_1).f4))).setCell ⟨gb125, 5, none⟩ (.int .i64 ((rd_T82 l0 x9_1).f5)))) ?hg ?ho ?hn ?hr ?_; (case ho => rfl); (case hg => rfl); (case hn => rfl); (case hr => exact B1x5_); intro w12 hw; replace HO_3 : Aside0 (Kd.S k82 82 w12 w.heap.size (fun k_ => k_ ≠ gb125) u3 x3_1) := ⟨(by rw [hw]; exact (by (with_reducible repeat (first | apply Kd.S_alloc | apply Kd.S_drewN | apply Kd.S_drew)); exact Kd.S_mono (Kd.S_far (p := ⟨gb125, 5, none⟩) (Kd.S_far (p := ⟨gb125, 4, none⟩) (Kd.S_far (p := ⟨gb125, 3, none⟩) (Kd.S_far (p := ⟨gb125, 2, none⟩) (Kd.S_far (p := ⟨gb125, 1, none⟩) (Kd.S_far (p := ⟨gb125, 0, none⟩) (Kd.S_mono HO_3.out (fun k_ hk => (⟨hk, hk.2⟩ : _ ∧ k_ ≠ gb125))) (fun _ hk => hk.2) (.int .i64 ((rd_T82 l0 x9_1).f0))) (fun _ hk => hk.2) (.int .i64 ((rd_T82 l0 x9_1).f1))) (fun _ hk => hk.2) (.slice A124_2 ((rd_T82 l0 x9_1).f2).length c124_2)) (fun _ hk => hk.2) (.slice A124_3 ((rd_T82 l0 x9_1).f3).length c124_3)) (fun _ hk => hk.2) (.int .i64 ((rd_T82 l0 x9_1).f4))) (fun _ hk => hk.2) (.int .i64 ((rd_T82 l0 x9_1).f5))) (fun _ hk => hk.1.2)))⟩; replace BK125 : Aside0 (w12.heap[gb125]? = some (.cells #[.int .i64 ((rd_T82 l0 x9_1).f0), .int .i64 ((rd_T82 l0 x9_1).f1), .slice A124_2 ((rd_T82 l0 x9_1).f2).length c124_2, .slice A124_3 ((rd_T82 l0 x9_1).f3).length c124_3, .int .i64 ((rd_T82 l0 x9_1).f4), .int .i64 ((rd_T82 l0 x9_1).f5)] 82 (0, 0))) := ⟨(by rw [hw]; exact B1x8_)⟩; replace HB : Aside0 (Below w.heap.size w w12) := ⟨(by rw [hw]; exact B1x3_)⟩; clear hw))
    replace HO_3 := Aside0.mk (Kd.S_drew HO_3.out)
    replace BK125 := Aside0.mk (blk_drew BK125.out)
    replace HB := Aside0.mk (below_drew1 HB.out)
    refine start_ (n := 11) (S := fun w' => w'.cell? ⟨gb125, 0, none⟩ = some (.int .i64 ((rd_T82 l0 x9_1).f0)) ∧ w'.cell? ⟨gb125, 1, none⟩ = some (.int .i64 ((rd_T82 l0 x9_1).f1)) ∧ w'.cell? ⟨gb125, 2, none⟩ = some (.slice A124_2 ((rd_T82 l0 x9_1).f2).length c124_2) ∧ w'.cell? ⟨gb125, 3, none⟩ = some (.slice A124_3 ((rd_T82 l0 x9_1).f3).length c124_3) ∧ w'.cell? ⟨gb125, 4, none⟩ = some (.int .i64 ((rd_T82 l0 x9_1).f4)) ∧ w'.cell? ⟨gb125, 5, none⟩ = some (.int .i64 ((rd_T82 l0 x9_1).f5))) (ds := [8, 10]) #[false, false, false, false, false, false, false, false, false, false, false] B1x6_ rfl rfl ⟨(blk_cell BK125.out 0).trans rfl, (blk_cell BK125.out 1).trans rfl, (blk_cell BK125.out 2).trans rfl, (blk_cell BK125.out 3).trans rfl, (blk_cell BK125.out 4).trans rfl, (blk_cell BK125.out 5).trans rfl⟩ (fun hHeld => ?_); refine with_tabW impl_copyBits.tab5 impl_copyBits.bits5 (fun HT_ HW_ => ?_)
    generalize w12.drew = w13 at HO_3 BK125 HB hHeld ⊢
    refine pu_ 1 14 HT_ ?_
    refine pu_ 4 17 HT_ ?_
    refine ta_ 2 15 HT_ HW_ hHeld ?_
    refine ta_ 5 18 HT_ HW_ hHeld ?_
    refine one_ (i := 0) (N := some 13) #[true, true, true, false, true, true, false, false, false, false, false] rfl rfl (one_of HT_.out B1x6_) (by decide) (fun K hK => ?_)
    refine Kd.R_lit_step Kd.string _ 9 ?hg (N := 13) ?hd (xs := ([] : List ByteArray)) (inner := []) (ok := fun _ => True) (okp := fun _ => True) ?hr ?hp (fun _ hk => hk) trivial (Below.refl _ _) (Nat.le_refl _) (by simp) ?_; (case hd => rfl); (case hg => rfl); (case hr => exact B1x5_); (case hp => exact (Reps.none _ _))
    intro v127 w14 ho15 hb hg_ hnew_
    clear hg_ hnew_
    (first | rw [← Ny126.out] at ho15 | (simp only [Int.reduceToNat] at ho15; rw [← Ny126.out] at ho15))
    replace HO_3 := Aside0.mk (Kd.S_elder' B1x7_ (Kd.R_base ho15) hb)
    have HO128 := Aside0.mk (Kd.R_lower ho15 (below_size B1x3_))
    replace BK125 := Aside0.mk (bb BK125.out hb)
    replace HB := Aside0.mk (below_step B1x3_ hb)
    clear hb ho15
    refine hK.out _ _ ⟨(blk_cell BK125.out 0).trans rfl, (blk_cell BK125.out 1).trans rfl, (blk_cell BK125.out 2).trans rfl, (blk_cell BK125.out 3).trans rfl, (blk_cell BK125.out 4).trans rfl, (blk_cell BK125.out 5).trans rfl⟩ (fun hHeld => ?_)
    clear hK K
    refine norm_ (a' := ?_) ?_ ?_
    rotate_left
    ·show Act.put _ (some 13) _ = _
     simp only [Act.put, List.setIfInBounds_toArray, List.set_cons_zero, List.set_cons_succ, i64_w, i32_w]
     rfl
    refine one_ (i := 3) (N := some 16) #[true, true, true, true, true, true, false, false, false, false, false] rfl rfl (one_of HT_.out B1x6_) (by decide) (fun K hK => ?_)
    refine Kd.R_append_rows_step Kd.string (w0 := w) w.heap.size (by rfl) (.tmp 13) (.tmp 15) 25 9 (.string ⟨#[]⟩) 16 rfl Try.underlying25 info9 rfl (by decide) (by omega) v127 y126 ((rd_T82 l0 x9_1).f2) _ _ _ (fun _ => True) (fun _ => False) rfl rfl ?aO ?aR (fun _ _ h => h) (fun _ h => h.elim) ?aF ?aB ?aS ?aL ?_
    (case aR => repeat (first | exact (Kd.C_below HR124_2.out HB.out) | (with_reducible refine Kd.C_alloc ?_ _) | (with_reducible refine Kd.C_drewN ?_ _) | (with_reducible refine Kd.C_drew ?_)))
    (case aB => exact B1x3_)
    (case aF => exact (fun _ _ => trivial))
    (case aO => (with_reducible repeat (first | apply Kd.R_alloc | apply Kd.R_drewN | apply Kd.R_drew)); exact HO128.out)
    (case aS => exact (below_size B1x3_))
    (case aL => have := LMc7.out; omega)
    intro v130 w16 ho hb hg hat
    rw [← Ny129.out] at ho
    replace HO_3 := Aside0.mk (Kd.S_after (ok := (fun k_ => k_ ≠ gb125)) B1x7_ hg hat)
    replace BK125 := Aside0.mk (blk_grown (g := gb125) (o := .cells #[.int .i64 ((rd_T82 l0 x9_1).f0), .int .i64 ((rd_T82 l0 x9_1).f1), .slice A124_2 ((rd_T82 l0 x9_1).f2).length c124_2, .slice A124_3 ((rd_T82 l0 x9_1).f3).length c124_3, .int .i64 ((rd_T82 l0 x9_1).f4), .int .i64 ((rd_T82 l0 x9_1).f5)] 82 (0, 0)) B1x9_ hg (Kd.R_ne HO128.out BK125.out (by decide)))
    replace HB := Aside0.mk (hb)
    have HO131 := Aside0.mk (ho)
    clear HO128
    clear ho hb hg hat
    refine hK.out _ _ ⟨(blk_cell BK125.out 0).trans rfl, (blk_cell BK125.out 1).trans rfl, (blk_cell BK125.out 2).trans rfl, (blk_cell BK125.out 3).trans rfl, (blk_cell BK125.out 4).trans rfl, (blk_cell BK125.out 5).trans rfl⟩ (fun hHeld => ?_)
    clear hK K
    refine norm_ (a' := ?_) ?_ ?_
    rotate_left
    ·show Act.put _ (some 16) _ = _
     simp only [Act.put, List.setIfInBounds_toArray, List.set_cons_zero, List.set_cons_succ, i64_w, i32_w]
     rfl
    refine pu_ 7 20 HT_ ?_
    refine one_ (i := 6) (N := some 19) #[true, true, true, true, true, true, true, true, false, false, false] rfl rfl (one_of HT_.out B1x6_) (by decide) (fun K hK => ?_)
    refine goes_ Try.func138 B1x6_ rfl #[.slice A124_3 ((rd_T82 l0 x9_1).f3).length c124_3] (by rfl) rfl rfl B1x0_ ?_
    with_reducible refine (impl_copyInts.calls _ _ ((rd_T82 l0 x9_1).f3) t132 _ ?side1 ?side2 A8.out).mono ?_
    (case side1 => repeat (first | exact (Kd.C_below HR124_3.out HB.out) | (with_reducible refine Kd.C_alloc ?_ _) | (with_reducible refine Kd.C_drewN ?_ _) | (with_reducible refine Kd.C_drew ?_)))
    (case side2 => exact HC124_3.out)
    rintro e w17 ⟨v133, rfl, ho0, hb⟩
    refine ⟨_, rfl, ?_⟩
    replace HO_3 := Aside0.mk (Kd.S_elder' B1x7_ (Kd.R_base ho0) hb)
    replace HO131 := Aside0.mk (Kd.R_below (by (with_reducible repeat (first | apply Kd.R_alloc | apply Kd.R_drewN | apply Kd.R_drew)); exact HO131.out) hb)
    have HO134 := Aside0.mk (Kd.R_lower ho0 (below_size B1x3_))
    replace BK125 := Aside0.mk (bb BK125.out hb)
    replace HB := Aside0.mk (below_step B1x3_ hb)
    (try clear hb)
    (try clear hb2)
    (try clear hk)
    (try clear hi)
    (try clear hl)
    (try clear ho0)
    obtain ⟨Ao18, co18, eo18⟩ := Kd.R_slice HO131.out
    (first | subst eo18 | (injection eo18 with f1_ f2_ f3_; have f4_ := f1_.symm; have f5_ := f3_.symm; clear f1_ f2_ f3_; subst f4_; subst f5_))
    obtain ⟨Ao20, co20, eo20⟩ := Kd.R_slice HO134.out
    (first | subst eo20 | (injection eo20 with f1_ f2_ f3_; have f4_ := f1_.symm; have f5_ := f3_.symm; clear f1_ f2_ f3_; subst f4_; subst f5_))
    refine hK.out _ _ ⟨(blk_cell BK125.out 0).trans rfl, (blk_cell BK125.out 1).trans rfl, (blk_cell BK125.out 2).trans rfl, (blk_cell BK125.out 3).trans rfl, (blk_cell BK125.out 4).trans rfl, (blk_cell BK125.out 5).trans rfl⟩ (fun hHeld => ?_)
    clear hK K
    refine norm_ (a' := ?_) ?_ ?_
    rotate_left
    ·show Act.put _ (some 19) _ = _
     simp only [Act.put, List.setIfInBounds_toArray, List.set_cons_zero, List.set_cons_succ, i64_w, i32_w]
     rfl
    refine last_ (i := 8) (N := none) #[true, true, true, true, true, true, true, true, true, false, false] rfl rfl (one_of HT_.out B1x6_) (by decide) (fun K hK => ?_)
    have hs19 : w17.cell? ⟨gb125, 2, none⟩ = some (.slice A124_2 ((rd_T82 l0 x9_1).f2).length c124_2) := (blk_cell BK125.out 2).trans rfl
    have hfs19 := blk_frozen BK125.out 2
    refine skip_ (w1 := ?_) (by rfl) rfl ?_ ?_
    rotate_left
    ·go_simp
     rfl
    refine hK.out _ _ ?_
    clear hK K
    refine pu_ 9 21 HT_ ?_
    refine last_ (i := 10) (N := none) #[true, true, true, true, true, true, true, true, true, true, true] rfl rfl (one_of HT_.out B1x6_) (by decide) (fun K hK => ?_)
    have hs21 : w17.cell? ⟨gb125, 3, none⟩ = some (.slice A124_3 ((rd_T82 l0 x9_1).f3).length c124_3) := (blk_cell BK125.out 3).trans rfl
    have hfs21 := blk_frozen BK125.out 3
    refine skip_ (w1 := ?_) (by rfl) rfl ?_ ?_
    rotate_left
    ·go_simp
     rfl
    refine hK.out _ _ ?_
    clear hK K
    refine done_ (done_of HT_.out B1x6_) ?_
    have n0_ : Aside0 (Kd.S k82 82 ((w17.setCell ⟨gb125, 2, none⟩ (.slice Ao18 y129.length co18)).setCell ⟨gb125, 3, none⟩ (.slice Ao20 t132.length co20)) w.heap.size (fun k_ => some k_ ≠ (.slice Ao18 y129.length co18 : Value).ownBlock ∧ some k_ ≠ (.slice Ao20 t132.length co20 : Value).ownBlock ∧ k_ ≠ gb125) u3 x3_1) := ⟨(by (with_reducible repeat (first | apply Kd.S_alloc | apply Kd.S_drewN | apply Kd.S_drew)); exact Kd.S_mono (Kd.S_far (p := ⟨gb125, 3, none⟩) (Kd.S_far (p := ⟨gb125, 2, none⟩) (Kd.S_mono HO_3.out (fun k_ hk => (⟨hk, hk.1.1⟩ : _ ∧ k_ ≠ gb125))) (fun _ hk => hk.2) (.slice Ao18 y129.length co18)) (fun _ hk => hk.2) (.slice Ao20 t132.length co20)) (fun _ hk => ⟨hk.1.1.2, ⟨hk.1.2, hk.1.1.1⟩⟩))⟩
    have n1_ : Aside0 (Kd.R Kd.string 9 ((w17.setCell ⟨gb125, 2, none⟩ (.slice Ao18 y129.length co18)).setCell ⟨gb125, 3, none⟩ (.slice Ao20 t132.length co20)) w.heap.size (fun _ => True) (.slice Ao18 y129.length co18) y129) := ⟨(by (with_reducible repeat (first | apply Kd.R_alloc | apply Kd.R_drewN | apply Kd.R_drew)); exact Kd.R_mono (Kd.R_far (p := ⟨gb125, 3, none⟩) (Kd.R_far (p := ⟨gb125, 2, none⟩) (Kd.R_types HO131.out BK125.out (by decide)) (fun _ hk => hk.2) (.slice Ao18 y129.length co18)) (fun _ hk => hk.2) (.slice Ao20 t132.length co20)) (fun _ hk => trivial))⟩
    have n2_ : Aside0 (Kd.R (Kd.int .i64) 3 ((w17.setCell ⟨gb125, 2, none⟩ (.slice Ao18 y129.length co18)).setCell ⟨gb125, 3, none⟩ (.slice Ao20 t132.length co20)) w.heap.size (fun _ => True) (.slice Ao20 t132.length co20) t132) := ⟨(by (with_reducible repeat (first | apply Kd.R_alloc | apply Kd.R_drewN | apply Kd.R_drew)); exact Kd.R_mono (Kd.R_far (p := ⟨gb125, 3, none⟩) (Kd.R_far (p := ⟨gb125, 2, none⟩) (Kd.R_types HO134.out BK125.out (by decide)) (fun _ hk => hk.2) (.slice Ao18 y129.length co18)) (fun _ hk => hk.2) (.slice Ao20 t132.length co20)) (fun _ hk => trivial))⟩
    have n3_ : Aside0 (((w17.setCell ⟨gb125, 2, none⟩ (.slice Ao18 y129.length co18)).setCell ⟨gb125, 3, none⟩ (.slice Ao20 t132.length co20)).heap[gb125]? = some (.cells #[.int .i64 ((rd_T82 l0 x9_1).f0), .int .i64 ((rd_T82 l0 x9_1).f1), .slice Ao18 y129.length co18, .slice Ao20 t132.length co20, .int .i64 ((rd_T82 l0 x9_1).f4), .int .i64 ((rd_T82 l0 x9_1).f5)] 82 (0, 0))) := ⟨B1x8_⟩
    have n4_ : Aside0 (Below w.heap.size w ((w17.setCell ⟨gb125, 2, none⟩ (.slice Ao18 y129.length co18)).setCell ⟨gb125, 3, none⟩ (.slice Ao20 t132.length co20))) := ⟨B1x3_⟩
    (try clear HO_3)
    (try clear HO131)
    (try clear HO134)
    (try clear BK125)
    (try clear HB)
    generalize ((w17.setCell ⟨gb125, 2, none⟩ (.slice Ao18 y129.length co18)).setCell ⟨gb125, 3, none⟩ (.slice Ao20 t132.length co20)) = w22 at n0_ n1_ n2_ n3_ n4_ ⊢
    have HO_3 := n0_
    have HO131 := n1_
    have HO134 := n2_
    have BK125 := n3_
    have HB := n4_
    clear n0_ n1_ n2_ n3_ n4_
    obtain ⟨hcz23_0, hcz23_1, hcz23_2, hcz23_3, hcz23_4, hcz23_5⟩ := cl6 BK125.out
    obtain ⟨hfz23_0, hfz23_1, hfz23_2, hfz23_3, hfz23_4, hfz23_5⟩ := fr6 BK125.out
    try go_wp2_with (first | ((with_reducible refine gate_builtin (b := .append) (xs := #[.tmp 22, .tmp 24]) rfl ?_); at_builtin; refine Kd.S_append k82 (w0 := w) w.heap.size rfl (.tmp 22) (.tmp 24) 68 82 (.agg #[(.int .i64 0), (.int .i64 0), (.slice none 0 0), (.slice none 0 0), (.int .i64 0), (.int .i64 0)]) 80 rfl Try.underlying68 info82 rfl (by decide) (by omega) u3 x3_1 (⟨(rd_T82 l0 x9_1).f0, (rd_T82 l0 x9_1).f1, y129, t132, (rd_T82 l0 x9_1).f4, (rd_T82 l0 x9_1).f5⟩ : S82) [.int .i64 ((rd_T82 l0 x9_1).f0), .int .i64 ((rd_T82 l0 x9_1).f1), .slice Ao18 y129.length co18, .slice Ao20 t132.length co20, .int .i64 ((rd_T82 l0 x9_1).f4), .int .i64 ((rd_T82 l0 x9_1).f5)] (fun k_ => k_ ≠ gb125) (fun k_ => some k_ = (.slice Ao18 y129.length co18 : Value).ownBlock ∨ some k_ = (.slice Ao20 t132.length co20 : Value).ownBlock) rfl rfl ?aP (fun k_ hk_ => hk_.elim (fun h_ => ((Kd.R_mono (ok' := fun k_ => ((fun k_ => k_ ≠ gb125)) k_ ∧ some k_ ≠ (u3 : Value).ownBlock) (Kd.R_types (Kd.R_apart' (HO131.out) (Kd.S_typed HO_3.out) (by decide)) BK125.out (by decide)) (fun k_ hk => ⟨hk.2, hk.1.2⟩))).1 k_ h_.symm) (fun h_ => ((Kd.R_mono (ok' := fun k_ => ((fun k_ => k_ ≠ gb125)) k_ ∧ some k_ ≠ (u3 : Value).ownBlock) (Kd.R_types (Kd.R_apart' (HO134.out) (Kd.S_typed HO_3.out) (by decide)) BK125.out (by decide)) (fun k_ hk => ⟨hk.2, hk.1.2⟩))).1 k_ h_.symm)) ?aF ?aO ?aB ?aS ?aL ?_; (case aP => exact k82_mkM _ _ _ (⟨(rd_T82 l0 x9_1).f0, (rd_T82 l0 x9_1).f1, y129, t132, (rd_T82 l0 x9_1).f4, (rd_T82 l0 x9_1).f5⟩ : S82) (Kd.R_mono (Kd.R_tight rfl (Kd.R_mono (ok' := fun k_ => ((fun k_ => k_ ≠ gb125)) k_ ∧ some k_ ≠ (u3 : Value).ownBlock) (Kd.R_types (Kd.R_apart' (HO131.out) (Kd.S_typed HO_3.out) (by decide)) BK125.out (by decide)) (fun k_ hk => ⟨hk.2, hk.1.2⟩))) (fun _ h_ => Or.inl h_)) (Kd.R_mono (Kd.R_tight rfl (Kd.R_mono (ok' := fun k_ => ((fun k_ => k_ ≠ gb125)) k_ ∧ some k_ ≠ (u3 : Value).ownBlock) (Kd.R_types (Kd.R_apart' (HO134.out) (Kd.S_typed HO_3.out) (by decide)) BK125.out (by decide)) (fun k_ hk => ⟨hk.2, hk.1.2⟩))) (fun _ h_ => Or.inr (h_)))); (case aB => exact B1x3_); (case aF => exact (fun k_ hk => Kd.freshB (g := gb125) (o := .cells #[.int .i64 ((rd_T82 l0 x9_1).f0), .int .i64 ((rd_T82 l0 x9_1).f1), .slice Ao18 y129.length co18, .slice Ao20 t132.length co20, .int .i64 ((rd_T82 l0 x9_1).f4), .int .i64 ((rd_T82 l0 x9_1).f5)] 82 (0, 0)) B1x9_ k_ hk)); (case aO => (with_reducible repeat (first | apply Kd.S_alloc | apply Kd.S_drewN | apply Kd.S_drew)); exact Kd.S_mono HO_3.out (fun k_ hk => ⟨hk.2.2, fun e_ => e_.elim (fun h_ => hk.1 h_) (fun h_ => hk.2.1 h_)⟩)); (case aS => exact (below_size B1x3_)); (case aL => have := LMc9.out; omega); intro v136 w24 ho hb hg hat; rw [← Ny135.out] at ho; replace BK125 := Aside0.mk (blk_grown (g := gb125) (o := .cells #[.int .i64 ((rd_T82 l0 x9_1).f0), .int .i64 ((rd_T82 l0 x9_1).f1), .slice Ao18 y129.length co18, .slice Ao20 t132.length co20, .int .i64 ((rd_T82 l0 x9_1).f4), .int .i64 ((rd_T82 l0 x9_1).f5)] 82 (0, 0)) B1x9_ hg (Kd.S_away HO_3.out (fun _ hk => hk.2.2))); replace HB := Aside0.mk (hb); have HO137 := Aside0.mk (ho); clear HO_3; clear HO131; clear HO134; clear ho hb hg hat))
    go_roundg k1
    case measure => have := HK1.out; omega
    case rel => exact ⟨(y135), (wrap64 (x9_1 + 1)), (be_), H', ⟨(by have := HK1.out; omega)⟩, ⟨(by (with_reducible repeat (first | apply Kd.S_alloc | apply Kd.S_drewN | apply Kd.S_drew)); exact Kd.S_mono HO137.out (fun _ hk => trivial))⟩, ⟨B1x3_⟩⟩
   ·rw [if_neg c4] at H
    have c4b0 : decide (x9_1 < (l0.length : Int)) = false := decide_eq_false c4
    clear c4
    obtain rfl := Option.some.inj H
    go_wp2
    go_ret
    exact ⟨_, by first | rfl | (simp [errW_none, errW_some] <;> rfl) | (simp [*, errW_none, errW_some] <;> rfl), by (with_reducible repeat (first | apply Kd.S_alloc | apply Kd.S_drewN | apply Kd.S_drew)); exact HO_3.out, by repeat (first | (with_reducible first | exact HB.out | apply below_alloc | apply pw_below_drewN | apply below_drew1) | exact HB.out)⟩

/-! ### impl_Bits: function 99 -/
def impl_Bits.l0 : Nat → List S82 → Int → Int → Int → Int → Bool → ByteArray → Int → Option (Int)
 | 0, _, _, _, _, _, _, _, _ => none
 | k + 1, l, d0, d1, d2, d3, d4, d5, j => if j < (l.length : Int) then (if 0 ≤ j then (if ((rd_T82 l j).f0 == d0 && (rd_T82 l j).f1 == d2) = true then (some j) else (impl_Bits.l0 k l d0 d1 d2 d3 d4 d5 (wrap64 (j + 1)))) else (none)) else (some (-1))
def impl_Bits.f (k : Nat) (l0 : List S82) (d0 d1 d2 d3 : Int) (d4 : Bool) (d5 : ByteArray) : Option (Int) := impl_Bits.l0 k l0 d0 d1 d2 d3 d4 d5 0
theorem impl_Bits.mono_l : ∀ k, (∀ y0 y1 y2 y3 y4 y5 y6 y7, LeO (impl_Bits.l0 k y0 y1 y2 y3 y4 y5 y6 y7) (impl_Bits.l0 (k + 1) y0 y1 y2 y3 y4 y5 y6 y7))
 | 0 => fun _ _ _ _ _ _ _ _ r h => by simp [impl_Bits.l0] at h
 | k + 1 => by
  have ih0 := impl_Bits.mono_l k
  intro y0 y1 y2 y3 y4 y5 y6 y7
  unfold impl_Bits.l0
  repeat' first
  | (with_reducible exact ih0 _ _ _ _ _ _ _ _)
  | (with_reducible exact LeO.refl _)
  | (with_reducible exact LeO.none _)
  | (with_reducible refine LeO.ite ?_ ?_)
  | exact ih0 _ _ _ _ _ _ _ _
  | exact LeO.none _
  | refine LeO.ite ?_ ?_
theorem impl_Bits.mono : ∀ a0 a1 a2 a3 a4 a5 a6 k, LeO (impl_Bits.f k a0 a1 a2 a3 a4 a5 a6) (impl_Bits.f (k + 1) a0 a1 a2 a3 a4 a5 a6) := by
 intro a0 a1 a2 a3 a4 a5 a6 k
 exact impl_Bits.mono_l k _ _ _ _ _ _ _ _
set_option maxHeartbeats 8000000 in
set_option maxRecDepth 100000 in
theorem impl_Bits.asked (g : Nat) (d0 d1 d2 d3 : Int) (d4 : Bool) (d5 : ByteArray) (x0 x1 x4 x5 : Int) (A2 A3 : Option Addr) (n2 n3 c2 c3 : Nat) (w : World) (hb : w.heap[g]? = some (.cells #[.int .i64 d0, .int .i64 d1, .int .i64 d2, .int .i64 d3, .bool d4, .string d5] 62 (0, 0))) :
  Calls Try.prog 100 (#[.agg #[.int .i64 x0, .int .i64 x1, .slice A2 n2 c2, .slice A3 n3 c3, .int .i64 x4, .int .i64 x5]] ++ #[.pointer (some ⟨g, 0, none⟩)]) w fun e w' => e = .returned (.bool (x0 == d0 && x1 == d2)) ∧ Below w.heap.size w w' := by
 have hu82 := Try.underlying82
 have hu62 := Try.underlying62
 have BK := Aside0.mk hb
 clear hb
 cases h0 : (x0 == d0) with
 | false =>
  go_enter Try.func100, Try.ntmps100
  go_wp2_with (first | ((with_reducible refine gate_dst (N := 2) rfl ?_); refine box_event ?hg (N := 2) ?hd (cs := #[.int .i64 x0, .int .i64 x1, .slice A2 n2 c2, .slice A3 n3 c3, .int .i64 x4, .int .i64 x5]) (t := 82) ?hr ?_; (case hd => rfl); (case hg => rfl); (case hr => exact B1x5_); intro gb hg w2 hbox hb; replace BK := Aside0.mk (blk_below BK.out hb); have BX := Aside0.mk hbox; have HB := Aside0.mk hb; clear hb hbox hg; have hc0 := (blk_cell BX.out 0).trans rfl; have hc1 := (blk_cell BX.out 1).trans rfl; have hd0 := (blk_cell BK.out 0).trans rfl; have hd2 := (blk_cell BK.out 2).trans rfl))
  go_ret
  exact ⟨rfl, HB.out⟩
 | true =>
  go_enter Try.func100, Try.ntmps100
  go_wp2_with (first | ((with_reducible refine gate_dst (N := 2) rfl ?_); refine box_event ?hg (N := 2) ?hd (cs := #[.int .i64 x0, .int .i64 x1, .slice A2 n2 c2, .slice A3 n3 c3, .int .i64 x4, .int .i64 x5]) (t := 82) ?hr ?_; (case hd => rfl); (case hg => rfl); (case hr => exact B1x5_); intro gb hg w2 hbox hb; replace BK := Aside0.mk (blk_below BK.out hb); have BX := Aside0.mk hbox; have HB := Aside0.mk hb; clear hb hbox hg; have hc0 := (blk_cell BX.out 0).trans rfl; have hc1 := (blk_cell BX.out 1).trans rfl; have hd0 := (blk_cell BK.out 0).trans rfl; have hd2 := (blk_cell BK.out 2).trans rfl))
  go_ret
  exact ⟨rfl, HB.out⟩
set_option maxHeartbeats 8000000 in
set_option maxRecDepth 100000 in
theorem impl_Bits.calls (k : Nat) (A0 : Option Addr) (c0 : Nat) (l0 : List S82) (g : Nat) (d0 d1 d2 d3 : Int) (d4 : Bool) (d5 : ByteArray) (r : Int) (w : World) (hr0 : Kd.C k82 w A0 l0.length l0) (hc0 : l0.length ≤ c0) (hb : w.heap[g]? = some (.cells #[.int .i64 d0, .int .i64 d1, .int .i64 d2, .int .i64 d3, .bool d4, .string d5] 62 (0, 0))) (h : impl_Bits.f k l0 d0 d1 d2 d3 d4 d5 = some r) :
  Calls Try.prog 99 #[.slice A0 l0.length c0, .func (.func 100) #[] #[.pointer (some ⟨g, 0, none⟩)]] w fun e w' => e = .returned (.int .i64 r) ∧ Below w.heap.size w w' := by
 have hu82 := Try.underlying82
 have HR0 := Aside0.mk hr0
 have HC0 := Aside0.mk hc0
 have BK := Aside0.mk hb
 clear hr0 hc0 hb
 have H' := Aside0.mk (show impl_Bits.l0 k l0 d0 d1 d2 d3 d4 d5 0 = some r from h)
 clear h
 go_enter Try.func99, Try.ntmps99
 go_wp2
 go_loopg [8] k (fun kq v8 w' => ∃ (j : Int), v8 = .int .i64 j ∧ Aside0 (impl_Bits.l0 kq l0 d0 d1 d2 d3 d4 d5 j = some r) ∧ Aside0 (kq ≤ k) ∧ Aside0 (Below w.heap.size w w'))
 case atStart => exact ⟨0, (be_), H', ⟨Nat.le_refl _⟩, ⟨Below.refl _ _⟩⟩
 case round =>
  clear H'
  obtain ⟨j, rfl, HA, HK1, HB⟩ := hrel
  cases gk with
  | zero => exact absurd HA.out (by simp [impl_Bits.l0])
  | succ k1 =>
   have H := HA.out
   clear HA
   simp only [impl_Bits.l0] at H
   by_cases c1 : j < (l0.length : Int)
   ·rw [if_pos c1] at H
    by_cases c2 : 0 ≤ j
    rotate_left
    ·rw [if_neg c2] at H
     exact absurd H (by simp)
    rw [if_pos c2] at H
    obtain ⟨ad, A2, c2', A3, c3', e1, hx0, hx1, hx2, hx3, hx4, hx5, hl2, hg2, hl3, hg3⟩ := at_T82 (Kd.C_below HR0.out HB.out) j c2 c1
    clear hl2 hg2 hl3 hg3
    subst e1
    have c1b := eq_true c1
    have c2b := eq_true c2
    clear c1 c2
    by_cases c3 : ((rd_T82 l0 j).f0 == d0 && (rd_T82 l0 j).f1 == d2) = true
    ·rw [if_pos c3] at H
     obtain rfl := Option.some.inj H
     have hq := Aside0.mk c3
     clear c3 H
     go_wp2_with (go_at_call 100; refine (impl_Bits.asked g d0 d1 d2 d3 d4 d5 _ _ _ _ _ _ _ _ _ _ _ (blk_below BK.out HB.out)).mono ?_; rintro e w2 ⟨rfl, hb⟩; rw [hq.out]; replace HB := Aside0.mk (below_step HB.out hb); clear hb)
     go_ret
     exact ⟨rfl, HB.out⟩
    ·rw [if_neg c3] at H
     have hq := Aside0.mk (Bool.eq_false_iff.mpr c3)
     have H' := Aside0.mk H
     clear c3 H
     go_wp2_with (go_at_call 100; refine (impl_Bits.asked g d0 d1 d2 d3 d4 d5 _ _ _ _ _ _ _ _ _ _ _ (blk_below BK.out HB.out)).mono ?_; rintro e w2 ⟨rfl, hb⟩; rw [hq.out]; replace HB := Aside0.mk (below_step HB.out hb); clear hb)
     go_roundg k1
     case measure => have := HK1.out; omega
     case rel => exact ⟨wrap64 (j + 1), (be_), H', ⟨(by have := HK1.out; omega)⟩, ⟨HB.out⟩⟩
   ·rw [if_neg c1] at H
    obtain rfl := Option.some.inj H
    have c1b := eq_false c1
    clear c1 H
    go_wp2
    go_ret
    exact ⟨rfl, HB.out⟩

end Go.Proofs.Ytmknnoeggkgkgaa.QFnExactJoinBits
