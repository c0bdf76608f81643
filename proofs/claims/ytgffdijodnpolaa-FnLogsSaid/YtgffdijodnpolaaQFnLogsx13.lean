/- Functions that a law reaches, as functions of Lean, and the walks that show that the calls come to their answers: written by a program of this project out of the translation. No condition. -/
import Derived.Test.YtgffdijodnpolaaQFnLogsx0
import Derived.Test.YtgffdijodnpolaaQFnLogsx12
import Derived.Test.YtgffdijodnpolaaVFnLogsShort4
import Derived.Test.YtgffdijodnpolaaVFnLogshort3
import Derived.Test.YtgffdijodnpolaaVFnLogsShort2
import Derived.Test.YtgffdijodnpolaaVFnLogsShort
namespace Go.Proofs.Ytgffdijodnpolaa.QFnLogs
open Go.RowKit Go.Proofs.YtgffdijodnpolaaW.PrintWords Go.Proofs.YtgffdijodnpolaaW.PrintLast Go.Proofs.YtgffdijodnpolaaW.PrintMore Go.Proofs.Ytgffdijodnpolaa.Short
attribute [local go_sem] max2_int min2_int max_two min_two max_three min_three max_four min_four   -- for this text's walks alone
set_option linter.unusedVariables false
set_option linter.unusedSimpArgs false

theorem B13x0_ {p : Prop} (h : p := by repeat (first | (with_reducible first | exact HB.out | apply below_alloc | apply pw_below_drewN | apply below_drew1 | refine below_set ?_ GE516.out | refine below_set ?_ GE517.out | refine below_set ?_ GE518.out) | exact HB.out)) : p := h
theorem B13x1_ {p : Prop} (h : p := by (try simp only [List.map_toArray, List.map_cons, List.map_nil]); first | done | rfl | (simp only [List.length_drop, List.length_take]; rfl)) : p := h
theorem B13x2_ {p : Prop} (h : p := by repeat (first | (with_reducible first | exact HB.out | apply below_alloc | apply pw_below_drewN | apply below_drew1) | exact HB.out)) : p := h
theorem B13x3_ {p : Prop} (h : p := by repeat (first | (with_reducible first | exact HB.out | apply below_alloc | apply pw_below_drewN | apply below_drew1 | refine below_set ?_ GE501.out) | exact HB.out)) : p := h
theorem B13x4_ {p : Prop} (h : p := by first | rfl | (simp [errW_none, errW_some] <;> rfl) | (simp [*, errW_none, errW_some] <;> rfl)) : p := h
theorem B13x5_ {p : Prop} (h : p := by (repeat (with_reducible (first | exact BK517.out | apply blk_drewN | apply blk_drew | apply blk_alloc | apply blk_put | apply bf NB517_518.out))); repeat (first | exact BK517.out | (simp only [List.setIfInBounds_toArray, List.set_cons_zero, List.set_cons_succ]; with_reducible rfl) | rfl)) : p := h
theorem B13x6_ {p : Prop} (h : p := by repeat (first | (with_reducible first | exact HB.out | apply below_alloc | apply pw_below_drewN | apply below_drew1 | refine below_set ?_ GE510.out) | exact HB.out)) : p := h
theorem B13x7_ {p : Prop} (h : p := by first | (go_simp; done) | (go_simp; rfl)) : p := h
theorem B13x8_ {p : Prop} (h : p := by repeat (first | (with_reducible first | exact HB.out | apply below_alloc | apply pw_below_drewN | apply below_drew1 | refine below_set ?_ GE510.out | refine below_set ?_ GE512.out) | exact HB.out)) : p := h
theorem B13x9_ {p : Prop} (h : p := by (repeat (with_reducible (first | exact BK516.out | apply blk_drewN | apply blk_drew | apply blk_alloc | apply blk_put | apply bf NB516_518.out))); repeat (first | exact BK516.out | (simp only [List.setIfInBounds_toArray, List.set_cons_zero, List.set_cons_succ]; with_reducible rfl) | rfl)) : p := h
theorem B13x10_ {p : Prop} (h : p := by (repeat (with_reducible (first | exact BK518.out | apply blk_drewN | apply blk_drew | apply blk_alloc | apply blk_put))); repeat (first | exact BK518.out | (simp only [List.setIfInBounds_toArray, List.set_cons_zero, List.set_cons_succ]; with_reducible rfl) | rfl)) : p := h
theorem B13x11_ {p : Prop} (h : p := by first | (with_reducible assumption) | assumption) : p := h
theorem B13x12_ {p : Prop} (h : p := by repeat (first | (with_reducible first | exact HB.out | apply below_alloc | apply pw_below_drewN | apply below_drew1 | refine below_set ?_ GE516.out | refine below_set ?_ GE517.out) | exact HB.out)) : p := h
theorem B13x13_ {p : Prop} (h : p := by (repeat (with_reducible (first | exact BK510.out | apply blk_drewN | apply blk_drew | apply blk_alloc | apply blk_put | apply bf NB510_512.out))); repeat (first | exact BK510.out | (simp only [List.setIfInBounds_toArray, List.set_cons_zero, List.set_cons_succ]; with_reducible rfl) | rfl)) : p := h
theorem B13x14_ {p : Prop} (h : p := by (repeat (with_reducible (first | exact BK512.out | apply blk_drewN | apply blk_drew | apply blk_alloc | apply blk_put))); repeat (first | exact BK512.out | (simp only [List.setIfInBounds_toArray, List.set_cons_zero, List.set_cons_succ]; with_reducible rfl) | rfl)) : p := h
theorem B13x15_ {p : Prop} (h : p := by (repeat (with_reducible (first | exact BK517.out | apply blk_drewN | apply blk_drew | apply blk_alloc | apply blk_put))); repeat (first | exact BK517.out | (simp only [List.setIfInBounds_toArray, List.set_cons_zero, List.set_cons_succ]; with_reducible rfl) | rfl)) : p := h
theorem B13x16_ {p : Prop} (h : p := by repeat (first | (with_reducible first | exact HB.out | apply below_alloc | apply pw_below_drewN | apply below_drew1 | refine below_set ?_ GE516.out) | exact HB.out)) : p := h
theorem B13x17_ {p : Prop} (h : p := by repeat (first | exact (Kd.C_below HR0_2.out HB.out) | (with_reducible refine Kd.C_alloc ?_ _) | (with_reducible refine Kd.C_drewN ?_ _) | (with_reducible refine Kd.C_drew ?_))) : p := h
theorem B13x18_ {p : Prop} (h : p := by kernel_rfl) : p := h
theorem B13x19_ {p : Prop} (h : p := by repeat (first | (with_reducible first | exact HB.out | apply below_alloc | apply pw_below_drewN | apply below_drew1 | refine below_set ?_ GE528.out) | exact HB.out)) : p := h
theorem B13x20_ {p : Prop} (h : p := by (with_reducible repeat (first | refine blk_drewN ?_ _ | refine blk_drew ?_ | refine blk_alloc ?_ _)); exact BK510.out) : p := h
theorem B13x21_ {p : Prop} (h : p := by exact Kd.C_below HR0_2.out B13x0_) : p := h
/-! ### impl_EntryOk: function 53 -/
def impl_EntryOk.f (k : Nat) (a0_0 : Int) (a0_1 : Int) (a0_2 : ByteArray) : Option (Bool) := if a0_1 = 1 then ((impl_isTerm.f a0_0).bind fun t502 => (if t502 = true then (some (a0_2.toList == ([] : List UInt8))) else (some false))) else (if a0_1 = 2 then ((impl_ReadConf.f k a0_2).bind fun bt503 => ((impl_isTerm.f a0_0).bind fun t507 => (if t507 = true then (some bt503.2) else (some false)))) else (if a0_1 = 3 then ((impl_isTerm.f a0_0).bind fun t508 => (if t508 = true then (some (decide ((a0_2.size : Int) ≤ 120))) else (some false))) else (some false)))
theorem impl_EntryOk.mono : ∀ a0 a1 a2 k, LeO (impl_EntryOk.f k a0 a1 a2) (impl_EntryOk.f (k + 1) a0 a1 a2) := by
 intro a0 a1 a2 k
 unfold impl_EntryOk.f
 repeat' first
   | (with_reducible exact impl_ReadConf.mono _ _)
   | (with_reducible first | exact LeO.refl _ | exact LeO.none _ | refine LeO.ite ?_ ?_ | refine LeO.bind ?_ (fun _ => ?_))
   | exact impl_ReadConf.mono _ _
set_option maxHeartbeats 8000000 in
set_option maxRecDepth 100000 in
theorem impl_EntryOk.calls (k : Nat) (a0_0 : Int) (a0_1 : Int) (a0_2 : ByteArray) (r : Bool) (w : World) (h : impl_EntryOk.f k a0_0 a0_1 a0_2 = some r) :
  Calls Try.prog 53 #[.agg #[.int .i64 a0_0, .int .i64 a0_1, .string a0_2]] w fun e w' => e = .returned (.bool r) ∧ Below w.heap.size w w' := by
 have hu28 := Try.underlying28
 have HB := Aside0.mk (Below.refl w.heap.size w)
 have H : (if a0_1 = 1 then ((impl_isTerm.f a0_0).bind fun t502 => (if t502 = true then (some (a0_2.toList == ([] : List UInt8))) else (some false))) else (if a0_1 = 2 then ((impl_ReadConf.f k a0_2).bind fun bt503 => ((impl_isTerm.f a0_0).bind fun t507 => (if t507 = true then (some bt503.2) else (some false)))) else (if a0_1 = 3 then ((impl_isTerm.f a0_0).bind fun t508 => (if t508 = true then (some (decide ((a0_2.size : Int) ≤ 120))) else (some false))) else (some false)))) = some r := h
 clear h
 by_cases c2 : a0_1 = 1
 ·rw [if_pos c2] at H
  have c2b0 := beq_iff_eq.mpr c2
  have c2b1 := bne_eq_false_iff_eq.mpr c2
  clear c2
  replace H := bsi H
  obtain ⟨t502, A3, H⟩ := H
  (try dsimp only at H)
  by_cases c4 : t502 = true
  ·subst c4
   rw [if_pos rfl] at H
   obtain rfl := Option.some.inj H
   go_enter Try.func53, Try.ntmps53
   go_wp2_with (first | ((with_reducible refine gate_dst (N := 1) rfl ?_); (try (refine gate_guard (by rfl) ?_; dsimp only)); refine box_event ?hg (N := 1) ?hd (cs := #[.int .i64 a0_0, .int .i64 a0_1, .string a0_2]) (t := 28) ?hr ?_; (case hd => rfl); (case hg => rfl); (case hr => exact B13x7_); intro gb501 hg w5 hbox hb; have BK501 := Aside0.mk (hbox); have GW501 := Aside0.mk ((bs hg (below_size HB.out))); have GE501 := Aside0.mk ((bs hg (below_size HB.out))); replace HB := Aside0.mk (below_step B13x2_ hb); clear hb hbox hg; obtain ⟨hcz6_0, hcz6_1, hcz6_2⟩ := cl3 BK501.out; obtain ⟨hfz6_0, hfz6_1, hfz6_2⟩ := fr3 BK501.out) | ((with_reducible refine gate_callee (f := 55) rfl ?_); refine goesL_ (some 11) rfl rfl Try.func55 B13x18_ rfl #[.int .i64 a0_0] rfl B13x1_ ?_; (with_reducible refine (impl_isTerm.calls a0_0 true _ A3.out).mono ?_); rintro e w' ⟨rfl, ⟨nd, rfl⟩⟩; refine ⟨_, rfl, ?_⟩))
   go_ret
   exact ⟨B13x4_, B13x3_⟩
  ·replace c4 := Bool.eq_false_iff.mpr c4
   subst c4
   rw [if_neg (show ¬ (false = true) by decide)] at H
   obtain rfl := Option.some.inj H
   go_enter Try.func53, Try.ntmps53
   go_wp2_with (first | ((with_reducible refine gate_dst (N := 1) rfl ?_); (try (refine gate_guard (by rfl) ?_; dsimp only)); refine box_event ?hg (N := 1) ?hd (cs := #[.int .i64 a0_0, .int .i64 a0_1, .string a0_2]) (t := 28) ?hr ?_; (case hd => rfl); (case hg => rfl); (case hr => exact B13x7_); intro gb501 hg w7 hbox hb; have BK501 := Aside0.mk (hbox); have GW501 := Aside0.mk ((bs hg (below_size HB.out))); have GE501 := Aside0.mk ((bs hg (below_size HB.out))); replace HB := Aside0.mk (below_step B13x2_ hb); clear hb hbox hg; obtain ⟨hcz8_0, hcz8_1, hcz8_2⟩ := cl3 BK501.out; obtain ⟨hfz8_0, hfz8_1, hfz8_2⟩ := fr3 BK501.out) | ((with_reducible refine gate_callee (f := 55) rfl ?_); refine goesL_ (some 11) rfl rfl Try.func55 B13x18_ rfl #[.int .i64 a0_0] rfl B13x1_ ?_; (with_reducible refine (impl_isTerm.calls a0_0 false _ A3.out).mono ?_); rintro e w' ⟨rfl, ⟨nd, rfl⟩⟩; refine ⟨_, rfl, ?_⟩))
   go_ret
   exact ⟨B13x4_, B13x3_⟩
 ·rw [if_neg c2] at H
  have c2b0 := beq_eq_false_iff_ne.mpr c2
  have c2b1 := bne_iff_ne.mpr c2
  by_cases c9 : a0_1 = 2
  ·rw [if_pos c9] at H
   have c9b0 := beq_iff_eq.mpr c9
   have c9b1 := bne_eq_false_iff_eq.mpr c9
   clear c9
   replace H := bsi H
   obtain ⟨⟨t503, t504⟩, A10, H⟩ := H
   (try dsimp only at H)
   replace H := bsi H
   obtain ⟨t507, A11, H⟩ := H
   (try dsimp only at H)
   by_cases c12 : t507 = true
   ·subst c12
    rw [if_pos rfl] at H
    obtain rfl := Option.some.inj H
    go_enter Try.func53, Try.ntmps53
    go_wp2_with (first | ((with_reducible refine gate_dst (N := 1) rfl ?_); (try (refine gate_guard (by rfl) ?_; dsimp only)); refine box_event ?hg (N := 1) ?hd (cs := #[.int .i64 a0_0, .int .i64 a0_1, .string a0_2]) (t := 28) ?hr ?_; (case hd => rfl); (case hg => rfl); (case hr => exact B13x7_); intro gb501 hg w13 hbox hb; have BK501 := Aside0.mk (hbox); have GW501 := Aside0.mk ((bs hg (below_size HB.out))); have GE501 := Aside0.mk ((bs hg (below_size HB.out))); replace HB := Aside0.mk (below_step B13x2_ hb); clear hb hbox hg; obtain ⟨hcz14_0, hcz14_1, hcz14_2⟩ := cl3 BK501.out; obtain ⟨hfz14_0, hfz14_1, hfz14_2⟩ := fr3 BK501.out) | ((with_reducible refine gate_callee (f := 87) rfl ?_); refine goesL_ (some 22) rfl rfl Try.func87 B13x18_ rfl #[.string a0_2] rfl B13x1_ ?_; (with_reducible refine (impl_ReadConf.calls k a0_2 t503 t504 _ A10.out).mono ?_); rintro e w15 ⟨v505, rfl, ho0, hb⟩; refine ⟨_, rfl, ?_⟩; have HO506 := Aside0.mk (Kd.R_lower ho0 (below_size B13x3_)); replace BK501 := Aside0.mk (bb BK501.out hb); replace HB := Aside0.mk (below_step B13x3_ hb); (try clear hb); (try clear ho0); obtain ⟨hcz16_0, hcz16_1, hcz16_2⟩ := cl3 BK501.out; obtain ⟨hfz16_0, hfz16_1, hfz16_2⟩ := fr3 BK501.out) | ((with_reducible refine gate_callee (f := 55) rfl ?_); refine goesL_ (some 27) rfl rfl Try.func55 B13x18_ rfl #[.int .i64 a0_0] rfl B13x1_ ?_; (with_reducible refine (impl_isTerm.calls a0_0 true _ A11.out).mono ?_); rintro e w' ⟨rfl, ⟨nd, rfl⟩⟩; refine ⟨_, rfl, ?_⟩))
    go_ret
    exact ⟨B13x4_, B13x3_⟩
   ·replace c12 := Bool.eq_false_iff.mpr c12
    subst c12
    rw [if_neg (show ¬ (false = true) by decide)] at H
    obtain rfl := Option.some.inj H
    go_enter Try.func53, Try.ntmps53
    go_wp2_with (first | ((with_reducible refine gate_dst (N := 1) rfl ?_); (try (refine gate_guard (by rfl) ?_; dsimp only)); refine box_event ?hg (N := 1) ?hd (cs := #[.int .i64 a0_0, .int .i64 a0_1, .string a0_2]) (t := 28) ?hr ?_; (case hd => rfl); (case hg => rfl); (case hr => exact B13x7_); intro gb501 hg w17 hbox hb; have BK501 := Aside0.mk (hbox); have GW501 := Aside0.mk ((bs hg (below_size HB.out))); have GE501 := Aside0.mk ((bs hg (below_size HB.out))); replace HB := Aside0.mk (below_step B13x2_ hb); clear hb hbox hg; obtain ⟨hcz18_0, hcz18_1, hcz18_2⟩ := cl3 BK501.out; obtain ⟨hfz18_0, hfz18_1, hfz18_2⟩ := fr3 BK501.out) | ((with_reducible refine gate_callee (f := 87) rfl ?_); refine goesL_ (some 22) rfl rfl Try.func87 B13x18_ rfl #[.string a0_2] rfl B13x1_ ?_; (with_reducible refine (impl_ReadConf.calls k a0_2 t503 t504 _ A10.out).mono ?_); rintro e w19 ⟨v505, rfl, ho0, hb⟩; refine ⟨_, rfl, ?_⟩; have HO506 := Aside0.mk (Kd.R_lower ho0 (below_size B13x3_)); replace BK501 := Aside0.mk (bb BK501.out hb); replace HB := Aside0.mk (below_step B13x3_ hb); (try clear hb); (try clear ho0); obtain ⟨hcz20_0, hcz20_1, hcz20_2⟩ := cl3 BK501.out; obtain ⟨hfz20_0, hfz20_1, hfz20_2⟩ := fr3 BK501.out) | ((with_reducible refine gate_callee (f := 55) rfl ?_); refine goesL_ (some 27) rfl rfl Try.func55 B13x18_ rfl #[.int .i64 a0_0] rfl B13x1_ ?_; (with_reducible refine (impl_isTerm.calls a0_0 false _ A11.out).mono ?_); rintro e w' ⟨rfl, ⟨nd, rfl⟩⟩; refine ⟨_, rfl, ?_⟩))
    go_ret
    exact ⟨B13x4_, B13x3_⟩
  ·rw [if_neg c9] at H
   have c9b0 := beq_eq_false_iff_ne.mpr c9
   have c9b1 := bne_iff_ne.mpr c9
   by_cases c21 : a0_1 = 3
   ·rw [if_pos c21] at H
    have c21b0 := beq_iff_eq.mpr c21
    have c21b1 := bne_eq_false_iff_eq.mpr c21
    clear c21
    replace H := bsi H
    obtain ⟨t508, A22, H⟩ := H
    (try dsimp only at H)
    by_cases c23 : t508 = true
    ·subst c23
     rw [if_pos rfl] at H
     obtain rfl := Option.some.inj H
     go_enter Try.func53, Try.ntmps53
     go_wp2_with (first | ((with_reducible refine gate_dst (N := 1) rfl ?_); (try (refine gate_guard (by rfl) ?_; dsimp only)); refine box_event ?hg (N := 1) ?hd (cs := #[.int .i64 a0_0, .int .i64 a0_1, .string a0_2]) (t := 28) ?hr ?_; (case hd => rfl); (case hg => rfl); (case hr => exact B13x7_); intro gb501 hg w24 hbox hb; have BK501 := Aside0.mk (hbox); have GW501 := Aside0.mk ((bs hg (below_size HB.out))); have GE501 := Aside0.mk ((bs hg (below_size HB.out))); replace HB := Aside0.mk (below_step B13x2_ hb); clear hb hbox hg; obtain ⟨hcz25_0, hcz25_1, hcz25_2⟩ := cl3 BK501.out; obtain ⟨hfz25_0, hfz25_1, hfz25_2⟩ := fr3 BK501.out) | (go_at_call 55; (with_reducible refine (impl_isTerm.calls a0_0 true _ A22.out).mono ?_); rintro e w' ⟨rfl, ⟨nd, rfl⟩⟩))
     go_ret
     exact ⟨B13x4_, B13x3_⟩
    ·replace c23 := Bool.eq_false_iff.mpr c23
     subst c23
     rw [if_neg (show ¬ (false = true) by decide)] at H
     obtain rfl := Option.some.inj H
     go_enter Try.func53, Try.ntmps53
     go_wp2_with (first | ((with_reducible refine gate_dst (N := 1) rfl ?_); (try (refine gate_guard (by rfl) ?_; dsimp only)); refine box_event ?hg (N := 1) ?hd (cs := #[.int .i64 a0_0, .int .i64 a0_1, .string a0_2]) (t := 28) ?hr ?_; (case hd => rfl); (case hg => rfl); (case hr => exact B13x7_); intro gb501 hg w26 hbox hb; have BK501 := Aside0.mk (hbox); have GW501 := Aside0.mk ((bs hg (below_size HB.out))); have GE501 := Aside0.mk ((bs hg (below_size HB.out))); replace HB := Aside0.mk (below_step B13x2_ hb); clear hb hbox hg; obtain ⟨hcz27_0, hcz27_1, hcz27_2⟩ := cl3 BK501.out; obtain ⟨hfz27_0, hfz27_1, hfz27_2⟩ := fr3 BK501.out) | (go_at_call 55; (with_reducible refine (impl_isTerm.calls a0_0 false _ A22.out).mono ?_); rintro e w' ⟨rfl, ⟨nd, rfl⟩⟩))
     go_ret
     exact ⟨B13x4_, B13x3_⟩
   ·rw [if_neg c21] at H
    have c21b0 := beq_eq_false_iff_ne.mpr c21
    have c21b1 := bne_iff_ne.mpr c21
    obtain rfl := Option.some.inj H
    go_enter Try.func53, Try.ntmps53
    go_wp2_with (first | ((with_reducible refine gate_dst (N := 1) rfl ?_); (try (refine gate_guard (by rfl) ?_; dsimp only)); refine box_event ?hg (N := 1) ?hd (cs := #[.int .i64 a0_0, .int .i64 a0_1, .string a0_2]) (t := 28) ?hr ?_; (case hd => rfl); (case hg => rfl); (case hr => exact B13x7_); intro gb501 hg w28 hbox hb; have BK501 := Aside0.mk (hbox); have GW501 := Aside0.mk ((bs hg (below_size HB.out))); have GE501 := Aside0.mk ((bs hg (below_size HB.out))); replace HB := Aside0.mk (below_step B13x2_ hb); clear hb hbox hg; obtain ⟨hcz29_0, hcz29_1, hcz29_2⟩ := cl3 BK501.out; obtain ⟨hfz29_0, hfz29_1, hfz29_2⟩ := fr3 BK501.out))
    go_ret
    exact ⟨B13x4_, B13x3_⟩

/-! ### impl_isIndex: function 54 -/
def impl_isIndex.f (a0 : Int) : Option (Bool) := (impl_within.f a0 0 1000000).bind fun t509 => (some t509)
set_option maxHeartbeats 8000000 in
set_option maxRecDepth 100000 in
theorem impl_isIndex.calls (a0 : Int) (r : Bool) (w : World) (h : impl_isIndex.f a0 = some r) :
  Calls Try.prog 54 #[.int .i64 a0] w fun e w' => e = .returned (.bool r) ∧ Drawn0 w w' := by
 have H : ((impl_within.f a0 0 1000000).bind fun t509 => (some t509)) = some r := h
 clear h
 replace H := bsi H
 obtain ⟨t509, A2, H⟩ := H
 (try dsimp only at H)
 obtain rfl := Option.some.inj H
 go_enter Try.func54, Try.ntmps54
 go_wp2_with (first | ((with_reducible refine gate_callee (f := 45) rfl ?_); refine goesL_ (some 4) rfl rfl Try.func45 B13x18_ rfl #[.int .i64 a0, .int .i64 0, .int .i64 1000000] rfl B13x1_ ?_; (with_reducible refine (impl_within.calls a0 0 1000000 t509 _ A2.out).mono ?_); rintro e w' ⟨rfl, ⟨nd, rfl⟩⟩; refine ⟨_, rfl, ?_⟩))
 go_ret
 exact ⟨(by first | rfl | (simp; done) | (simp [*]; done)), (by repeat (first | exact Drawn0.refl _ | apply Drawn0.step))⟩

/-! ### impl_LogOk: function 18 -/
def impl_LogOk.l0 : Nat → Int → List (S28) → Int → Int → Int → Int → List (S28) → Option (Bool)
 | 0, _, _, _, _, _, _, _ => none
 | k + 1, x3, x9, x10, x11, x511000, x511001, x511002 => if x11 < x10 then (if 0 ≤ x11 then (if x11 < (x9.length : Int) then ((impl_EntryOk.f k ((rd_T28 x9 x11).f0) ((rd_T28 x9 x11).f1) ((rd_T28 x9 x11).f2)).bind fun t513 => (if t513 = true then (if ((rd_T28 x9 x11).f0) < x3 then (some false) else (impl_LogOk.l0 k ((rd_T28 x9 x11).f0) x9 x10 (wrap64 (x11 + 1)) x511000 x511001 x511002)) else (some false))) else (none)) else (none)) else ((impl_isIndex.f x511000).bind fun t514 => (if t514 = true then ((impl_isTerm.f x511001).bind fun t515 => (if t515 = true then (if (x511002.length : Int) ≤ 60 then (some (decide ((wrap64 (x511000 + (x511002.length : Int))) ≤ 1000000))) else (some false)) else (some false))) else (some false)))
def impl_LogOk.f (k : Nat) (a0_0 : Int) (a0_1 : Int) (l0_2 : List (S28)) : Option (Bool) := impl_LogOk.l0 k a0_1 l0_2 (l0_2.length : Int) 0 a0_0 a0_1 l0_2
theorem impl_LogOk.mono_l : ∀ k, (∀ y0 y1 y2 y3 y4 y5 y6, LeO (impl_LogOk.l0 k y0 y1 y2 y3 y4 y5 y6) (impl_LogOk.l0 (k + 1) y0 y1 y2 y3 y4 y5 y6))
 | 0 => fun _ _ _ _ _ _ _ r h => by simp [impl_LogOk.l0] at h
 | k + 1 => by
  have ih0 := impl_LogOk.mono_l k
  ·intro y0 y1 y2 y3 y4 y5 y6
   unfold impl_LogOk.l0
   repeat' first
   | (with_reducible exact ih0 _ _ _ _ _ _ _)
   | (with_reducible exact impl_EntryOk.mono _ _ _ _)
   | (with_reducible first | exact LeO.refl _ | exact LeO.none _ | refine LeO.ite ?_ ?_ | refine LeO.bind ?_ (fun _ => ?_))
   | exact ih0 _ _ _ _ _ _ _
   | exact impl_EntryOk.mono _ _ _ _
theorem impl_LogOk.mono : ∀ a0 a1 a2 k, LeO (impl_LogOk.f k a0 a1 a2) (impl_LogOk.f (k + 1) a0 a1 a2) := by
 intro a0 a1 a2 k
 have ih0 := impl_LogOk.mono_l k
 unfold impl_LogOk.f
 repeat' first
   | (with_reducible exact ih0 _ _ _ _ _ _ _)
   | (with_reducible exact impl_EntryOk.mono _ _ _ _)
   | (with_reducible first | exact LeO.refl _ | exact LeO.none _ | refine LeO.ite ?_ ?_ | refine LeO.bind ?_ (fun _ => ?_))
   | exact ih0 _ _ _ _ _ _ _
   | exact impl_EntryOk.mono _ _ _ _
set_option maxHeartbeats 8000000 in
set_option maxRecDepth 100000 in
theorem impl_LogOk.calls (k : Nat) (a0_0 : Int) (a0_1 : Int) (A0_2 : Option Addr) (c0_2 : Nat) (l0_2 : List (S28)) (r : Bool) (w : World) (hr0_2 : Kd.C k28 w A0_2 l0_2.length l0_2) (hc0_2 : l0_2.length ≤ c0_2) (h : impl_LogOk.f k a0_0 a0_1 l0_2 = some r) :
  Calls Try.prog 18 #[.agg #[.int .i64 a0_0, .int .i64 a0_1, .slice A0_2 l0_2.length c0_2]] w fun e w' => e = .returned (.bool r) ∧ Below w.heap.size w w' := by
 have hu26 := Try.underlying26
 have hu28 := Try.underlying28
 have HR0_2 := Aside0.mk hr0_2
 have HC0_2 := Aside0.mk hc0_2
 clear hr0_2 hc0_2
 have HB := Aside0.mk (Below.refl w.heap.size w)
 have H : (impl_LogOk.l0 k a0_1 l0_2 (l0_2.length : Int) 0 a0_0 a0_1 l0_2) = some r := h
 clear h
 have H' := Aside0.mk H
 clear H
 go_enter Try.func18, Try.ntmps18
 go_wp2_with (first | ((with_reducible refine gate_dst (N := 1) rfl ?_); (try (refine gate_guard (by rfl) ?_; dsimp only)); refine box_event ?hg (N := 1) ?hd (cs := #[.int .i64 a0_0, .int .i64 a0_1, .slice A0_2 l0_2.length c0_2]) (t := 26) ?hr ?_; (case hd => rfl); (case hg => rfl); (case hr => exact B13x7_); intro gb510 hg w2 hbox hb; have BK510 := Aside0.mk (hbox); have GW510 := Aside0.mk ((bs hg (below_size HB.out))); have GE510 := Aside0.mk ((bs hg (below_size HB.out))); replace HB := Aside0.mk (below_step B13x2_ hb); clear hb hbox hg; obtain ⟨hcz3_0, hcz3_1, hcz3_2⟩ := cl3 BK510.out; obtain ⟨hfz3_0, hfz3_1, hfz3_2⟩ := fr3 BK510.out))
 go_loopg [3, 11] k (fun kq v3 v11 w' => ∃ (x3_1 : Int) (x11_1 : Int), v3 = .int .i64 x3_1 ∧ v11 = .int .i64 x11_1 ∧ Aside0 (impl_LogOk.l0 kq x3_1 l0_2 (l0_2.length : Int) x11_1 a0_0 a0_1 l0_2 = some r) ∧ Aside0 (kq ≤ k) ∧ Aside0 (w'.heap[gb510]? = some (.cells #[.int .i64 a0_0, .int .i64 a0_1, (.slice A0_2 l0_2.length c0_2)] 26 (0, 0))) ∧ Aside0 (Below w.heap.size w w'))
 case atStart => exact ⟨(a0_1), (0), (be_), (be_), H', ⟨Nat.le_refl _⟩, ⟨B13x20_⟩, ⟨B13x6_⟩⟩
 case round =>
  clear H'
  try clear hcz3_0
  try clear hcz3_1
  try clear hcz3_2
  try clear hfz3_0
  try clear hfz3_1
  try clear hfz3_2
  obtain ⟨x3_1, x11_1, rfl, rfl, HA, HK1, BK510, HB⟩ := hrel
  cases gk with
  | zero => exact absurd HA.out (by simp [impl_LogOk.l0])
  | succ k1 =>
   have H := HA.out
   clear HA
   simp only [impl_LogOk.l0] at H
   by_cases c4 : x11_1 < (l0_2.length : Int)
   ·rw [if_pos c4] at H
    have c4b0 : decide (x11_1 < (l0_2.length : Int)) = true := decide_eq_true c4
    clear c4
    by_cases c5 : 0 ≤ x11_1
    rotate_left
    ·rw [if_neg c5] at H
     exact absurd H (by simp)
    rw [if_pos c5] at H
    have c5b0 : decide (0 ≤ x11_1) = true := decide_eq_true c5
    clear c5
    by_cases c6 : x11_1 < (l0_2.length : Int)
    rotate_left
    ·exact absurd H (by exfalso; (try have h0_ := of_decide_eq_true c4b0); (try have g0_ := c4); omega)
    rw [if_pos c6] at H
    have c6b0 : decide (x11_1 < (l0_2.length : Int)) = true := decide_eq_true c6
    clear c6
    replace H := bsi H
    obtain ⟨t513, A7, H⟩ := H
    (try dsimp only at H)
    by_cases c8 : t513 = true
    ·subst c8
     rw [if_pos rfl] at H
     by_cases c9 : ((rd_T28 l0_2 x11_1).f0) < x3_1
     ·rw [if_pos c9] at H
      have c9b0 : decide (((rd_T28 l0_2 x11_1).f0) < x3_1) = true := decide_eq_true c9
      clear c9
      obtain rfl := Option.some.inj H
      have p511 : 0 ≤ (x11_1 : Int) := of_decide_eq_true B13x11_
      have q511 : x11_1 < (l0_2.length : Int) := of_decide_eq_true B13x11_
      obtain ⟨ad511, e511, hx511_0, hx511_1, hx511_2⟩ := at_T28 HR0_2.out x11_1 p511 q511
      cases e511
      replace hx511_0 := (HB.out.cell (World.block_lt_of_cell? w _ hx511_0)).trans hx511_0
      replace hx511_1 := (HB.out.cell (World.block_lt_of_cell? w _ hx511_1)).trans hx511_1
      replace hx511_2 := (HB.out.cell (World.block_lt_of_cell? w _ hx511_2)).trans hx511_2
      replace p511 := eq_true p511
      replace q511 := eq_true q511
      go_wp2_with (first | ((with_reducible refine gate_dst (N := 5) rfl ?_); (try (refine gate_guard (by rfl) ?_; dsimp only)); refine box_event ?hg (N := 5) ?hd (cs := #[.int .i64 0, .int .i64 0, .string (⟨#[]⟩ : ByteArray)]) (t := 28) ?hr ?_; (case hd => rfl); (case hg => rfl); (case hr => exact B13x7_); intro gb512 hg w10 hbox hb; have BK512 := Aside0.mk (hbox); have GW512 := Aside0.mk ((bs hg (below_size HB.out))); have GE512 := Aside0.mk ((bs hg (below_size HB.out))); replace HB := Aside0.mk (below_step B13x6_ hb); have NB510_512 := Aside0.mk ((nl hg (blk_lt BK510.out))); have NB512_510 := Aside0.mk ((ng hg (blk_lt BK510.out))); replace BK510 := Aside0.mk (bb BK510.out hb); clear hb hbox hg; have hnb11 := NB512_510.out; have hnc11 := NB510_512.out; obtain ⟨hcz12_0, hcz12_1, hcz12_2⟩ := cl3 BK512.out; obtain ⟨hfz12_0, hfz12_1, hfz12_2⟩ := fr3 BK512.out) | ((with_reducible refine gate_callee (f := 53) rfl ?_); refine goesL_ (some 16) rfl rfl Try.func53 B13x18_ rfl #[.agg #[.int .i64 ((rd_T28 l0_2 x11_1).f0), .int .i64 ((rd_T28 l0_2 x11_1).f1), .string ((rd_T28 l0_2 x11_1).f2)]] rfl B13x1_ ?_; (with_reducible refine (impl_EntryOk.calls k1 ((rd_T28 l0_2 x11_1).f0) ((rd_T28 l0_2 x11_1).f1) ((rd_T28 l0_2 x11_1).f2) true _ A7.out).mono ?_); rintro e w13 ⟨rfl, hb⟩; refine ⟨_, rfl, ?_⟩; replace BK510 := Aside0.mk (blk_below (g := gb510) (o := .cells #[.int .i64 a0_0, .int .i64 a0_1, .slice (some ad511) l0_2.length c0_2] 26 (0, 0)) B13x13_ hb); replace BK512 := Aside0.mk (blk_below (g := gb512) (o := .cells #[.int .i64 ((rd_T28 l0_2 x11_1).f0), .int .i64 ((rd_T28 l0_2 x11_1).f1), .string ((rd_T28 l0_2 x11_1).f2)] 28 (0, 0)) B13x14_ hb); replace HB := Aside0.mk (below_step B13x8_ hb); (try clear hb); obtain ⟨hcz14_0, hcz14_1, hcz14_2⟩ := cl3 BK512.out; obtain ⟨hfz14_0, hfz14_1, hfz14_2⟩ := fr3 BK512.out))
      go_ret
      exact ⟨B13x4_, B13x8_⟩
     ·rw [if_neg c9] at H
      have c9b0 : decide (((rd_T28 l0_2 x11_1).f0) < x3_1) = false := decide_eq_false c9
      clear c9
      have H' := Aside0.mk H
      clear H
      have p511 : 0 ≤ (x11_1 : Int) := of_decide_eq_true B13x11_
      have q511 : x11_1 < (l0_2.length : Int) := of_decide_eq_true B13x11_
      obtain ⟨ad511, e511, hx511_0, hx511_1, hx511_2⟩ := at_T28 HR0_2.out x11_1 p511 q511
      cases e511
      replace hx511_0 := (HB.out.cell (World.block_lt_of_cell? w _ hx511_0)).trans hx511_0
      replace hx511_1 := (HB.out.cell (World.block_lt_of_cell? w _ hx511_1)).trans hx511_1
      replace hx511_2 := (HB.out.cell (World.block_lt_of_cell? w _ hx511_2)).trans hx511_2
      replace p511 := eq_true p511
      replace q511 := eq_true q511
      go_wp2_with (first | ((with_reducible refine gate_dst (N := 5) rfl ?_); (try (refine gate_guard (by rfl) ?_; dsimp only)); refine box_event ?hg (N := 5) ?hd (cs := #[.int .i64 0, .int .i64 0, .string (⟨#[]⟩ : ByteArray)]) (t := 28) ?hr ?_; (case hd => rfl); (case hg => rfl); (case hr => exact B13x7_); intro gb512 hg w15 hbox hb; have BK512 := Aside0.mk (hbox); have GW512 := Aside0.mk ((bs hg (below_size HB.out))); have GE512 := Aside0.mk ((bs hg (below_size HB.out))); replace HB := Aside0.mk (below_step B13x6_ hb); have NB510_512 := Aside0.mk ((nl hg (blk_lt BK510.out))); have NB512_510 := Aside0.mk ((ng hg (blk_lt BK510.out))); replace BK510 := Aside0.mk (bb BK510.out hb); clear hb hbox hg; have hnb16 := NB512_510.out; have hnc16 := NB510_512.out; obtain ⟨hcz17_0, hcz17_1, hcz17_2⟩ := cl3 BK512.out; obtain ⟨hfz17_0, hfz17_1, hfz17_2⟩ := fr3 BK512.out) | ((with_reducible refine gate_callee (f := 53) rfl ?_); refine goesL_ (some 16) rfl rfl Try.func53 B13x18_ rfl #[.agg #[.int .i64 ((rd_T28 l0_2 x11_1).f0), .int .i64 ((rd_T28 l0_2 x11_1).f1), .string ((rd_T28 l0_2 x11_1).f2)]] rfl B13x1_ ?_; (with_reducible refine (impl_EntryOk.calls k1 ((rd_T28 l0_2 x11_1).f0) ((rd_T28 l0_2 x11_1).f1) ((rd_T28 l0_2 x11_1).f2) true _ A7.out).mono ?_); rintro e w18 ⟨rfl, hb⟩; refine ⟨_, rfl, ?_⟩; replace BK510 := Aside0.mk (blk_below (g := gb510) (o := .cells #[.int .i64 a0_0, .int .i64 a0_1, .slice (some ad511) l0_2.length c0_2] 26 (0, 0)) B13x13_ hb); replace BK512 := Aside0.mk (blk_below (g := gb512) (o := .cells #[.int .i64 ((rd_T28 l0_2 x11_1).f0), .int .i64 ((rd_T28 l0_2 x11_1).f1), .string ((rd_T28 l0_2 x11_1).f2)] 28 (0, 0)) B13x14_ hb); replace HB := Aside0.mk (below_step B13x8_ hb); (try clear hb); obtain ⟨hcz19_0, hcz19_1, hcz19_2⟩ := cl3 BK512.out; obtain ⟨hfz19_0, hfz19_1, hfz19_2⟩ := fr3 BK512.out))
      go_roundg k1
      case measure => have := HK1.out; omega
      case rel => exact ⟨((rd_T28 l0_2 x11_1).f0), (wrap64 (x11_1 + 1)), (be_), (be_), H', ⟨(by have := HK1.out; omega)⟩, ⟨B13x20_⟩, ⟨B13x8_⟩⟩
    ·replace c8 := Bool.eq_false_iff.mpr c8
     subst c8
     rw [if_neg (show ¬ (false = true) by decide)] at H
     obtain rfl := Option.some.inj H
     have p511 : 0 ≤ (x11_1 : Int) := of_decide_eq_true B13x11_
     have q511 : x11_1 < (l0_2.length : Int) := of_decide_eq_true B13x11_
     obtain ⟨ad511, e511, hx511_0, hx511_1, hx511_2⟩ := at_T28 HR0_2.out x11_1 p511 q511
     cases e511
     replace hx511_0 := (HB.out.cell (World.block_lt_of_cell? w _ hx511_0)).trans hx511_0
     replace hx511_1 := (HB.out.cell (World.block_lt_of_cell? w _ hx511_1)).trans hx511_1
     replace hx511_2 := (HB.out.cell (World.block_lt_of_cell? w _ hx511_2)).trans hx511_2
     replace p511 := eq_true p511
     replace q511 := eq_true q511
     go_wp2_with (first | ((with_reducible refine gate_dst (N := 5) rfl ?_); (try (refine gate_guard (by rfl) ?_; dsimp only)); refine box_event ?hg (N := 5) ?hd (cs := #[.int .i64 0, .int .i64 0, .string (⟨#[]⟩ : ByteArray)]) (t := 28) ?hr ?_; (case hd => rfl); (case hg => rfl); (case hr => exact B13x7_); intro gb512 hg w20 hbox hb; have BK512 := Aside0.mk (hbox); have GW512 := Aside0.mk ((bs hg (below_size HB.out))); have GE512 := Aside0.mk ((bs hg (below_size HB.out))); replace HB := Aside0.mk (below_step B13x6_ hb); have NB510_512 := Aside0.mk ((nl hg (blk_lt BK510.out))); have NB512_510 := Aside0.mk ((ng hg (blk_lt BK510.out))); replace BK510 := Aside0.mk (bb BK510.out hb); clear hb hbox hg; have hnb21 := NB512_510.out; have hnc21 := NB510_512.out; obtain ⟨hcz22_0, hcz22_1, hcz22_2⟩ := cl3 BK512.out; obtain ⟨hfz22_0, hfz22_1, hfz22_2⟩ := fr3 BK512.out) | ((with_reducible refine gate_callee (f := 53) rfl ?_); refine goesL_ (some 16) rfl rfl Try.func53 B13x18_ rfl #[.agg #[.int .i64 ((rd_T28 l0_2 x11_1).f0), .int .i64 ((rd_T28 l0_2 x11_1).f1), .string ((rd_T28 l0_2 x11_1).f2)]] rfl B13x1_ ?_; (with_reducible refine (impl_EntryOk.calls k1 ((rd_T28 l0_2 x11_1).f0) ((rd_T28 l0_2 x11_1).f1) ((rd_T28 l0_2 x11_1).f2) false _ A7.out).mono ?_); rintro e w23 ⟨rfl, hb⟩; refine ⟨_, rfl, ?_⟩; replace BK510 := Aside0.mk (blk_below (g := gb510) (o := .cells #[.int .i64 a0_0, .int .i64 a0_1, .slice (some ad511) l0_2.length c0_2] 26 (0, 0)) B13x13_ hb); replace BK512 := Aside0.mk (blk_below (g := gb512) (o := .cells #[.int .i64 ((rd_T28 l0_2 x11_1).f0), .int .i64 ((rd_T28 l0_2 x11_1).f1), .string ((rd_T28 l0_2 x11_1).f2)] 28 (0, 0)) B13x14_ hb); replace HB := Aside0.mk (below_step B13x8_ hb); (try clear hb)))
     go_ret
     exact ⟨B13x4_, B13x8_⟩
   ·rw [if_neg c4] at H
    have c4b0 : decide (x11_1 < (l0_2.length : Int)) = false := decide_eq_false c4
    clear c4
    replace H := bsi H
    obtain ⟨t514, A24, H⟩ := H
    (try dsimp only at H)
    by_cases c25 : t514 = true
    ·subst c25
     rw [if_pos rfl] at H
     replace H := bsi H
     obtain ⟨t515, A26, H⟩ := H
     (try dsimp only at H)
     by_cases c27 : t515 = true
     ·subst c27
      rw [if_pos rfl] at H
      by_cases c28 : (l0_2.length : Int) ≤ 60
      ·rw [if_pos c28] at H
       have c28b0 : decide ((l0_2.length : Int) ≤ 60) = true := decide_eq_true c28
       have c28b1 : decide (l0_2.length ≤ 60) = true := decide_eq_true (by omega)
       clear c28
       obtain rfl := Option.some.inj H
       obtain ⟨hcz29_0, hcz29_1, hcz29_2⟩ := cl3 BK510.out
       obtain ⟨hfz29_0, hfz29_1, hfz29_2⟩ := fr3 BK510.out
       go_wp2_with (first | ((with_reducible refine gate_callee (f := 54) rfl ?_); refine goesL_ (some 29) rfl rfl Try.func54 B13x18_ rfl #[.int .i64 a0_0] rfl B13x1_ ?_; (with_reducible refine (impl_isIndex.calls a0_0 true _ A24.out).mono ?_); rintro e w' ⟨rfl, ⟨nd, rfl⟩⟩; refine ⟨_, rfl, ?_⟩) | (go_at_call 55; (with_reducible refine (impl_isTerm.calls a0_1 true _ A26.out).mono ?_); rintro e w' ⟨rfl, ⟨nd, rfl⟩⟩))
       go_ret
       exact ⟨B13x4_, B13x6_⟩
      ·rw [if_neg c28] at H
       have c28b0 : decide ((l0_2.length : Int) ≤ 60) = false := decide_eq_false c28
       have c28b1 : decide (l0_2.length ≤ 60) = false := decide_eq_false (by omega)
       clear c28
       obtain rfl := Option.some.inj H
       obtain ⟨hcz30_0, hcz30_1, hcz30_2⟩ := cl3 BK510.out
       obtain ⟨hfz30_0, hfz30_1, hfz30_2⟩ := fr3 BK510.out
       go_wp2_with (first | ((with_reducible refine gate_callee (f := 54) rfl ?_); refine goesL_ (some 29) rfl rfl Try.func54 B13x18_ rfl #[.int .i64 a0_0] rfl B13x1_ ?_; (with_reducible refine (impl_isIndex.calls a0_0 true _ A24.out).mono ?_); rintro e w' ⟨rfl, ⟨nd, rfl⟩⟩; refine ⟨_, rfl, ?_⟩) | (go_at_call 55; (with_reducible refine (impl_isTerm.calls a0_1 true _ A26.out).mono ?_); rintro e w' ⟨rfl, ⟨nd, rfl⟩⟩))
       go_ret
       exact ⟨B13x4_, B13x6_⟩
     ·replace c27 := Bool.eq_false_iff.mpr c27
      subst c27
      rw [if_neg (show ¬ (false = true) by decide)] at H
      obtain rfl := Option.some.inj H
      obtain ⟨hcz31_0, hcz31_1, hcz31_2⟩ := cl3 BK510.out
      obtain ⟨hfz31_0, hfz31_1, hfz31_2⟩ := fr3 BK510.out
      go_wp2_with (first | ((with_reducible refine gate_callee (f := 54) rfl ?_); refine goesL_ (some 29) rfl rfl Try.func54 B13x18_ rfl #[.int .i64 a0_0] rfl B13x1_ ?_; (with_reducible refine (impl_isIndex.calls a0_0 true _ A24.out).mono ?_); rintro e w' ⟨rfl, ⟨nd, rfl⟩⟩; refine ⟨_, rfl, ?_⟩) | (go_at_call 55; (with_reducible refine (impl_isTerm.calls a0_1 false _ A26.out).mono ?_); rintro e w' ⟨rfl, ⟨nd, rfl⟩⟩))
      go_ret
      exact ⟨B13x4_, B13x6_⟩
    ·replace c25 := Bool.eq_false_iff.mpr c25
     subst c25
     rw [if_neg (show ¬ (false = true) by decide)] at H
     obtain rfl := Option.some.inj H
     obtain ⟨hcz32_0, hcz32_1, hcz32_2⟩ := cl3 BK510.out
     obtain ⟨hfz32_0, hfz32_1, hfz32_2⟩ := fr3 BK510.out
     go_wp2_with (first | ((with_reducible refine gate_callee (f := 54) rfl ?_); refine goesL_ (some 29) rfl rfl Try.func54 B13x18_ rfl #[.int .i64 a0_0] rfl B13x1_ ?_; (with_reducible refine (impl_isIndex.calls a0_0 false _ A24.out).mono ?_); rintro e w' ⟨rfl, ⟨nd, rfl⟩⟩; refine ⟨_, rfl, ?_⟩))
     go_ret
     exact ⟨B13x4_, B13x6_⟩

/-! ### impl_LogBehind: function 16 -/
def impl_LogBehind.f (k : Nat) (a0_0 : Int) (a0_1 : Int) (l0_2 : List (S28)) (a1 : Int) (a2 : Int) : Option (Int × Int × (List (S28))) := (impl_LogOk.f k a0_0 a0_1 l0_2).bind fun t519 => (if t519 = true then ((impl_LogTerm.f a0_0 a0_1 l0_2 a1).bind fun t520 => (if t520 = a2 then (if a2 ≥ 0 then (if 0 ≤ (wrap64 (a1 - a0_0)) then (if (wrap64 (a1 - a0_0)) ≤ (l0_2.length : Int) then ((some (l0_2.drop ((wrap64 (a1 - a0_0)) : Int).toNat : List (S28))).bind fun y521 => (if ([] : List (S28)).length + y521.length < 4398046511104 then (some (a1, a2, (([] : List (S28)) ++ y521))) else (none))) else (none)) else (none)) else (some (a1, a2, ([] : List (S28))))) else (some (a1, a2, ([] : List (S28)))))) else (some (a1, a2, ([] : List (S28)))))
theorem impl_LogBehind.mono : ∀ a0 a1 a2 a3 a4 k, LeO (impl_LogBehind.f k a0 a1 a2 a3 a4) (impl_LogBehind.f (k + 1) a0 a1 a2 a3 a4) := by
 intro a0 a1 a2 a3 a4 k
 unfold impl_LogBehind.f
 repeat' first
   | (with_reducible exact impl_LogOk.mono _ _ _ _)
   | (with_reducible first | exact LeO.refl _ | exact LeO.none _ | refine LeO.ite ?_ ?_ | refine LeO.bind ?_ (fun _ => ?_))
   | exact impl_LogOk.mono _ _ _ _
def impl_LogBehind.T3 : Bool × List (List Nat × List Nat) := (true, [([], []), ([0], [0]), ([], []), ([2], [2]), ([], []), ([], []), ([5], [5]), ([4, 6], [4, 6]), ([3, 7], [3, 7]), ([1, 8], [1, 8]), ([0, 1, 2, 3, 4, 5, 6, 7, 8, 9], []), ([10, 9, 9, 0, 1, 2, 3, 4, 5, 6, 7, 8, 9], [9, 10])])
def impl_LogBehind.B3 : List Nat := [0, 1, 0, 4, 0, 0, 32, 112, 252, 511, 1023, 2047]
theorem impl_LogBehind.tab3 : rtab .any (opsOf Try.f16 3) = impl_LogBehind.T3 := by kernel_rfl
theorem impl_LogBehind.bits3 : waitsOk impl_LogBehind.T3.2 impl_LogBehind.B3 = true := by kernel_rfl
set_option maxHeartbeats 8000000 in
set_option maxRecDepth 100000 in
theorem impl_LogBehind.calls (k : Nat) (a0_0 : Int) (a0_1 : Int) (A0_2 : Option Addr) (c0_2 : Nat) (l0_2 : List (S28)) (a1 : Int) (a2 : Int) (r1 : Int) (r2 : Int) (r3 : List (S28)) (w : World) (hr0_2 : Kd.C k28 w A0_2 l0_2.length l0_2) (hc0_2 : l0_2.length ≤ c0_2) (h : impl_LogBehind.f k a0_0 a0_1 l0_2 a1 a2 = some (r1, r2, r3)) :
  Calls Try.prog 16 #[.agg #[.int .i64 a0_0, .int .i64 a0_1, .slice A0_2 l0_2.length c0_2], .int .i64 a1, .int .i64 a2] w fun e w' => ∃ v2_ : Value, e = .returned (.agg #[.int .i64 r1, .int .i64 r2, v2_]) ∧ Kd.R k28 28 w' w.heap.size (fun _ => True) v2_ r3 ∧ Below w.heap.size w w' := by
 have hu26 := Try.underlying26
 have HR0_2 := Aside0.mk hr0_2
 have HC0_2 := Aside0.mk hc0_2
 clear hr0_2 hc0_2
 have HB := Aside0.mk (Below.refl w.heap.size w)
 have H : ((impl_LogOk.f k a0_0 a0_1 l0_2).bind fun t519 => (if t519 = true then ((impl_LogTerm.f a0_0 a0_1 l0_2 a1).bind fun t520 => (if t520 = a2 then (if a2 ≥ 0 then (if 0 ≤ (wrap64 (a1 - a0_0)) then (if (wrap64 (a1 - a0_0)) ≤ (l0_2.length : Int) then ((some (l0_2.drop ((wrap64 (a1 - a0_0)) : Int).toNat : List (S28))).bind fun y521 => (if ([] : List (S28)).length + y521.length < 4398046511104 then (some (a1, a2, (([] : List (S28)) ++ y521))) else (none))) else (none)) else (none)) else (some (a1, a2, ([] : List (S28))))) else (some (a1, a2, ([] : List (S28)))))) else (some (a1, a2, ([] : List (S28)))))) = some (r1, r2, r3) := h
 clear h
 replace H := bsi H
 obtain ⟨t519, A4, H⟩ := H
 (try dsimp only at H)
 by_cases c5 : t519 = true
 ·subst c5
  rw [if_pos rfl] at H
  replace H := bsi H
  obtain ⟨t520, A6, H⟩ := H
  (try dsimp only at H)
  by_cases c7 : t520 = a2
  ·rw [if_pos c7] at H
   have c7b0 := beq_iff_eq.mpr c7
   have c7b1 := bne_eq_false_iff_eq.mpr c7
   clear c7
   by_cases c8 : a2 ≥ 0
   ·rw [if_pos c8] at H
    have c8b0 : decide (0 ≤ a2) = true := decide_eq_true c8
    clear c8
    obtain ⟨ji9, hji9⟩ : ∃ j_ : Int, (wrap64 (a1 - a0_0)) = j_ := ⟨_, rfl⟩
    replace H : (if 0 ≤ (ji9) then (if (ji9) ≤ (l0_2.length : Int) then ((some (l0_2.drop ((ji9) : Int).toNat : List (S28))).bind fun y521 => (if ([] : List (S28)).length + y521.length < 4398046511104 then (some (a1, a2, (([] : List (S28)) ++ y521))) else (none))) else (none)) else (none)) = some (r1, r2, r3) := by first | (rw [hji9] at H; exact H) | (simp only [hji9] at H ⊢; exact H)
    (try rw [hji9] at A4)
    (try rw [hji9] at A6)
    have hji9w : (IntKind.i64.wrap (a1 - a0_0)) = ji9 := (i64_w _).trans hji9
    by_cases c10 : 0 ≤ (ji9)
    rotate_left
    ·rw [if_neg c10] at H
     exact absurd H (by simp)
    rw [if_pos c10] at H
    have c10b0 := eq_true c10
    have c10b1 : decide (0 ≤ (ji9)) = true := decide_eq_true c10
    clear c10
    by_cases c11 : (ji9) ≤ (l0_2.length : Int)
    rotate_left
    ·rw [if_neg c11] at H
     exact absurd H (by simp)
    rw [if_pos c11] at H
    have c11b0 := eq_true c11
    have c11b1 : decide ((ji9) ≤ (l0_2.length : Int)) = true := decide_eq_true c11
    clear c11
    obtain ⟨y521, hy521⟩ : ∃ y_ : List (S28), y_ = (l0_2.drop ((ji9) : Int).toNat) := ⟨_, rfl⟩
    replace H : (if ([] : List (S28)).length + y521.length < 4398046511104 then (some (a1, a2, (([] : List (S28)) ++ y521))) else (none)) = some (r1, r2, r3) := by first | (rw [hy521]; with_reducible exact H) | (have H2_ := (Option.bind_some _ _).symm.trans H; rw [hy521]; with_reducible exact H2_) | (have H2_ := (Option.bind_some _ _).symm.trans H; with_reducible exact H2_) | with_reducible exact H | (rw [hy521]; exact H) | exact H
    have Ny521 := Aside0.mk hy521
    clear hy521
    by_cases c12 : ([] : List (S28)).length + y521.length < 4398046511104
    rotate_left
    ·rw [if_neg c12] at H
     exact absurd H (by simp)
    rw [if_pos c12] at H
    have LMc12 := Aside0.mk c12
    clear c12
    obtain ⟨y525, hy525⟩ : ∃ y_ : List (S28), y_ = (([] : List (S28)) ++ y521) := ⟨_, rfl⟩
    replace H : (some (a1, a2, y525)) = some (r1, r2, r3) := by first | (rw [hy525]; with_reducible exact H) | (have H2_ := (Option.bind_some _ _).symm.trans H; rw [hy525]; with_reducible exact H2_) | (have H2_ := (Option.bind_some _ _).symm.trans H; with_reducible exact H2_) | with_reducible exact H | (rw [hy525]; exact H) | exact H
    have Ny525 := Aside0.mk hy525
    clear hy525
    simp only [Option.some.injEq, Prod.mk.injEq] at H
    obtain ⟨rfl, rfl, rfl⟩ := H
    go_enter Try.func16, Try.ntmps16
    try go_wp2_with (first | ((with_reducible refine gate_dst (N := 3) rfl ?_); refine box_event ?hg (N := 3) ?hd (cs := #[.int .i64 a0_0, .int .i64 a0_1, .slice A0_2 l0_2.length c0_2]) (t := 26) ?hr ?_; (case hd => rfl); (case hg => rfl); (case hr => exact B13x7_); intro gb516 hg w13 hbox hb; have BK516 := Aside0.mk (hbox); have GW516 := Aside0.mk ((bs hg (below_size HB.out))); have GE516 := Aside0.mk ((bs hg (below_size HB.out))); replace HB := Aside0.mk (below_step B13x2_ hb); clear hb hbox hg) | ((with_reducible refine gate_dst (N := 6) rfl ?_); refine box_event ?hg (N := 6) ?hd (cs := #[.int .i64 0, .int .i64 0, .slice none 0 0]) (t := 26) ?hr ?_; (case hd => rfl); (case hg => rfl); (case hr => exact B13x7_); intro gb517 hg w14 hbox hb; have BK517 := Aside0.mk (hbox); have GW517 := Aside0.mk ((bs hg (below_size HB.out))); have GE517 := Aside0.mk ((bs hg (below_size HB.out))); replace HB := Aside0.mk (below_step B13x16_ hb); have NB516_517 := Aside0.mk ((nl hg (blk_lt BK516.out))); have NB517_516 := Aside0.mk ((ng hg (blk_lt BK516.out))); replace BK516 := Aside0.mk (bb BK516.out hb); clear hb hbox hg) | ((with_reducible refine gate_dst (N := 7) rfl ?_); refine box_event ?hg (N := 7) ?hd (cs := #[.int .i64 0, .int .i64 0, .slice none 0 0]) (t := 26) ?hr ?_; (case hd => rfl); (case hg => rfl); (case hr => exact B13x7_); intro gb518 hg w15 hbox hb; have BK518 := Aside0.mk (hbox); have GW518 := Aside0.mk ((bs hg (below_size HB.out))); have GE518 := Aside0.mk ((bs hg (below_size HB.out))); replace HB := Aside0.mk (below_step B13x12_ hb); have NB516_518 := Aside0.mk ((nl hg (blk_lt BK516.out))); have NB518_516 := Aside0.mk ((ng hg (blk_lt BK516.out))); replace BK516 := Aside0.mk (bb BK516.out hb); have NB517_518 := Aside0.mk ((nl hg (blk_lt BK517.out))); have NB518_517 := Aside0.mk ((ng hg (blk_lt BK517.out))); replace BK517 := Aside0.mk (bb BK517.out hb); clear hb hbox hg; have hnb16 := NB518_516.out; have hnc16 := NB516_518.out; have hnb17 := NB518_517.out; have hnc17 := NB517_518.out; obtain ⟨hcz18_0, hcz18_1, hcz18_2⟩ := cl3 BK518.out; obtain ⟨hfz18_0, hfz18_1, hfz18_2⟩ := fr3 BK518.out; have hnb19 := NB516_517.out; have hnc19 := NB517_516.out; obtain ⟨hcz20_0, hcz20_1, hcz20_2⟩ := cl3 BK516.out; obtain ⟨hfz20_0, hfz20_1, hfz20_2⟩ := fr3 BK516.out) | ((with_reducible refine gate_callee (f := 18) rfl ?_); refine goesL_ (some 12) rfl rfl Try.func18 B13x18_ rfl #[.agg #[.int .i64 a0_0, .int .i64 a0_1, .slice A0_2 l0_2.length c0_2]] rfl B13x1_ ?_; (with_reducible refine (impl_LogOk.calls k a0_0 a0_1 _ _ l0_2 true _ ?side1 ?side2 A4.out).mono ?_); (case side1 => exact B13x21_); (case side2 => exact HC0_2.out); rintro e w21 ⟨rfl, hb⟩; refine ⟨_, rfl, ?_⟩; replace BK516 := Aside0.mk (blk_below (g := gb516) (o := .cells #[.int .i64 a0_0, .int .i64 a0_1, .slice A0_2 l0_2.length c0_2] 26 (0, 0)) B13x9_ hb); replace BK517 := Aside0.mk (blk_below (g := gb517) (o := .cells #[.int .i64 0, .int .i64 0, .slice none 0 0] 26 (0, 0)) B13x5_ hb); replace BK518 := Aside0.mk (blk_below (g := gb518) (o := .cells #[.int .i64 a1, .int .i64 a2, .slice none 0 0] 26 (0, 0)) B13x10_ hb); replace HB := Aside0.mk (below_step B13x0_ hb); (try clear hb); obtain ⟨hcz22_0, hcz22_1, hcz22_2⟩ := cl3 BK516.out; obtain ⟨hfz22_0, hfz22_1, hfz22_2⟩ := fr3 BK516.out) | (go_at_call 15; (with_reducible refine (impl_LogTerm.calls a0_0 a0_1 _ _ l0_2 a1 t520 _ ?side1 ?side2 A6.out).mono ?_); (case side1 => exact B13x17_); (case side2 => exact HC0_2.out); rintro e w23 ⟨rfl, hb⟩; replace BK516 := Aside0.mk (bb BK516.out hb); replace BK517 := Aside0.mk (bb BK517.out hb); replace BK518 := Aside0.mk (bb BK518.out hb); replace HB := Aside0.mk (below_step B13x0_ hb); (try clear hb)))
    replace BK516 := Aside0.mk (blk_drew BK516.out)
    replace BK517 := Aside0.mk (blk_drew BK517.out)
    replace BK518 := Aside0.mk (blk_drew BK518.out)
    replace HB := Aside0.mk (below_drew1 HB.out)
    have q25 : ((ji9) : Int) ≤ ((l0_2.length : Int) : Int) := of_decide_eq_true B13x11_
    obtain ⟨i025, hi025, _, hsz25, _⟩ := info_parts info28
    have hroom25 : l0_2.length ≤ c0_2 := HC0_2.out
    have hC25 : Kd.C k28 _ A0_2 l0_2.length l0_2 := HR0_2.out
    have q025 : (0 : Int) ≤ ((ji9) : Int) := of_decide_eq_true B13x11_
    have hcut25 := cut_from (P := Try.prog) 24 28 .i64 Try.underlying24 hi025 3 hsz25 A0_2 l0_2.length c0_2 (ji9) q025 q25
    have hr25 := Kd.C_drop (m := ((ji9) : Int).toNat) (c := c0_2) hC25 (by omega) hroom25
    obtain ⟨A25, hA25⟩ : ∃ A1, A1 = (if c0_2 = ((ji9) : Int).toNat then A0_2 else (A0_2 : Option Addr).map (·.add (((ji9) : Int).toNat * 3))) := ⟨_, rfl⟩
    obtain ⟨c25, hc25⟩ : ∃ c1, c1 = c0_2 - ((ji9) : Int).toNat := ⟨_, rfl⟩
    have hy25 : y521.length = l0_2.length - ((ji9) : Int).toNat := (by rw [Ny521.out, List.length_drop] <;> omega)
    rw [show (l0_2).drop ((ji9) : Int).toNat = y521 from Ny521.out.symm] at hr25
    replace hr25 : Kd.C k28 _ A25 y521.length y521 := (by rw [hA25]; exact hr25)
    rw [← hy25, ← hA25, ← hc25] at hcut25
    have HR524 := Aside0.mk hr25
    have HC524 := Aside0.mk (show y521.length ≤ c25 from (by rw [hy25, hc25]; exact Nat.sub_le_sub_right hroom25 _))
    clear hr25 hC25 hroom25 hi025 hsz25 hc25
    have KY25 := Aside0.mk hy25
    have KA25 := Aside0.mk hA25
    clear hy25 hA25
    replace q25 := eq_true q25
    refine start_ (n := 12) (S := fun w' => w'.cell? ⟨gb518, 0, none⟩ = some (.int .i64 a1) ∧ w'.cell? ⟨gb518, 1, none⟩ = some (.int .i64 a2) ∧ w'.cell? ⟨gb518, 2, none⟩ = some (.slice none 0 0) ∧ w'.cell? ⟨gb516, 0, none⟩ = some (.int .i64 a0_0) ∧ w'.cell? ⟨gb516, 1, none⟩ = some (.int .i64 a0_1) ∧ w'.cell? ⟨gb516, 2, none⟩ = some (.slice A0_2 l0_2.length c0_2)) (ds := [11]) #[false, false, false, false, false, false, false, false, false, false, false, false] B13x18_ rfl rfl ⟨(blk_cell BK518.out 0).trans rfl, (blk_cell BK518.out 1).trans rfl, (blk_cell BK518.out 2).trans rfl, (blk_cell BK516.out 0).trans rfl, (blk_cell BK516.out 1).trans rfl, (blk_cell BK516.out 2).trans rfl⟩ (fun hHeld => ?_); refine with_tabW impl_LogBehind.tab3 impl_LogBehind.bits3 (fun HT_ HW_ => ?_)
    generalize w23.drew = w24 at BK516 BK517 BK518 HB HR524 hHeld ⊢
    refine pu_ 0 24 HT_ ?_
    refine pu_ 2 26 HT_ ?_
    refine pu_ 4 28 HT_ ?_
    refine pu_ 5 29 HT_ ?_
    refine ta_ 1 25 HT_ HW_ hHeld ?_
    refine ta_ 3 27 HT_ HW_ hHeld ?_
    refine ta_ 6 30 HT_ HW_ hHeld ?_
    refine pu_ 7 31 HT_ ?_
    refine pu_ 8 32 HT_ ?_
    refine one_ (i := 9) (N := some 33) #[true, true, true, true, true, true, true, true, true, true, false, false] rfl rfl (one_of HT_.out B13x18_) (by decide) (fun K hK => ?_)
    refine Kd.R_append_rows_step k28 (w0 := w) w.heap.size (by rfl) (.tmp 25) (.tmp 32) 24 28 (.agg #[(.int .i64 0), (.int .i64 0), (.string ⟨#[]⟩)]) 32 rfl Try.underlying24 info28 rfl (by decide) (by omega) (.slice none 0 0) ([] : List (S28)) y521 _ _ _ (fun _ => True) (fun _ => False) rfl rfl ?aO ?aR (fun _ _ h => h) (fun _ h => h.elim) ?aF ?aB ?aS ?aL ?_
    (case aR => repeat (first | exact (Kd.C_below HR524.out HB.out) | (with_reducible refine Kd.C_alloc ?_ _) | (with_reducible refine Kd.C_drewN ?_ _) | (with_reducible refine Kd.C_drew ?_)))
    (case aB => exact B13x0_)
    (case aF => exact (fun _ _ => trivial))
    (case aO => exact ((Kd.R_nil _ _ _ _ (fun _ => True))))
    (case aS => exact (below_size B13x0_))
    (case aL => have := LMc12.out; omega)
    intro v526 w26 ho hb hg hat
    rw [← Ny525.out] at ho
    replace BK516 := Aside0.mk (blk_grown (g := gb516) (o := .cells #[.int .i64 a0_0, .int .i64 a0_1, .slice A0_2 l0_2.length c0_2] 26 (0, 0)) (by (with_reducible repeat (first | refine blk_drewN ?_ _ | refine blk_drew ?_ | refine blk_alloc ?_ _)); exact BK516.out) hg (by simp [Value.ownBlock]))
    replace BK517 := Aside0.mk (blk_grown (g := gb517) (o := .cells #[.int .i64 0, .int .i64 0, .slice none 0 0] 26 (0, 0)) (by (with_reducible repeat (first | refine blk_drewN ?_ _ | refine blk_drew ?_ | refine blk_alloc ?_ _)); exact BK517.out) hg (by simp [Value.ownBlock]))
    replace BK518 := Aside0.mk (blk_grown (g := gb518) (o := .cells #[.int .i64 a1, .int .i64 a2, .slice none 0 0] 26 (0, 0)) (by (with_reducible repeat (first | refine blk_drewN ?_ _ | refine blk_drew ?_ | refine blk_alloc ?_ _)); exact BK518.out) hg (by simp [Value.ownBlock]))
    replace HB := Aside0.mk (hb)
    have HO527 := Aside0.mk (ho)
    clear ho hb hg hat
    obtain ⟨Ao27, co27, eo27⟩ := Kd.R_slice HO527.out
    (first | subst eo27 | (injection eo27 with f1_ f2_ f3_; have f4_ := f1_.symm; have f5_ := f3_.symm; clear f1_ f2_ f3_; subst f4_; subst f5_))
    refine hK.out _ _ ⟨(blk_cell BK518.out 0).trans rfl, (blk_cell BK518.out 1).trans rfl, (blk_cell BK518.out 2).trans rfl, (blk_cell BK516.out 0).trans rfl, (blk_cell BK516.out 1).trans rfl, (blk_cell BK516.out 2).trans rfl⟩ (fun hHeld => ?_)
    clear hK K
    refine norm_ (a' := ?_) ?_ ?_
    rotate_left
    ·show Act.put _ (some 33) _ = _
     simp only [Act.put, List.setIfInBounds_toArray, List.set_cons_zero, List.set_cons_succ, i64_w, i32_w]
     rfl
    refine pu_ 10 34 HT_ ?_
    refine last_ (i := 11) (N := none) #[true, true, true, true, true, true, true, true, true, true, true, true] rfl rfl (one_of HT_.out B13x18_) (by decide) (fun K hK => ?_)
    have hs28 : w26.cell? ⟨gb518, 2, none⟩ = some (.slice none 0 0) := (blk_cell BK518.out 2).trans rfl
    have hfs28 := blk_frozen BK518.out 2
    have hns28_0 := NB516_518.out
    have hns28_1 := NB517_518.out
    have hms28_0 := NB518_516.out
    have hms28_1 := NB518_517.out
    refine skip_ (w1 := ?_) (by rfl) rfl ?_ ?_
    rotate_left
    ·go_simp
     rfl
    refine hK.out _ _ ?_
    clear hK K
    refine done_ (done_of HT_.out B13x18_) ?_
    obtain ⟨hcz29_0, hcz29_1, hcz29_2⟩ := cl3 BK518.out
    obtain ⟨hfz29_0, hfz29_1, hfz29_2⟩ := fr3 BK518.out
    obtain ⟨hcz30_0, hcz30_1, hcz30_2⟩ := cl3 BK517.out
    obtain ⟨hfz30_0, hfz30_1, hfz30_2⟩ := fr3 BK517.out
    try go_wp2
    refine bodyPost_ret (results_cell_row rfl _ _ gb517 26 #[.int .i64 a1, .int .i64 a2, .slice Ao27 y525.length co27] (0, 0) _ rfl B13x5_ Try.underlying26 rfl B13x18_) rfl ?_
    exact ⟨_, by first | rfl | (simp [errW_none, errW_some] <;> rfl) | (simp only [← hji9]; first | rfl | (simp [errW_none, errW_some] <;> rfl)) | (simp [*, errW_none, errW_some] <;> rfl), by (with_reducible repeat (first | apply Kd.R_alloc | apply Kd.R_drewN | apply Kd.R_drew)); exact Kd.R_mono (Kd.R_far (p := ⟨gb517, 2, none⟩) (Kd.R_far (p := ⟨gb517, 1, none⟩) (Kd.R_far (p := ⟨gb517, 0, none⟩) (Kd.R_far (p := ⟨gb518, 2, none⟩) (Kd.R_types (Kd.R_types HO527.out BK518.out (by decide)) BK517.out (by decide)) (fun _ hk => hk.1.2) (.slice Ao27 y525.length co27)) (fun _ hk => hk.2) (.int .i64 a1)) (fun _ hk => hk.2) (.int .i64 a2)) (fun _ hk => hk.2) (.slice Ao27 y525.length co27)) (fun _ hk => trivial), by repeat (first | (with_reducible first | exact HB.out | apply below_alloc | apply pw_below_drewN | apply below_drew1 | refine below_set ?_ GE516.out | refine below_set ?_ GE517.out | refine below_set ?_ GE518.out) | exact HB.out)⟩
   ·rw [if_neg c8] at H
    have c8b0 : decide (0 ≤ a2) = false := decide_eq_false c8
    clear c8
    simp only [Option.some.injEq, Prod.mk.injEq] at H
    obtain ⟨rfl, rfl, rfl⟩ := H
    go_enter Try.func16, Try.ntmps16
    go_wp2_with (first | ((with_reducible refine gate_dst (N := 3) rfl ?_); refine box_event ?hg (N := 3) ?hd (cs := #[.int .i64 a0_0, .int .i64 a0_1, .slice A0_2 l0_2.length c0_2]) (t := 26) ?hr ?_; (case hd => rfl); (case hg => rfl); (case hr => exact B13x7_); intro gb516 hg w31 hbox hb; have BK516 := Aside0.mk (hbox); have GW516 := Aside0.mk ((bs hg (below_size HB.out))); have GE516 := Aside0.mk ((bs hg (below_size HB.out))); replace HB := Aside0.mk (below_step B13x2_ hb); clear hb hbox hg) | ((with_reducible refine gate_dst (N := 6) rfl ?_); refine box_event ?hg (N := 6) ?hd (cs := #[.int .i64 0, .int .i64 0, .slice none 0 0]) (t := 26) ?hr ?_; (case hd => rfl); (case hg => rfl); (case hr => exact B13x7_); intro gb517 hg w32 hbox hb; have BK517 := Aside0.mk (hbox); have GW517 := Aside0.mk ((bs hg (below_size HB.out))); have GE517 := Aside0.mk ((bs hg (below_size HB.out))); replace HB := Aside0.mk (below_step B13x16_ hb); have NB516_517 := Aside0.mk ((nl hg (blk_lt BK516.out))); have NB517_516 := Aside0.mk ((ng hg (blk_lt BK516.out))); replace BK516 := Aside0.mk (bb BK516.out hb); clear hb hbox hg) | ((with_reducible refine gate_dst (N := 7) rfl ?_); refine box_event ?hg (N := 7) ?hd (cs := #[.int .i64 0, .int .i64 0, .slice none 0 0]) (t := 26) ?hr ?_; (case hd => rfl); (case hg => rfl); (case hr => exact B13x7_); intro gb518 hg w33 hbox hb; have BK518 := Aside0.mk (hbox); have GW518 := Aside0.mk ((bs hg (below_size HB.out))); have GE518 := Aside0.mk ((bs hg (below_size HB.out))); replace HB := Aside0.mk (below_step B13x12_ hb); have NB516_518 := Aside0.mk ((nl hg (blk_lt BK516.out))); have NB518_516 := Aside0.mk ((ng hg (blk_lt BK516.out))); replace BK516 := Aside0.mk (bb BK516.out hb); have NB517_518 := Aside0.mk ((nl hg (blk_lt BK517.out))); have NB518_517 := Aside0.mk ((ng hg (blk_lt BK517.out))); replace BK517 := Aside0.mk (bb BK517.out hb); clear hb hbox hg; have hnb34 := NB518_516.out; have hnc34 := NB516_518.out; have hnb35 := NB518_517.out; have hnc35 := NB517_518.out; obtain ⟨hcz36_0, hcz36_1, hcz36_2⟩ := cl3 BK518.out; obtain ⟨hfz36_0, hfz36_1, hfz36_2⟩ := fr3 BK518.out; have hnb37 := NB516_517.out; have hnc37 := NB517_516.out; obtain ⟨hcz38_0, hcz38_1, hcz38_2⟩ := cl3 BK516.out; obtain ⟨hfz38_0, hfz38_1, hfz38_2⟩ := fr3 BK516.out) | ((with_reducible refine gate_callee (f := 18) rfl ?_); refine goesL_ (some 12) rfl rfl Try.func18 B13x18_ rfl #[.agg #[.int .i64 a0_0, .int .i64 a0_1, .slice A0_2 l0_2.length c0_2]] rfl B13x1_ ?_; (with_reducible refine (impl_LogOk.calls k a0_0 a0_1 _ _ l0_2 true _ ?side1 ?side2 A4.out).mono ?_); (case side1 => exact B13x21_); (case side2 => exact HC0_2.out); rintro e w39 ⟨rfl, hb⟩; refine ⟨_, rfl, ?_⟩; replace BK516 := Aside0.mk (blk_below (g := gb516) (o := .cells #[.int .i64 a0_0, .int .i64 a0_1, .slice A0_2 l0_2.length c0_2] 26 (0, 0)) B13x9_ hb); replace BK517 := Aside0.mk (blk_below (g := gb517) (o := .cells #[.int .i64 0, .int .i64 0, .slice none 0 0] 26 (0, 0)) B13x5_ hb); replace BK518 := Aside0.mk (blk_below (g := gb518) (o := .cells #[.int .i64 a1, .int .i64 a2, .slice none 0 0] 26 (0, 0)) B13x10_ hb); replace HB := Aside0.mk (below_step B13x0_ hb); (try clear hb); obtain ⟨hcz40_0, hcz40_1, hcz40_2⟩ := cl3 BK516.out; obtain ⟨hfz40_0, hfz40_1, hfz40_2⟩ := fr3 BK516.out) | (go_at_call 15; (with_reducible refine (impl_LogTerm.calls a0_0 a0_1 _ _ l0_2 a1 t520 _ ?side1 ?side2 A6.out).mono ?_); (case side1 => exact B13x17_); (case side2 => exact HC0_2.out); rintro e w41 ⟨rfl, hb⟩; replace BK516 := Aside0.mk (bb BK516.out hb); replace BK517 := Aside0.mk (bb BK517.out hb); replace BK518 := Aside0.mk (bb BK518.out hb); replace HB := Aside0.mk (below_step B13x0_ hb); (try clear hb); obtain ⟨hcz42_0, hcz42_1, hcz42_2⟩ := cl3 BK518.out; obtain ⟨hfz42_0, hfz42_1, hfz42_2⟩ := fr3 BK518.out; obtain ⟨hcz43_0, hcz43_1, hcz43_2⟩ := cl3 BK517.out; obtain ⟨hfz43_0, hfz43_1, hfz43_2⟩ := fr3 BK517.out))
    refine bodyPost_ret (results_cell_row rfl _ _ gb517 26 #[.int .i64 a1, .int .i64 a2, .slice none 0 0] (0, 0) _ rfl B13x15_ Try.underlying26 rfl B13x18_) rfl ?_
    exact ⟨_, by first | rfl | (simp [errW_none, errW_some] <;> rfl) | (simp [*, errW_none, errW_some] <;> rfl), by first | exact Kd.R_nil _ _ _ _ _ | exact Kd.N_nil _ _ _ _ _ | exact Kd.V_nil _ _ _ _ _ | exact Kd.Q_nil _ _ _ _ _ | exact Kd.S_nil _ _ _ _ _, by repeat (first | (with_reducible first | exact HB.out | apply below_alloc | apply pw_below_drewN | apply below_drew1 | refine below_set ?_ GE516.out | refine below_set ?_ GE517.out | refine below_set ?_ GE518.out) | exact HB.out)⟩
  ·rw [if_neg c7] at H
   have c7b0 := beq_eq_false_iff_ne.mpr c7
   have c7b1 := bne_iff_ne.mpr c7
   simp only [Option.some.injEq, Prod.mk.injEq] at H
   obtain ⟨rfl, rfl, rfl⟩ := H
   go_enter Try.func16, Try.ntmps16
   go_wp2_with (first | ((with_reducible refine gate_dst (N := 3) rfl ?_); refine box_event ?hg (N := 3) ?hd (cs := #[.int .i64 a0_0, .int .i64 a0_1, .slice A0_2 l0_2.length c0_2]) (t := 26) ?hr ?_; (case hd => rfl); (case hg => rfl); (case hr => exact B13x7_); intro gb516 hg w44 hbox hb; have BK516 := Aside0.mk (hbox); have GW516 := Aside0.mk ((bs hg (below_size HB.out))); have GE516 := Aside0.mk ((bs hg (below_size HB.out))); replace HB := Aside0.mk (below_step B13x2_ hb); clear hb hbox hg) | ((with_reducible refine gate_dst (N := 6) rfl ?_); refine box_event ?hg (N := 6) ?hd (cs := #[.int .i64 0, .int .i64 0, .slice none 0 0]) (t := 26) ?hr ?_; (case hd => rfl); (case hg => rfl); (case hr => exact B13x7_); intro gb517 hg w45 hbox hb; have BK517 := Aside0.mk (hbox); have GW517 := Aside0.mk ((bs hg (below_size HB.out))); have GE517 := Aside0.mk ((bs hg (below_size HB.out))); replace HB := Aside0.mk (below_step B13x16_ hb); have NB516_517 := Aside0.mk ((nl hg (blk_lt BK516.out))); have NB517_516 := Aside0.mk ((ng hg (blk_lt BK516.out))); replace BK516 := Aside0.mk (bb BK516.out hb); clear hb hbox hg) | ((with_reducible refine gate_dst (N := 7) rfl ?_); refine box_event ?hg (N := 7) ?hd (cs := #[.int .i64 0, .int .i64 0, .slice none 0 0]) (t := 26) ?hr ?_; (case hd => rfl); (case hg => rfl); (case hr => exact B13x7_); intro gb518 hg w46 hbox hb; have BK518 := Aside0.mk (hbox); have GW518 := Aside0.mk ((bs hg (below_size HB.out))); have GE518 := Aside0.mk ((bs hg (below_size HB.out))); replace HB := Aside0.mk (below_step B13x12_ hb); have NB516_518 := Aside0.mk ((nl hg (blk_lt BK516.out))); have NB518_516 := Aside0.mk ((ng hg (blk_lt BK516.out))); replace BK516 := Aside0.mk (bb BK516.out hb); have NB517_518 := Aside0.mk ((nl hg (blk_lt BK517.out))); have NB518_517 := Aside0.mk ((ng hg (blk_lt BK517.out))); replace BK517 := Aside0.mk (bb BK517.out hb); clear hb hbox hg; have hnb47 := NB518_516.out; have hnc47 := NB516_518.out; have hnb48 := NB518_517.out; have hnc48 := NB517_518.out; obtain ⟨hcz49_0, hcz49_1, hcz49_2⟩ := cl3 BK518.out; obtain ⟨hfz49_0, hfz49_1, hfz49_2⟩ := fr3 BK518.out; have hnb50 := NB516_517.out; have hnc50 := NB517_516.out; obtain ⟨hcz51_0, hcz51_1, hcz51_2⟩ := cl3 BK516.out; obtain ⟨hfz51_0, hfz51_1, hfz51_2⟩ := fr3 BK516.out) | ((with_reducible refine gate_callee (f := 18) rfl ?_); refine goesL_ (some 12) rfl rfl Try.func18 B13x18_ rfl #[.agg #[.int .i64 a0_0, .int .i64 a0_1, .slice A0_2 l0_2.length c0_2]] rfl B13x1_ ?_; (with_reducible refine (impl_LogOk.calls k a0_0 a0_1 _ _ l0_2 true _ ?side1 ?side2 A4.out).mono ?_); (case side1 => exact B13x21_); (case side2 => exact HC0_2.out); rintro e w52 ⟨rfl, hb⟩; refine ⟨_, rfl, ?_⟩; replace BK516 := Aside0.mk (blk_below (g := gb516) (o := .cells #[.int .i64 a0_0, .int .i64 a0_1, .slice A0_2 l0_2.length c0_2] 26 (0, 0)) B13x9_ hb); replace BK517 := Aside0.mk (blk_below (g := gb517) (o := .cells #[.int .i64 0, .int .i64 0, .slice none 0 0] 26 (0, 0)) B13x5_ hb); replace BK518 := Aside0.mk (blk_below (g := gb518) (o := .cells #[.int .i64 a1, .int .i64 a2, .slice none 0 0] 26 (0, 0)) B13x10_ hb); replace HB := Aside0.mk (below_step B13x0_ hb); (try clear hb); obtain ⟨hcz53_0, hcz53_1, hcz53_2⟩ := cl3 BK516.out; obtain ⟨hfz53_0, hfz53_1, hfz53_2⟩ := fr3 BK516.out) | (go_at_call 15; (with_reducible refine (impl_LogTerm.calls a0_0 a0_1 _ _ l0_2 a1 t520 _ ?side1 ?side2 A6.out).mono ?_); (case side1 => exact B13x17_); (case side2 => exact HC0_2.out); rintro e w54 ⟨rfl, hb⟩; replace BK516 := Aside0.mk (bb BK516.out hb); replace BK517 := Aside0.mk (bb BK517.out hb); replace BK518 := Aside0.mk (bb BK518.out hb); replace HB := Aside0.mk (below_step B13x0_ hb); (try clear hb); obtain ⟨hcz55_0, hcz55_1, hcz55_2⟩ := cl3 BK518.out; obtain ⟨hfz55_0, hfz55_1, hfz55_2⟩ := fr3 BK518.out; obtain ⟨hcz56_0, hcz56_1, hcz56_2⟩ := cl3 BK517.out; obtain ⟨hfz56_0, hfz56_1, hfz56_2⟩ := fr3 BK517.out))
   refine bodyPost_ret (results_cell_row rfl _ _ gb517 26 #[.int .i64 a1, .int .i64 a2, .slice none 0 0] (0, 0) _ rfl B13x15_ Try.underlying26 rfl B13x18_) rfl ?_
   exact ⟨_, by first | rfl | (simp [errW_none, errW_some] <;> rfl) | (simp [*, errW_none, errW_some] <;> rfl), by first | exact Kd.R_nil _ _ _ _ _ | exact Kd.N_nil _ _ _ _ _ | exact Kd.V_nil _ _ _ _ _ | exact Kd.Q_nil _ _ _ _ _ | exact Kd.S_nil _ _ _ _ _, by repeat (first | (with_reducible first | exact HB.out | apply below_alloc | apply pw_below_drewN | apply below_drew1 | refine below_set ?_ GE516.out | refine below_set ?_ GE517.out | refine below_set ?_ GE518.out) | exact HB.out)⟩
 ·replace c5 := Bool.eq_false_iff.mpr c5
  subst c5
  rw [if_neg (show ¬ (false = true) by decide)] at H
  simp only [Option.some.injEq, Prod.mk.injEq] at H
  obtain ⟨rfl, rfl, rfl⟩ := H
  go_enter Try.func16, Try.ntmps16
  go_wp2_with (first | ((with_reducible refine gate_dst (N := 3) rfl ?_); refine box_event ?hg (N := 3) ?hd (cs := #[.int .i64 a0_0, .int .i64 a0_1, .slice A0_2 l0_2.length c0_2]) (t := 26) ?hr ?_; (case hd => rfl); (case hg => rfl); (case hr => exact B13x7_); intro gb516 hg w57 hbox hb; have BK516 := Aside0.mk (hbox); have GW516 := Aside0.mk ((bs hg (below_size HB.out))); have GE516 := Aside0.mk ((bs hg (below_size HB.out))); replace HB := Aside0.mk (below_step B13x2_ hb); clear hb hbox hg) | ((with_reducible refine gate_dst (N := 6) rfl ?_); refine box_event ?hg (N := 6) ?hd (cs := #[.int .i64 0, .int .i64 0, .slice none 0 0]) (t := 26) ?hr ?_; (case hd => rfl); (case hg => rfl); (case hr => exact B13x7_); intro gb517 hg w58 hbox hb; have BK517 := Aside0.mk (hbox); have GW517 := Aside0.mk ((bs hg (below_size HB.out))); have GE517 := Aside0.mk ((bs hg (below_size HB.out))); replace HB := Aside0.mk (below_step B13x16_ hb); have NB516_517 := Aside0.mk ((nl hg (blk_lt BK516.out))); have NB517_516 := Aside0.mk ((ng hg (blk_lt BK516.out))); replace BK516 := Aside0.mk (bb BK516.out hb); clear hb hbox hg) | ((with_reducible refine gate_dst (N := 7) rfl ?_); refine box_event ?hg (N := 7) ?hd (cs := #[.int .i64 0, .int .i64 0, .slice none 0 0]) (t := 26) ?hr ?_; (case hd => rfl); (case hg => rfl); (case hr => exact B13x7_); intro gb518 hg w59 hbox hb; have BK518 := Aside0.mk (hbox); have GW518 := Aside0.mk ((bs hg (below_size HB.out))); have GE518 := Aside0.mk ((bs hg (below_size HB.out))); replace HB := Aside0.mk (below_step B13x12_ hb); have NB516_518 := Aside0.mk ((nl hg (blk_lt BK516.out))); have NB518_516 := Aside0.mk ((ng hg (blk_lt BK516.out))); replace BK516 := Aside0.mk (bb BK516.out hb); have NB517_518 := Aside0.mk ((nl hg (blk_lt BK517.out))); have NB518_517 := Aside0.mk ((ng hg (blk_lt BK517.out))); replace BK517 := Aside0.mk (bb BK517.out hb); clear hb hbox hg; have hnb60 := NB518_516.out; have hnc60 := NB516_518.out; have hnb61 := NB518_517.out; have hnc61 := NB517_518.out; obtain ⟨hcz62_0, hcz62_1, hcz62_2⟩ := cl3 BK518.out; obtain ⟨hfz62_0, hfz62_1, hfz62_2⟩ := fr3 BK518.out; have hnb63 := NB516_517.out; have hnc63 := NB517_516.out; obtain ⟨hcz64_0, hcz64_1, hcz64_2⟩ := cl3 BK516.out; obtain ⟨hfz64_0, hfz64_1, hfz64_2⟩ := fr3 BK516.out) | ((with_reducible refine gate_callee (f := 18) rfl ?_); refine goesL_ (some 12) rfl rfl Try.func18 B13x18_ rfl #[.agg #[.int .i64 a0_0, .int .i64 a0_1, .slice A0_2 l0_2.length c0_2]] rfl B13x1_ ?_; (with_reducible refine (impl_LogOk.calls k a0_0 a0_1 _ _ l0_2 false _ ?side1 ?side2 A4.out).mono ?_); (case side1 => exact B13x21_); (case side2 => exact HC0_2.out); rintro e w65 ⟨rfl, hb⟩; refine ⟨_, rfl, ?_⟩; replace BK516 := Aside0.mk (blk_below (g := gb516) (o := .cells #[.int .i64 a0_0, .int .i64 a0_1, .slice A0_2 l0_2.length c0_2] 26 (0, 0)) B13x9_ hb); replace BK517 := Aside0.mk (blk_below (g := gb517) (o := .cells #[.int .i64 0, .int .i64 0, .slice none 0 0] 26 (0, 0)) B13x5_ hb); replace BK518 := Aside0.mk (blk_below (g := gb518) (o := .cells #[.int .i64 a1, .int .i64 a2, .slice none 0 0] 26 (0, 0)) B13x10_ hb); replace HB := Aside0.mk (below_step B13x0_ hb); (try clear hb); obtain ⟨hcz66_0, hcz66_1, hcz66_2⟩ := cl3 BK518.out; obtain ⟨hfz66_0, hfz66_1, hfz66_2⟩ := fr3 BK518.out; obtain ⟨hcz67_0, hcz67_1, hcz67_2⟩ := cl3 BK517.out; obtain ⟨hfz67_0, hfz67_1, hfz67_2⟩ := fr3 BK517.out))
  refine bodyPost_ret (results_cell_row rfl _ _ gb517 26 #[.int .i64 a1, .int .i64 a2, .slice none 0 0] (0, 0) _ rfl B13x15_ Try.underlying26 rfl B13x18_) rfl ?_
  exact ⟨_, by first | rfl | (simp [errW_none, errW_some] <;> rfl) | (simp [*, errW_none, errW_some] <;> rfl), by first | exact Kd.R_nil _ _ _ _ _ | exact Kd.N_nil _ _ _ _ _ | exact Kd.V_nil _ _ _ _ _ | exact Kd.Q_nil _ _ _ _ _ | exact Kd.S_nil _ _ _ _ _, by repeat (first | (with_reducible first | exact HB.out | apply below_alloc | apply pw_below_drewN | apply below_drew1 | refine below_set ?_ GE516.out | refine below_set ?_ GE517.out | refine below_set ?_ GE518.out) | exact HB.out)⟩

/-! ### impl_LogLast: function 17 -/
def impl_LogLast.f (a0_0 : Int) (a0_1 : Int) (l0_2 : List (S28)) : Option (Int × Int) := if (l0_2.length : Int) = 0 then (some (a0_0, a0_1)) else (if 0 ≤ (wrap64 ((l0_2.length : Int) - 1)) then (if (wrap64 ((l0_2.length : Int) - 1)) < (l0_2.length : Int) then (some (wrap64 (a0_0 + (l0_2.length : Int)), (rd_T28 l0_2 (wrap64 ((l0_2.length : Int) - 1))).f0)) else (none)) else (none))
set_option maxHeartbeats 8000000 in
set_option maxRecDepth 100000 in
theorem impl_LogLast.calls (a0_0 : Int) (a0_1 : Int) (A0_2 : Option Addr) (c0_2 : Nat) (l0_2 : List (S28)) (r1 : Int) (r2 : Int) (w : World) (hr0_2 : Kd.C k28 w A0_2 l0_2.length l0_2) (hc0_2 : l0_2.length ≤ c0_2) (h : impl_LogLast.f a0_0 a0_1 l0_2 = some (r1, r2)) :
  Calls Try.prog 17 #[.agg #[.int .i64 a0_0, .int .i64 a0_1, .slice A0_2 l0_2.length c0_2]] w fun e w' => e = .returned (.tuple #[.int .i64 r1, .int .i64 r2]) ∧ Below w.heap.size w w' := by
 have hu26 := Try.underlying26
 have HR0_2 := Aside0.mk hr0_2
 have HC0_2 := Aside0.mk hc0_2
 clear hr0_2 hc0_2
 have HB := Aside0.mk (Below.refl w.heap.size w)
 have H : (if (l0_2.length : Int) = 0 then (some (a0_0, a0_1)) else (if 0 ≤ (wrap64 ((l0_2.length : Int) - 1)) then (if (wrap64 ((l0_2.length : Int) - 1)) < (l0_2.length : Int) then (some (wrap64 (a0_0 + (l0_2.length : Int)), (rd_T28 l0_2 (wrap64 ((l0_2.length : Int) - 1))).f0)) else (none)) else (none))) = some (r1, r2) := h
 clear h
 by_cases c2 : (l0_2.length : Int) = 0
 ·rw [if_pos c2] at H
  have c2b0 := beq_iff_eq.mpr c2
  have c2b1 := bne_eq_false_iff_eq.mpr c2
  clear c2
  simp only [Option.some.injEq, Prod.mk.injEq] at H
  obtain ⟨rfl, rfl⟩ := H
  go_enter Try.func17, Try.ntmps17
  go_wp2_with (first | ((with_reducible refine gate_dst (N := 1) rfl ?_); refine box_event ?hg (N := 1) ?hd (cs := #[.int .i64 a0_0, .int .i64 a0_1, .slice A0_2 l0_2.length c0_2]) (t := 26) ?hr ?_; (case hd => rfl); (case hg => rfl); (case hr => exact B13x7_); intro gb528 hg w3 hbox hb; have BK528 := Aside0.mk (hbox); have GW528 := Aside0.mk ((bs hg (below_size HB.out))); have GE528 := Aside0.mk ((bs hg (below_size HB.out))); replace HB := Aside0.mk (below_step B13x2_ hb); clear hb hbox hg; obtain ⟨hcz4_0, hcz4_1, hcz4_2⟩ := cl3 BK528.out; obtain ⟨hfz4_0, hfz4_1, hfz4_2⟩ := fr3 BK528.out))
  repeat (go_quiet (first | ((with_reducible refine gate_dst (N := 1) rfl ?_); refine box_event ?hg (N := 1) ?hd (cs := #[.int .i64 a0_0, .int .i64 a0_1, .slice A0_2 l0_2.length c0_2]) (t := 26) ?hr ?_; (case hd => rfl); (case hg => rfl); (case hr => exact B13x7_); intro gb528 hg w3 hbox hb; have BK528 := Aside0.mk (hbox); have GW528 := Aside0.mk ((bs hg (below_size HB.out))); have GE528 := Aside0.mk ((bs hg (below_size HB.out))); replace HB := Aside0.mk (below_step B13x2_ hb); clear hb hbox hg; obtain ⟨hcz4_0, hcz4_1, hcz4_2⟩ := cl3 BK528.out; obtain ⟨hfz4_0, hfz4_1, hfz4_2⟩ := fr3 BK528.out)); try go_wp2_with (first | ((with_reducible refine gate_dst (N := 1) rfl ?_); refine box_event ?hg (N := 1) ?hd (cs := #[.int .i64 a0_0, .int .i64 a0_1, .slice A0_2 l0_2.length c0_2]) (t := 26) ?hr ?_; (case hd => rfl); (case hg => rfl); (case hr => exact B13x7_); intro gb528 hg w3 hbox hb; have BK528 := Aside0.mk (hbox); have GW528 := Aside0.mk ((bs hg (below_size HB.out))); have GE528 := Aside0.mk ((bs hg (below_size HB.out))); replace HB := Aside0.mk (below_step B13x2_ hb); clear hb hbox hg; obtain ⟨hcz4_0, hcz4_1, hcz4_2⟩ := cl3 BK528.out; obtain ⟨hfz4_0, hfz4_1, hfz4_2⟩ := fr3 BK528.out)))
  go_ret2
  exact ⟨B13x4_, B13x19_⟩
 ·rw [if_neg c2] at H
  have c2b0 := beq_eq_false_iff_ne.mpr c2
  have c2b1 := bne_iff_ne.mpr c2
  have c2b2 : ¬ (l0_2 = []) := fun h_ => c2 (by rw [h_]; rfl)
  obtain ⟨ji5, hji5⟩ : ∃ j_ : Int, (wrap64 ((l0_2.length : Int) - 1)) = j_ := ⟨_, rfl⟩
  replace H : (if 0 ≤ (ji5) then (if (ji5) < (l0_2.length : Int) then (some (wrap64 (a0_0 + (l0_2.length : Int)), (rd_T28 l0_2 (ji5)).f0)) else (none)) else (none)) = some (r1, r2) := by first | (rw [hji5] at H; exact H) | (simp only [hji5] at H ⊢; exact H)
  have hji5w : (IntKind.i64.wrap ((l0_2.length : Int) - 1)) = ji5 := (i64_w _).trans hji5
  by_cases c6 : 0 ≤ (ji5)
  rotate_left
  ·rw [if_neg c6] at H
   exact absurd H (by simp)
  rw [if_pos c6] at H
  have c6b0 : decide (0 ≤ (ji5)) = true := decide_eq_true c6
  clear c6
  by_cases c7 : (ji5) < (l0_2.length : Int)
  rotate_left
  ·rw [if_neg c7] at H
   exact absurd H (by simp)
  rw [if_pos c7] at H
  have c7b0 : decide ((ji5) < (l0_2.length : Int)) = true := decide_eq_true c7
  clear c7
  simp only [Option.some.injEq, Prod.mk.injEq] at H
  obtain ⟨rfl, rfl⟩ := H
  go_enter Try.func17, Try.ntmps17
  go_wp2_with (first | ((with_reducible refine gate_dst (N := 1) rfl ?_); refine box_event ?hg (N := 1) ?hd (cs := #[.int .i64 a0_0, .int .i64 a0_1, .slice A0_2 l0_2.length c0_2]) (t := 26) ?hr ?_; (case hd => rfl); (case hg => rfl); (case hr => exact B13x7_); intro gb528 hg w8 hbox hb; have BK528 := Aside0.mk (hbox); have GW528 := Aside0.mk ((bs hg (below_size HB.out))); have GE528 := Aside0.mk ((bs hg (below_size HB.out))); replace HB := Aside0.mk (below_step B13x2_ hb); clear hb hbox hg; obtain ⟨hcz9_0, hcz9_1, hcz9_2⟩ := cl3 BK528.out; obtain ⟨hfz9_0, hfz9_1, hfz9_2⟩ := fr3 BK528.out; have p529 : 0 ≤ ((ji5) : Int) := of_decide_eq_true B13x11_; have q529 : (ji5) < (l0_2.length : Int) := of_decide_eq_true B13x11_; obtain ⟨ad529, e529, hx529_0, hx529_1, hx529_2⟩ := at_T28 HR0_2.out (ji5) p529 q529; cases e529; replace hx529_0 := (HB.out.cell (World.block_lt_of_cell? w _ hx529_0)).trans hx529_0; replace hx529_1 := (HB.out.cell (World.block_lt_of_cell? w _ hx529_1)).trans hx529_1; replace hx529_2 := (HB.out.cell (World.block_lt_of_cell? w _ hx529_2)).trans hx529_2; replace p529 := eq_true p529; replace q529 := eq_true q529))
  repeat (go_quiet (first | ((with_reducible refine gate_dst (N := 1) rfl ?_); refine box_event ?hg (N := 1) ?hd (cs := #[.int .i64 a0_0, .int .i64 a0_1, .slice A0_2 l0_2.length c0_2]) (t := 26) ?hr ?_; (case hd => rfl); (case hg => rfl); (case hr => exact B13x7_); intro gb528 hg w8 hbox hb; have BK528 := Aside0.mk (hbox); have GW528 := Aside0.mk ((bs hg (below_size HB.out))); have GE528 := Aside0.mk ((bs hg (below_size HB.out))); replace HB := Aside0.mk (below_step B13x2_ hb); clear hb hbox hg; obtain ⟨hcz9_0, hcz9_1, hcz9_2⟩ := cl3 BK528.out; obtain ⟨hfz9_0, hfz9_1, hfz9_2⟩ := fr3 BK528.out; have p529 : 0 ≤ ((ji5) : Int) := of_decide_eq_true B13x11_; have q529 : (ji5) < (l0_2.length : Int) := of_decide_eq_true B13x11_; obtain ⟨ad529, e529, hx529_0, hx529_1, hx529_2⟩ := at_T28 HR0_2.out (ji5) p529 q529; cases e529; replace hx529_0 := (HB.out.cell (World.block_lt_of_cell? w _ hx529_0)).trans hx529_0; replace hx529_1 := (HB.out.cell (World.block_lt_of_cell? w _ hx529_1)).trans hx529_1; replace hx529_2 := (HB.out.cell (World.block_lt_of_cell? w _ hx529_2)).trans hx529_2; replace p529 := eq_true p529; replace q529 := eq_true q529)); try go_wp2_with (first | ((with_reducible refine gate_dst (N := 1) rfl ?_); refine box_event ?hg (N := 1) ?hd (cs := #[.int .i64 a0_0, .int .i64 a0_1, .slice A0_2 l0_2.length c0_2]) (t := 26) ?hr ?_; (case hd => rfl); (case hg => rfl); (case hr => exact B13x7_); intro gb528 hg w8 hbox hb; have BK528 := Aside0.mk (hbox); have GW528 := Aside0.mk ((bs hg (below_size HB.out))); have GE528 := Aside0.mk ((bs hg (below_size HB.out))); replace HB := Aside0.mk (below_step B13x2_ hb); clear hb hbox hg; obtain ⟨hcz9_0, hcz9_1, hcz9_2⟩ := cl3 BK528.out; obtain ⟨hfz9_0, hfz9_1, hfz9_2⟩ := fr3 BK528.out; have p529 : 0 ≤ ((ji5) : Int) := of_decide_eq_true B13x11_; have q529 : (ji5) < (l0_2.length : Int) := of_decide_eq_true B13x11_; obtain ⟨ad529, e529, hx529_0, hx529_1, hx529_2⟩ := at_T28 HR0_2.out (ji5) p529 q529; cases e529; replace hx529_0 := (HB.out.cell (World.block_lt_of_cell? w _ hx529_0)).trans hx529_0; replace hx529_1 := (HB.out.cell (World.block_lt_of_cell? w _ hx529_1)).trans hx529_1; replace hx529_2 := (HB.out.cell (World.block_lt_of_cell? w _ hx529_2)).trans hx529_2; replace p529 := eq_true p529; replace q529 := eq_true q529)))
  go_ret2
  exact ⟨(by first | rfl | (simp [errW_none, errW_some] <;> rfl) | (simp only [← hji5]; first | rfl | (simp [errW_none, errW_some] <;> rfl)) | (simp [*, errW_none, errW_some] <;> rfl)), B13x19_⟩

end Go.Proofs.Ytgffdijodnpolaa.QFnLogs
