/- Functions that a law reaches, as functions of Lean, and the walks that show that the calls come to their answers: written by a program of this project out of the translation. No condition. -/
import Derived.Test.YtideegpoakkgeaaQFnExactReadCommandx0
import Derived.Test.YtideegpoakkgeaaQFnExactReadCommandx3
import Derived.Test.YtideegpoakkgeaaQFnExactReadCommandx4
import Derived.Test.YtideegpoakkgeaaQFnExactReadCommandx6
import Derived.Test.YtideegpoakkgeaaShort3
import Derived.Test.YtideegpoakkgeaaShort
namespace Go.Proofs.Ytideegpoakkgeaa.QFnExactReadCommand
open Go.RowKit Go.Proofs.YtideegpoakkgeaaW.PrintWords Go.Proofs.YtideegpoakkgeaaW.PrintLast Go.Proofs.YtideegpoakkgeaaW.PrintMore Go.Proofs.Ytideegpoakkgeaa.Short
attribute [local go_sem] max2_int min2_int max_two min_two max_three min_three max_four min_four   -- for this text's walks alone
set_option linter.unusedVariables false
set_option linter.unusedSimpArgs false

theorem B7x0_ {p : Prop} (h : p := by (with_reducible repeat (first | refine blk_drewN ?_ _ | refine blk_drew ?_ | refine blk_alloc ?_ _)); exact BK138.out) : p := h
theorem B7x1_ {p : Prop} (h : p := by (with_reducible repeat (first | refine blk_drewN ?_ _ | refine blk_drew ?_ | refine blk_alloc ?_ _)); refine blk_put (cs := #[.int .i64 (wrap64 (bt a0 0)), .int .i64 t140, .int .i64 0, .string (⟨#[]⟩ : ByteArray), .string (⟨#[]⟩ : ByteArray), .int .i64 0]) ?_ 5 _ rfl; (with_reducible repeat (first | refine blk_drewN ?_ _ | refine blk_drew ?_ | refine blk_alloc ?_ _)); refine blk_put (cs := #[.int .i64 (wrap64 (bt a0 0)), .int .i64 t140, .int .i64 0, .string (⟨#[]⟩ : ByteArray), .string (⟨#[]⟩ : ByteArray), .int .i64 0]) ?_ 4 _ rfl; (with_reducible repeat (first | refine blk_drewN ?_ _ | refine blk_drew ?_ | refine blk_alloc ?_ _)); refine blk_put (cs := #[.int .i64 (wrap64 (bt a0 0)), .int .i64 t140, .int .i64 0, .string (⟨#[]⟩ : ByteArray), .string (⟨#[]⟩ : ByteArray), .int .i64 0]) ?_ 3 _ rfl; (with_reducible repeat (first | refine blk_drewN ?_ _ | refine blk_drew ?_ | refine blk_alloc ?_ _)); refine blk_put (cs := #[.int .i64 (wrap64 (bt a0 0)), .int .i64 t140, .int .i64 0, .string (⟨#[]⟩ : ByteArray), .string (⟨#[]⟩ : ByteArray), .int .i64 0]) ?_ 2 _ rfl; (with_reducible repeat (first | refine blk_drewN ?_ _ | refine blk_drew ?_ | refine blk_alloc ?_ _)); refine blk_put (cs := #[.int .i64 (wrap64 (bt a0 0)), .int .i64 0, .int .i64 0, .string (⟨#[]⟩ : ByteArray), .string (⟨#[]⟩ : ByteArray), .int .i64 0]) ?_ 1 _ rfl; (with_reducible repeat (first | refine blk_drewN ?_ _ | refine blk_drew ?_ | refine blk_alloc ?_ _)); refine blk_put (cs := #[.int .i64 0, .int .i64 0, .int .i64 0, .string (⟨#[]⟩ : ByteArray), .string (⟨#[]⟩ : ByteArray), .int .i64 0]) ?_ 0 _ rfl; (with_reducible repeat (first | refine blk_drewN ?_ _ | refine blk_drew ?_ | refine blk_alloc ?_ _)); exact BK144.out) : p := h
theorem B7x2_ {p : Prop} (h : p := by (with_reducible repeat (first | refine blk_drewN ?_ _ | refine blk_drew ?_ | refine blk_alloc ?_ _)); refine blk_put (cs := #[.int .i64 0, .int .i64 0, .int .i64 0, .string (⟨#[]⟩ : ByteArray), .string (⟨#[]⟩ : ByteArray), .int .i64 0]) ?_ 5 _ rfl; (with_reducible repeat (first | refine blk_drewN ?_ _ | refine blk_drew ?_ | refine blk_alloc ?_ _)); refine blk_put (cs := #[.int .i64 0, .int .i64 0, .int .i64 0, .string (⟨#[]⟩ : ByteArray), .string (⟨#[]⟩ : ByteArray), .int .i64 0]) ?_ 4 _ rfl; (with_reducible repeat (first | refine blk_drewN ?_ _ | refine blk_drew ?_ | refine blk_alloc ?_ _)); refine blk_put (cs := #[.int .i64 0, .int .i64 0, .int .i64 0, .string (⟨#[]⟩ : ByteArray), .string (⟨#[]⟩ : ByteArray), .int .i64 0]) ?_ 3 _ rfl; (with_reducible repeat (first | refine blk_drewN ?_ _ | refine blk_drew ?_ | refine blk_alloc ?_ _)); refine blk_put (cs := #[.int .i64 0, .int .i64 0, .int .i64 0, .string (⟨#[]⟩ : ByteArray), .string (⟨#[]⟩ : ByteArray), .int .i64 0]) ?_ 2 _ rfl; (with_reducible repeat (first | refine blk_drewN ?_ _ | refine blk_drew ?_ | refine blk_alloc ?_ _)); refine blk_put (cs := #[.int .i64 0, .int .i64 0, .int .i64 0, .string (⟨#[]⟩ : ByteArray), .string (⟨#[]⟩ : ByteArray), .int .i64 0]) ?_ 1 _ rfl; (with_reducible repeat (first | refine blk_drewN ?_ _ | refine blk_drew ?_ | refine blk_alloc ?_ _)); refine blk_put (cs := #[.int .i64 0, .int .i64 0, .int .i64 0, .string (⟨#[]⟩ : ByteArray), .string (⟨#[]⟩ : ByteArray), .int .i64 0]) ?_ 0 _ rfl; (with_reducible repeat (first | refine blk_drewN ?_ _ | refine blk_drew ?_ | refine blk_alloc ?_ _)); exact BK138.out) : p := h
theorem B7x3_ {p : Prop} (h : p := by (with_reducible repeat (first | refine blk_drewN ?_ _ | refine blk_drew ?_ | refine blk_alloc ?_ _)); refine blk_far ?_ NB138_144.out _; (with_reducible repeat (first | refine blk_drewN ?_ _ | refine blk_drew ?_ | refine blk_alloc ?_ _)); exact BK138.out) : p := h
theorem B7x4_ {p : Prop} (h : p := by (try simp only [List.map_toArray, List.map_cons, List.map_nil]); first | done | rfl | (simp only [List.length_drop, List.length_take]; rfl)) : p := h
theorem B7x5_ {p : Prop} (h : p := by (with_reducible repeat (first | refine blk_drewN ?_ _ | refine blk_drew ?_ | refine blk_alloc ?_ _)); refine blk_far ?_ NB138_144.out _; (with_reducible repeat (first | refine blk_drewN ?_ _ | refine blk_drew ?_ | refine blk_alloc ?_ _)); refine blk_far ?_ NB138_144.out _; (with_reducible repeat (first | refine blk_drewN ?_ _ | refine blk_drew ?_ | refine blk_alloc ?_ _)); refine blk_far ?_ NB138_144.out _; (with_reducible repeat (first | refine blk_drewN ?_ _ | refine blk_drew ?_ | refine blk_alloc ?_ _)); refine blk_far ?_ NB138_144.out _; (with_reducible repeat (first | refine blk_drewN ?_ _ | refine blk_drew ?_ | refine blk_alloc ?_ _)); refine blk_far ?_ NB138_144.out _; (with_reducible repeat (first | refine blk_drewN ?_ _ | refine blk_drew ?_ | refine blk_alloc ?_ _)); refine blk_far ?_ NB138_144.out _; (with_reducible repeat (first | refine blk_drewN ?_ _ | refine blk_drew ?_ | refine blk_alloc ?_ _)); exact BK138.out) : p := h
theorem B7x6_ {p : Prop} (h : p := by repeat (first | (with_reducible first | exact HB.out | apply below_alloc | apply pw_below_drewN | apply below_drew1 | refine below_set ?_ (IsS108.ge HI139.out) | refine below_set ?_ GE138.out | refine below_set ?_ GE144.out) | exact HB.out)) : p := h
theorem B7x7_ {p : Prop} (h : p := by repeat (first | (with_reducible first | exact HB.out | apply below_alloc | apply pw_below_drewN | apply below_drew1 | refine below_set ?_ (IsS108.ge HI139.out) | refine below_set ?_ GE138.out) | exact HB.out)) : p := h
theorem B7x8_ {p : Prop} (h : p := by repeat (first | (with_reducible first | exact HB.out | apply below_alloc | apply pw_below_drewN | apply below_drew1 | refine below_set ?_ GE138.out | refine below_set ?_ GE139.out) | exact HB.out)) : p := h
theorem B7x9_ {p : Prop} (h : p := by repeat (first | (with_reducible first | exact HI139.out | apply IsS108.alloc | apply IsS108.drewN | apply IsS108.drew | apply IsS108.set_0 | apply IsS108.set_1 | apply IsS108.set_2 | refine IsS108.far ?_ NB139_138.out _ | refine IsS108.far ?_ NB139_144.out _) | exact HI139.out)) : p := h
theorem B7x10_ {p : Prop} (h : p := by repeat (first | (with_reducible first | exact HB.out | apply below_alloc | apply pw_below_drewN | apply below_drew1) | exact HB.out)) : p := h
theorem B7x11_ {p : Prop} (h : p := by repeat (first | (with_reducible first | exact HB.out | apply below_alloc | apply pw_below_drewN | apply below_drew1 | refine below_set ?_ GE138.out) | exact HB.out)) : p := h
theorem B7x12_ {p : Prop} (h : p := by (with_reducible repeat (first | refine blk_drewN ?_ _ | refine blk_drew ?_ | refine blk_alloc ?_ _)); exact BK139.out) : p := h
theorem B7x13_ {p : Prop} (h : p := by (with_reducible repeat (first | refine blk_drewN ?_ _ | refine blk_drew ?_ | refine blk_alloc ?_ _)); exact BK144.out) : p := h
theorem B7x14_ {p : Prop} (h : p := by (with_reducible repeat (first | refine blk_drewN ?_ _ | refine blk_drew ?_ | refine blk_alloc ?_ _)); refine blk_put (cs := #[.int .i64 (wrap64 (bt a0 0)), .int .i64 t140, .int .i64 t145, .string (⟨#[]⟩ : ByteArray), .string (⟨#[]⟩ : ByteArray), .int .i64 0]) ?_ 3 _ rfl; (with_reducible repeat (first | refine blk_drewN ?_ _ | refine blk_drew ?_ | refine blk_alloc ?_ _)); exact BK144.out) : p := h
theorem B7x15_ {p : Prop} (h : p := by (with_reducible repeat (first | refine blk_drewN ?_ _ | refine blk_drew ?_ | refine blk_alloc ?_ _)); refine blk_put (cs := #[.int .i64 (wrap64 (bt a0 0)), .int .i64 t140, .int .i64 0, .string (⟨#[]⟩ : ByteArray), .string (⟨#[]⟩ : ByteArray), .int .i64 0]) ?_ 2 _ rfl; (with_reducible repeat (first | refine blk_drewN ?_ _ | refine blk_drew ?_ | refine blk_alloc ?_ _)); exact BK144.out) : p := h
theorem B7x16_ {p : Prop} (h : p := by (with_reducible repeat (first | refine blk_drewN ?_ _ | refine blk_drew ?_ | refine blk_alloc ?_ _)); refine blk_put (cs := #[.int .i64 (wrap64 (bt a0 0)), .int .i64 t140, .int .i64 t145, .string t149, .string (⟨#[]⟩ : ByteArray), .int .i64 0]) ?_ 4 _ rfl; (with_reducible repeat (first | refine blk_drewN ?_ _ | refine blk_drew ?_ | refine blk_alloc ?_ _)); exact BK144.out) : p := h
theorem B7x17_ {p : Prop} (h : p := by (with_reducible repeat (first | refine blk_drewN ?_ _ | refine blk_drew ?_ | refine blk_alloc ?_ _)); refine blk_put (cs := #[.int .i64 (wrap64 (bt a0 0)), .int .i64 t140, .int .i64 t145, .string t149, .string t153, .int .i64 0]) ?_ 5 _ rfl; (with_reducible repeat (first | refine blk_drewN ?_ _ | refine blk_drew ?_ | refine blk_alloc ?_ _)); exact BK144.out) : p := h
theorem B7x18_ {p : Prop} (h : p := by repeat (first | (with_reducible first | exact HI139.out | apply IsS108.alloc | apply IsS108.drewN | apply IsS108.drew | apply IsS108.set_0 | apply IsS108.set_1 | apply IsS108.set_2 | refine IsS108.far ?_ NB139_138.out _) | exact HI139.out)) : p := h
theorem B7x19_ {p : Prop} (h : p := by simp only [putAll, Act.put, List.setIfInBounds_toArray, List.set_cons_zero, List.set_cons_succ]) : p := h
theorem B7x20_ {p : Prop} (h : p := by kernel_rfl) : p := h
theorem B7x21_ {p : Prop} (h : p := by first | (with_reducible assumption) | assumption) : p := h
/-! ### spec_ReadCommand: function 34 -/
def spec_ReadCommand.f (k : Nat) (a0 : ByteArray) : Option (Int × Int × Int × ByteArray × ByteArray × Int × Bool) := if a0.toList = ([] : List UInt8) then (some (0, 0, 0, (⟨#[]⟩ : ByteArray), (⟨#[]⟩ : ByteArray), 0, false)) else (if 0 < (a0.size : Int) then ((spec_l16Var.f k a0 1 false).bind fun bt140 => ((spec_l16Var.f k bt140.2.1 bt140.2.2.1 bt140.2.2.2).bind fun bt145 => ((spec_l16ReadShort.f k bt145.2.1 bt145.2.2.1 bt145.2.2.2).bind fun bt149 => ((spec_l16ReadShort.f k bt149.2.1 bt149.2.2.1 bt149.2.2.2).bind fun bt153 => ((spec_l16Var.f k bt153.2.1 bt153.2.2.1 bt153.2.2.2).bind fun bt157 => ((spec_CommandText.f k (wrap64 (bt a0 0)) bt140.1 bt145.1 bt149.1 bt153.1 bt157.1).bind fun bt161 => (if bt157.2.2.2 = true then (some (0, 0, 0, (⟨#[]⟩ : ByteArray), (⟨#[]⟩ : ByteArray), 0, false)) else (if bt161.2 = true then (if bt161.1.toList = a0.toList then (some (wrap64 (bt a0 0), bt140.1, bt145.1, bt149.1, bt153.1, bt157.1, true)) else (some (0, 0, 0, (⟨#[]⟩ : ByteArray), (⟨#[]⟩ : ByteArray), 0, false))) else (some (0, 0, 0, (⟨#[]⟩ : ByteArray), (⟨#[]⟩ : ByteArray), 0, false)))))))))) else (none))
theorem spec_ReadCommand.mono : ∀ a0 k, LeO (spec_ReadCommand.f k a0) (spec_ReadCommand.f (k + 1) a0) := by
 intro a0 k
 unfold spec_ReadCommand.f
 repeat' first
   | (with_reducible exact spec_CommandText.mono _ _ _ _ _ _ _)
   | (with_reducible exact spec_l16ReadShort.mono _ _ _ _)
   | (with_reducible exact spec_l16Var.mono _ _ _ _)
   | (with_reducible exact LeO.refl _)
   | (with_reducible exact LeO.none _)
   | (with_reducible refine LeO.ite ?_ ?_)
   | (with_reducible refine LeO.bind ?_ (fun _ => ?_))
   | exact spec_CommandText.mono _ _ _ _ _ _ _
   | exact spec_l16ReadShort.mono _ _ _ _
   | exact spec_l16Var.mono _ _ _ _
   | exact LeO.none _
   | refine LeO.ite ?_ ?_
   | refine LeO.bind ?_ (fun _ => ?_)
def spec_ReadCommand.T4 : Bool × List (List Nat × List Nat) := (true, [([], []), ([0], [0]), ([1], [1]), ([], []), ([3], [3]), ([2, 4], [2, 4]), ([], []), ([6, 5, 4, 0, 1, 2, 3, 4, 5, 6], [5, 6])])
def spec_ReadCommand.B4 : List Nat := [0, 1, 3, 0, 8, 31, 0, 127]
theorem spec_ReadCommand.tab4 : rtab .any (opsOf Try.f34 4) = spec_ReadCommand.T4 := by kernel_rfl
theorem spec_ReadCommand.bits4 : waitsOk spec_ReadCommand.T4.2 spec_ReadCommand.B4 = true := by kernel_rfl
set_option maxHeartbeats 8000000 in
set_option maxRecDepth 100000 in
theorem spec_ReadCommand.calls (k : Nat) (a0 : ByteArray) (r1 : Int) (r2 : Int) (r3 : Int) (r4 : ByteArray) (r5 : ByteArray) (r6 : Int) (r7 : Bool) (w : World) (h : spec_ReadCommand.f k a0 = some (r1, r2, r3, r4, r5, r6, r7)) :
  Calls Try.prog 34 #[.string a0] w fun e w' => e = .returned (.tuple #[.agg #[.int .i64 r1, .int .i64 r2, .int .i64 r3, .string r4, .string r5, .int .i64 r6], .bool r7]) ∧ Below w.heap.size w w' := by
 have hu56 := Try.underlying56
 have hu108 := Try.underlying108
 have HB := Aside0.mk (Below.refl w.heap.size w)
 have H : (if a0.toList = ([] : List UInt8) then (some (0, 0, 0, (⟨#[]⟩ : ByteArray), (⟨#[]⟩ : ByteArray), 0, false)) else (if 0 < (a0.size : Int) then ((spec_l16Var.f k a0 1 false).bind fun bt140 => ((spec_l16Var.f k bt140.2.1 bt140.2.2.1 bt140.2.2.2).bind fun bt145 => ((spec_l16ReadShort.f k bt145.2.1 bt145.2.2.1 bt145.2.2.2).bind fun bt149 => ((spec_l16ReadShort.f k bt149.2.1 bt149.2.2.1 bt149.2.2.2).bind fun bt153 => ((spec_l16Var.f k bt153.2.1 bt153.2.2.1 bt153.2.2.2).bind fun bt157 => ((spec_CommandText.f k (wrap64 (bt a0 0)) bt140.1 bt145.1 bt149.1 bt153.1 bt157.1).bind fun bt161 => (if bt157.2.2.2 = true then (some (0, 0, 0, (⟨#[]⟩ : ByteArray), (⟨#[]⟩ : ByteArray), 0, false)) else (if bt161.2 = true then (if bt161.1.toList = a0.toList then (some (wrap64 (bt a0 0), bt140.1, bt145.1, bt149.1, bt153.1, bt157.1, true)) else (some (0, 0, 0, (⟨#[]⟩ : ByteArray), (⟨#[]⟩ : ByteArray), 0, false))) else (some (0, 0, 0, (⟨#[]⟩ : ByteArray), (⟨#[]⟩ : ByteArray), 0, false)))))))))) else (none))) = some (r1, r2, r3, r4, r5, r6, r7) := h
 clear h
 by_cases c2 : a0.toList = ([] : List UInt8)
 ·rw [if_pos c2] at H
  have c2b0 : (a0.toList == ([] : List UInt8)) = true := beq_iff_eq.mpr c2
  have c2b1 : (a0.toList != ([] : List UInt8)) = false := bne_eq_false_iff_eq.mpr c2
  clear c2
  simp only [Option.some.injEq, Prod.mk.injEq] at H
  obtain ⟨rfl, rfl, rfl, rfl, rfl, rfl, rfl⟩ := H
  go_enter Try.func34, Try.ntmps34
  go_wp2_with (first | ((with_reducible refine gate_dst (N := 2) rfl ?_); refine box_event ?hg (N := 2) ?hd (cs := #[.int .i64 0, .int .i64 0, .int .i64 0, .string (⟨#[]⟩ : ByteArray), .string (⟨#[]⟩ : ByteArray), .int .i64 0]) (t := 56) ?hr ?_; (case hd => rfl); (case hg => rfl); (case hr => first | (go_simp; done) | (go_simp; rfl)); intro gb138 hg w3 hbox hb; have n0_ := Aside0.mk (below_step B7x10_ hb); have n1_ := Aside0.mk (hbox); have n2_ := Aside0.mk ((by rw [hg]; exact (below_size B7x10_) : w.heap.size ≤ gb138)); have n3_ := Aside0.mk ((by rw [hg]; exact (below_size B7x10_) : w.heap.size ≤ gb138)); clear HB; have HB := n0_; have BK138 := n1_; have GW138 := n2_; have GE138 := n3_; clear n0_ n1_ n2_ n3_; clear hb hbox hg; obtain ⟨hcz4_0, hcz4_1, hcz4_2, hcz4_3, hcz4_4, hcz4_5⟩ := cl6 BK138.out; obtain ⟨hfz4_0, hfz4_1, hfz4_2, hfz4_3, hfz4_4, hfz4_5⟩ := fr6 BK138.out))
  refine bodyPost_ret (results_ct rfl _ _ gb138 56 #[.int .i64 0, .int .i64 0, .int .i64 0, .string (⟨#[]⟩ : ByteArray), .string (⟨#[]⟩ : ByteArray), .int .i64 0] (0, 0) _ rfl B7x2_ Try.underlying56 rfl B7x20_) rfl ?_
  exact ⟨by first | rfl | (simp [errW_none, errW_some] <;> rfl) | (simp [*, errW_none, errW_some] <;> rfl), by repeat (first | (with_reducible first | exact HB.out | apply below_alloc | apply pw_below_drewN | apply below_drew1 | refine below_set ?_ GE138.out) | exact HB.out)⟩
 ·rw [if_neg c2] at H
  have c2b0 : (a0.toList == ([] : List UInt8)) = false := beq_eq_false_iff_ne.mpr c2
  have c2b1 : (a0.toList != ([] : List UInt8)) = true := bne_iff_ne.mpr c2
  by_cases c5 : 0 < (a0.size : Int)
  ·rw [if_pos c5] at H
   have c5b0 : decide (0 < (a0.size : Int)) = true := decide_eq_true c5
   have c5b1 : decide (0 < a0.size) = true := decide_eq_true (by omega)
   clear c5
   replace H := Option.bind_eq_some_iff.mp H
   obtain ⟨⟨t140, t141, t142, t143⟩, A70, H⟩ := H
   (try dsimp only at H)
   have A7 := Aside0.mk A70
   clear A70
   replace H := Option.bind_eq_some_iff.mp H
   obtain ⟨⟨t145, t146, t147, t148⟩, A80, H⟩ := H
   (try dsimp only at H)
   have A8 := Aside0.mk A80
   clear A80
   replace H := Option.bind_eq_some_iff.mp H
   obtain ⟨⟨t149, t150, t151, t152⟩, A90, H⟩ := H
   (try dsimp only at H)
   have A9 := Aside0.mk A90
   clear A90
   replace H := Option.bind_eq_some_iff.mp H
   obtain ⟨⟨t153, t154, t155, t156⟩, A100, H⟩ := H
   (try dsimp only at H)
   have A10 := Aside0.mk A100
   clear A100
   replace H := Option.bind_eq_some_iff.mp H
   obtain ⟨⟨t157, t158, t159, t160⟩, A110, H⟩ := H
   (try dsimp only at H)
   have A11 := Aside0.mk A110
   clear A110
   replace H := Option.bind_eq_some_iff.mp H
   obtain ⟨⟨t161, t162⟩, A120, H⟩ := H
   (try dsimp only at H)
   have A12 := Aside0.mk A120
   clear A120
   by_cases c13 : t160 = true
   ·subst c13
    rw [if_pos rfl] at H
    simp only [Option.some.injEq, Prod.mk.injEq] at H
    obtain ⟨rfl, rfl, rfl, rfl, rfl, rfl, rfl⟩ := H
    go_enter Try.func34, Try.ntmps34
    try go_wp2_with (first | ((with_reducible refine gate_dst (N := 2) rfl ?_); refine box_event ?hg (N := 2) ?hd (cs := #[.int .i64 0, .int .i64 0, .int .i64 0, .string (⟨#[]⟩ : ByteArray), .string (⟨#[]⟩ : ByteArray), .int .i64 0]) (t := 56) ?hr ?_; (case hd => rfl); (case hg => rfl); (case hr => first | (go_simp; done) | (go_simp; rfl)); intro gb138 hg w14 hbox hb; have n0_ := Aside0.mk (below_step B7x10_ hb); have n1_ := Aside0.mk (hbox); have n2_ := Aside0.mk ((by rw [hg]; exact (below_size B7x10_) : w.heap.size ≤ gb138)); have n3_ := Aside0.mk ((by rw [hg]; exact (below_size B7x10_) : w.heap.size ≤ gb138)); clear HB; have HB := n0_; have BK138 := n1_; have GW138 := n2_; have GE138 := n3_; clear n0_ n1_ n2_ n3_; clear hb hbox hg) | ((with_reducible refine gate_dst (N := 13) rfl ?_); refine box_event ?hg (N := 13) ?hd (cs := #[.string a0, .int .i64 1, .bool false]) (t := 108) ?hr ?_; (case hd => rfl); (case hg => rfl); (case hr => first | (go_simp; done) | (go_simp; rfl)); intro gb139 hg w15 hbox hb; have n0_ := Aside0.mk (blk_below (g := gb138) (o := .cells #[.int .i64 0, .int .i64 0, .int .i64 0, .string (⟨#[]⟩ : ByteArray), .string (⟨#[]⟩ : ByteArray), .int .i64 0] 56 (0, 0)) B7x0_ hb); have n1_ := Aside0.mk (below_step B7x11_ hb); have n2_ := Aside0.mk (hbox); have n3_ := Aside0.mk ((by rw [hg]; exact (below_size B7x11_) : w.heap.size ≤ gb139)); have n4_ := Aside0.mk ((by rw [hg]; exact (below_size B7x11_) : w.heap.size ≤ gb139)); have n5_ := Aside0.mk ((by rw [hg]; exact Nat.ne_of_lt (blk_lt (g := gb138) (o := .cells #[.int .i64 0, .int .i64 0, .int .i64 0, .string (⟨#[]⟩ : ByteArray), .string (⟨#[]⟩ : ByteArray), .int .i64 0] 56 (0, 0)) B7x0_) : gb138 ≠ gb139)); have n6_ := Aside0.mk ((by rw [hg]; exact Nat.ne_of_gt (blk_lt (g := gb138) (o := .cells #[.int .i64 0, .int .i64 0, .int .i64 0, .string (⟨#[]⟩ : ByteArray), .string (⟨#[]⟩ : ByteArray), .int .i64 0] 56 (0, 0)) B7x0_) : gb139 ≠ gb138)); clear BK138; clear HB; have BK138 := n0_; have HB := n1_; have BK139 := n2_; have GW139 := n3_; have GE139 := n4_; have NB138_139 := n5_; have NB139_138 := n6_; clear n0_ n1_ n2_ n3_ n4_ n5_ n6_; clear hb hbox hg))
    have n0_ := Aside0.mk (blk_drew BK138.out)
    have n1_ := Aside0.mk (blk_drew BK139.out)
    have n2_ := Aside0.mk (below_drew1 HB.out)
    clear BK138
    clear BK139
    clear HB
    have BK138 := n0_
    have BK139 := n1_
    have HB := n2_
    clear n0_ n1_ n2_
    have p6 : 0 ≤ (0 : Int) := (by omega)
    have q6 : 0 < a0.size := (by have : (0 : Int) < (a0.size : Int) := of_decide_eq_true B7x21_; omega)
    have hx6 : ∀ h : 0 < a0.size, ((a0[0]'h).toNat : Int) = bt a0 0 := bt_at a0 0
    clear p6
    have qi6 : (0 < (a0.size : Int)) = True := eq_true (of_decide_eq_true B7x21_)
    replace q6 := eq_true q6
    refine start_ (n := 8) (S := fun w' => True) (ds := []) #[false, false, false, false, false, false, false, false] B7x20_ rfl rfl trivial (fun hHeld => ?_); refine with_tabW spec_ReadCommand.tab4 spec_ReadCommand.bits4 (fun HT_ HW_ => ?_)
    generalize w15.drew = w16 at BK138 BK139 HB hHeld ⊢
    refine pu_ 0 14 HT_ ?_
    refine pu_ 3 17 HT_ ?_
    refine take_ (i := 1) (N := some 15) (v := ?_) (a' := ?_) #[true, true, false, true, false, false, false, false] rfl rfl (take_ofW HT_.out HW_.out B7x20_) (fun _ _ _ h => h) (Or.inl ⟨by rfl, ?_⟩) hHeld ?_ ?_
    rotate_left
    ·intro w' _
     go_simp
     with_reducible rfl
    rotate_left
    ·simp only [Act.put, List.setIfInBounds_toArray, List.set_cons_zero, List.set_cons_succ, i64_w, i32_w]
     rfl
    refine pu_ 2 16 HT_ ?_
    refine join_ (σ := Nat) 1 #[true, true, true, true, true, true, true, false] (fun s_ => [(18, .int .i64 t140), (5, .pointer (some ⟨s_, 0, none⟩)), (19, .agg #[.int .i64 (wrap64 (bt a0 0)), .int .i64 t140, .int .i64 0, .string (⟨#[]⟩ : ByteArray), .string (⟨#[]⟩ : ByteArray), .int .i64 0])]) (fun s_ w' => (w'.heap[gb138]? = some (.cells #[.int .i64 0, .int .i64 0, .int .i64 0, .string (⟨#[]⟩ : ByteArray), .string (⟨#[]⟩ : ByteArray), .int .i64 0] 56 (0, 0))) ∧ (w'.heap[s_]? = some (.cells #[.int .i64 0, .int .i64 0, .int .i64 0, .string (⟨#[]⟩ : ByteArray), .string (⟨#[]⟩ : ByteArray), .int .i64 0] 56 (0, 0))) ∧ (w.heap.size ≤ s_) ∧ (w.heap.size ≤ s_) ∧ (gb139 ≠ s_) ∧ (s_ ≠ gb139) ∧ (gb138 ≠ s_) ∧ (s_ ≠ gb138) ∧ (IsS108 w w' gb139 t141 t142 t143) ∧ (Below w.heap.size w w')) ?_ ?_
    rotate_left
    ·intro hCont
     refine two_ (i := 4) (j := 6) (Ni := some 18) (Nj := some 5) #[true, true, true, true, true, false, false, false] #[true, true, true, true, false, false, true, false] rfl rfl rfl rfl (two_of HT_.out B7x20_) (by decide) (by decide) (fun K hK => ?_) (fun K hK => ?_)
     ·skip
      refine goes_ Try.func70 B7x20_ rfl #[.pointer (some ⟨gb139, 0, none⟩)] (by rfl) rfl rfl B7x4_ ?_
      with_reducible refine (spec_l16Var.calls k gb139 a0 1 false t140 t141 t142 t143 w _ ?side1 ?side2 A7.out).mono ?_
      (case side1 => exact ⟨by (with_reducible repeat (first | refine blk_drewN ?_ _ | refine blk_drew ?_ | refine blk_alloc ?_ _)); exact BK139.out, GE139.out⟩)
      (case side2 => repeat (first | (with_reducible first | exact HB.out | apply below_alloc | apply pw_below_drewN | apply below_drew1 | refine below_set ?_ GE138.out | refine below_set ?_ GE139.out) | exact HB.out))
      rintro e w17 ⟨rfl, hi, hb, hk⟩
      refine ⟨_, rfl, ?_⟩
      have n0_ := Aside0.mk (KeepBut.blk hk (g' := gb138) (o := .cells #[.int .i64 0, .int .i64 0, .int .i64 0, .string (⟨#[]⟩ : ByteArray), .string (⟨#[]⟩ : ByteArray), .int .i64 0] 56 (0, 0)) B7x0_ NB138_139.out (by simp))
      have n1_ := Aside0.mk (hb)
      have n2_ := Aside0.mk (hi)
      clear BK138
      clear HB
      have BK138 := n0_
      have HB := n1_
      have HI139 := n2_
      clear n0_ n1_ n2_
      (try clear hb)
      (try clear hb2)
      (try clear hk)
      (try clear hi)
      (try clear BK139)
      refine hK.out _ _ trivial (fun hHeld => ?_)
      clear hK K
      refine norm_ (a' := ?_) ?_ ?_
      rotate_left
      ·show Act.put _ (some 18) _ = _
       simp only [Act.put, List.setIfInBounds_toArray, List.set_cons_zero, List.set_cons_succ, i64_w, i32_w]
       rfl
      refine pu_ 5 19 HT_ ?_
      refine one_ (i := 6) (N := some 5) #[true, true, true, true, true, true, true, false] rfl rfl (one_of HT_.out B7x20_) (by decide) (fun K hK => ?_)
      refine box_step ?hg (N := 5) ?hd (cs := #[.int .i64 0, .int .i64 0, .int .i64 0, .string (⟨#[]⟩ : ByteArray), .string (⟨#[]⟩ : ByteArray), .int .i64 0]) (t := 56) ?hr ?_; (case hd => rfl); (case hg => rfl); (case hr => first | (go_simp; done) | (go_simp; rfl))
      intro gb144 hg w18 hbox hb
      have n0_ := Aside0.mk (blk_below (g := gb138) (o := .cells #[.int .i64 0, .int .i64 0, .int .i64 0, .string (⟨#[]⟩ : ByteArray), .string (⟨#[]⟩ : ByteArray), .int .i64 0] 56 (0, 0)) B7x0_ hb)
      have n1_ := Aside0.mk (IsS108.below B7x18_ hb)
      have n2_ := Aside0.mk (below_step B7x7_ hb)
      have n3_ := Aside0.mk (hbox)
      have n4_ := Aside0.mk ((by rw [hg]; exact (below_size B7x7_) : w.heap.size ≤ gb144))
      have n5_ := Aside0.mk ((by rw [hg]; exact (below_size B7x7_) : w.heap.size ≤ gb144))
      have n6_ := Aside0.mk ((by rw [hg]; exact Nat.ne_of_lt (blk_lt (g := gb138) (o := .cells #[.int .i64 0, .int .i64 0, .int .i64 0, .string (⟨#[]⟩ : ByteArray), .string (⟨#[]⟩ : ByteArray), .int .i64 0] 56 (0, 0)) B7x0_) : gb138 ≠ gb144))
      have n7_ := Aside0.mk ((by rw [hg]; exact Nat.ne_of_gt (blk_lt (g := gb138) (o := .cells #[.int .i64 0, .int .i64 0, .int .i64 0, .string (⟨#[]⟩ : ByteArray), .string (⟨#[]⟩ : ByteArray), .int .i64 0] 56 (0, 0)) B7x0_) : gb144 ≠ gb138))
      have n8_ := Aside0.mk ((by rw [hg]; exact Nat.ne_of_lt (IsS108.lt (show IsS108 w _ gb139 t141 t142 t143 from by repeat (first | (with_reducible first | exact HI139.out | apply IsS108.alloc | apply IsS108.drewN | apply IsS108.drew | apply IsS108.set_0 | apply IsS108.set_1 | apply IsS108.set_2 | refine IsS108.far ?_ NB139_138.out _) | exact HI139.out))) : gb139 ≠ gb144))
      have n9_ := Aside0.mk ((by rw [hg]; exact Nat.ne_of_gt (IsS108.lt (show IsS108 w _ gb139 t141 t142 t143 from by repeat (first | (with_reducible first | exact HI139.out | apply IsS108.alloc | apply IsS108.drewN | apply IsS108.drew | apply IsS108.set_0 | apply IsS108.set_1 | apply IsS108.set_2 | refine IsS108.far ?_ NB139_138.out _) | exact HI139.out))) : gb144 ≠ gb139))
      clear BK138
      clear HI139
      clear HB
      have BK138 := n0_
      have HI139 := n1_
      have HB := n2_
      have BK144 := n3_
      have GW144 := n4_
      have GE144 := n5_
      have NB138_144 := n6_
      have NB144_138 := n7_
      have NB139_144 := n8_
      have NB144_139 := n9_
      clear n0_ n1_ n2_ n3_ n4_ n5_ n6_ n7_ n8_ n9_
      clear hb hbox hg
      refine hK.out _ _ trivial (fun hHeld => ?_)
      clear hK K
      refine norm_ (a' := ?_) ?_ ?_
      rotate_left
      ·show Act.put _ (some 5) _ = _
       simp only [Act.put, List.setIfInBounds_toArray, List.set_cons_zero, List.set_cons_succ, i64_w, i32_w]
       rfl
      exact norm_ B7x19_ (hCont (gb144) _ ⟨B7x0_, B7x13_, GW144.out, GE144.out, NB139_144.out, NB144_139.out, NB138_144.out, NB144_138.out, B7x9_, B7x6_⟩)
     ·skip
      refine box_step ?hg (N := 5) ?hd (cs := #[.int .i64 0, .int .i64 0, .int .i64 0, .string (⟨#[]⟩ : ByteArray), .string (⟨#[]⟩ : ByteArray), .int .i64 0]) (t := 56) ?hr ?_; (case hd => rfl); (case hg => rfl); (case hr => first | (go_simp; done) | (go_simp; rfl))
      intro gb144 hg w17 hbox hb
      have n0_ := Aside0.mk (blk_below (g := gb138) (o := .cells #[.int .i64 0, .int .i64 0, .int .i64 0, .string (⟨#[]⟩ : ByteArray), .string (⟨#[]⟩ : ByteArray), .int .i64 0] 56 (0, 0)) B7x0_ hb)
      have n1_ := Aside0.mk (blk_below (g := gb139) (o := .cells #[.string a0, .int .i64 1, .bool false] 108 (0, 0)) B7x12_ hb)
      have n2_ := Aside0.mk (below_step B7x8_ hb)
      have n3_ := Aside0.mk (hbox)
      have n4_ := Aside0.mk ((by rw [hg]; exact (below_size B7x8_) : w.heap.size ≤ gb144))
      have n5_ := Aside0.mk ((by rw [hg]; exact (below_size B7x8_) : w.heap.size ≤ gb144))
      have n6_ := Aside0.mk ((by rw [hg]; exact Nat.ne_of_lt (blk_lt (g := gb138) (o := .cells #[.int .i64 0, .int .i64 0, .int .i64 0, .string (⟨#[]⟩ : ByteArray), .string (⟨#[]⟩ : ByteArray), .int .i64 0] 56 (0, 0)) B7x0_) : gb138 ≠ gb144))
      have n7_ := Aside0.mk ((by rw [hg]; exact Nat.ne_of_gt (blk_lt (g := gb138) (o := .cells #[.int .i64 0, .int .i64 0, .int .i64 0, .string (⟨#[]⟩ : ByteArray), .string (⟨#[]⟩ : ByteArray), .int .i64 0] 56 (0, 0)) B7x0_) : gb144 ≠ gb138))
      have n8_ := Aside0.mk ((by rw [hg]; exact Nat.ne_of_lt (blk_lt (g := gb139) (o := .cells #[.string a0, .int .i64 1, .bool false] 108 (0, 0)) B7x12_) : gb139 ≠ gb144))
      have n9_ := Aside0.mk ((by rw [hg]; exact Nat.ne_of_gt (blk_lt (g := gb139) (o := .cells #[.string a0, .int .i64 1, .bool false] 108 (0, 0)) B7x12_) : gb144 ≠ gb139))
      clear BK138
      clear BK139
      clear HB
      have BK138 := n0_
      have BK139 := n1_
      have HB := n2_
      have BK144 := n3_
      have GW144 := n4_
      have GE144 := n5_
      have NB138_144 := n6_
      have NB144_138 := n7_
      have NB139_144 := n8_
      have NB144_139 := n9_
      clear n0_ n1_ n2_ n3_ n4_ n5_ n6_ n7_ n8_ n9_
      clear hb hbox hg
      refine hK.out _ _ trivial (fun hHeld => ?_)
      clear hK K
      refine norm_ (a' := ?_) ?_ ?_
      rotate_left
      ·show Act.put _ (some 5) _ = _
       simp only [Act.put, List.setIfInBounds_toArray, List.set_cons_zero, List.set_cons_succ, i64_w, i32_w]
       rfl
      refine one_ (i := 4) (N := some 18) #[true, true, true, true, true, false, true, false] rfl rfl (one_of HT_.out B7x20_) (by decide) (fun K hK => ?_)
      refine goes_ Try.func70 B7x20_ rfl #[.pointer (some ⟨gb139, 0, none⟩)] (by rfl) rfl rfl B7x4_ ?_
      with_reducible refine (spec_l16Var.calls k gb139 a0 1 false t140 t141 t142 t143 w _ ?side1 ?side2 A7.out).mono ?_
      (case side1 => exact ⟨by (with_reducible repeat (first | refine blk_drewN ?_ _ | refine blk_drew ?_ | refine blk_alloc ?_ _)); exact BK139.out, GE139.out⟩)
      (case side2 => repeat (first | (with_reducible first | exact HB.out | apply below_alloc | apply pw_below_drewN | apply below_drew1 | refine below_set ?_ GE138.out | refine below_set ?_ GE139.out | refine below_set ?_ GE144.out) | exact HB.out))
      rintro e w18 ⟨rfl, hi, hb, hk⟩
      refine ⟨_, rfl, ?_⟩
      have n0_ := Aside0.mk (KeepBut.blk hk (g' := gb138) (o := .cells #[.int .i64 0, .int .i64 0, .int .i64 0, .string (⟨#[]⟩ : ByteArray), .string (⟨#[]⟩ : ByteArray), .int .i64 0] 56 (0, 0)) B7x0_ NB138_139.out (by simp))
      have n1_ := Aside0.mk (KeepBut.blk hk (g' := gb144) (o := .cells #[.int .i64 0, .int .i64 0, .int .i64 0, .string (⟨#[]⟩ : ByteArray), .string (⟨#[]⟩ : ByteArray), .int .i64 0] 56 (0, 0)) B7x13_ NB144_139.out (by simp))
      have n2_ := Aside0.mk (hb)
      have n3_ := Aside0.mk (hi)
      clear BK138
      clear BK144
      clear HB
      have BK138 := n0_
      have BK144 := n1_
      have HB := n2_
      have HI139 := n3_
      clear n0_ n1_ n2_ n3_
      (try clear hb)
      (try clear hb2)
      (try clear hk)
      (try clear hi)
      (try clear BK139)
      refine hK.out _ _ trivial (fun hHeld => ?_)
      clear hK K
      refine norm_ (a' := ?_) ?_ ?_
      rotate_left
      ·show Act.put _ (some 18) _ = _
       simp only [Act.put, List.setIfInBounds_toArray, List.set_cons_zero, List.set_cons_succ, i64_w, i32_w]
       rfl
      refine pu_ 5 19 HT_ ?_
      exact norm_ B7x19_ (hCont (gb144) _ ⟨B7x0_, B7x13_, GW144.out, GE144.out, NB139_144.out, NB144_139.out, NB138_144.out, NB144_138.out, B7x9_, B7x6_⟩)
    rintro gb144 w19 ⟨h0_, h1_, h2_, h3_, h4_, h5_, h6_, h7_, h8_, h9_⟩
    have n0_ : Aside0 (w19.heap[gb138]? = some (.cells #[.int .i64 0, .int .i64 0, .int .i64 0, .string (⟨#[]⟩ : ByteArray), .string (⟨#[]⟩ : ByteArray), .int .i64 0] 56 (0, 0))) := ⟨h0_⟩
    have n1_ : Aside0 (w19.heap[gb144]? = some (.cells #[.int .i64 0, .int .i64 0, .int .i64 0, .string (⟨#[]⟩ : ByteArray), .string (⟨#[]⟩ : ByteArray), .int .i64 0] 56 (0, 0))) := ⟨h1_⟩
    have n2_ : Aside0 (w.heap.size ≤ gb144) := ⟨h2_⟩
    have n3_ : Aside0 (w.heap.size ≤ gb144) := ⟨h3_⟩
    have n4_ : Aside0 (gb139 ≠ gb144) := ⟨h4_⟩
    have n5_ : Aside0 (gb144 ≠ gb139) := ⟨h5_⟩
    have n6_ : Aside0 (gb138 ≠ gb144) := ⟨h6_⟩
    have n7_ : Aside0 (gb144 ≠ gb138) := ⟨h7_⟩
    have n8_ : Aside0 (IsS108 w w19 gb139 t141 t142 t143) := ⟨h8_⟩
    have n9_ : Aside0 (Below w.heap.size w w19) := ⟨h9_⟩
    clear BK138
    clear BK139
    clear HB
    clear h0_ h1_ h2_ h3_ h4_ h5_ h6_ h7_ h8_ h9_
    have BK138 := n0_
    have BK144 := n1_
    have GW144 := n2_
    have GE144 := n3_
    have NB139_144 := n4_
    have NB144_139 := n5_
    have NB138_144 := n6_
    have NB144_138 := n7_
    have HI139 := n8_
    have HB := n9_
    clear n0_ n1_ n2_ n3_ n4_ n5_ n6_ n7_ n8_ n9_
    have hHeld := trivial
    refine norm_ (a' := ?_) ?_ ?_
    rotate_left
    ·simp only [putAll, Act.put, List.setIfInBounds_toArray, List.set_cons_zero, List.set_cons_succ]
     rfl
    refine one_ (i := 7) (N := none) #[true, true, true, true, true, true, true, true] rfl rfl (one_of HT_.out B7x20_) (by decide) (fun K hK => ?_)
    have hs20 : w19.cell? ⟨gb144, 0, none⟩ = some (.int .i64 0) := (blk_cell BK144.out 0).trans rfl
    have hfs20 := blk_frozen BK144.out 0
    have hns20_0 := NB138_144.out
    have hms20_0 := NB144_138.out
    have hs21 : w19.cell? ⟨gb144, 1, none⟩ = some (.int .i64 0) := (blk_cell BK144.out 1).trans rfl
    have hfs21 := blk_frozen BK144.out 1
    have hns21_0 := NB138_144.out
    have hms21_0 := NB144_138.out
    have hs22 : w19.cell? ⟨gb144, 2, none⟩ = some (.int .i64 0) := (blk_cell BK144.out 2).trans rfl
    have hfs22 := blk_frozen BK144.out 2
    have hns22_0 := NB138_144.out
    have hms22_0 := NB144_138.out
    have hs23 : w19.cell? ⟨gb144, 3, none⟩ = some (.string (⟨#[]⟩ : ByteArray)) := (blk_cell BK144.out 3).trans rfl
    have hfs23 := blk_frozen BK144.out 3
    have hns23_0 := NB138_144.out
    have hms23_0 := NB144_138.out
    have hs24 : w19.cell? ⟨gb144, 4, none⟩ = some (.string (⟨#[]⟩ : ByteArray)) := (blk_cell BK144.out 4).trans rfl
    have hfs24 := blk_frozen BK144.out 4
    have hns24_0 := NB138_144.out
    have hms24_0 := NB144_138.out
    have hs25 : w19.cell? ⟨gb144, 5, none⟩ = some (.int .i64 0) := (blk_cell BK144.out 5).trans rfl
    have hfs25 := blk_frozen BK144.out 5
    have hns25_0 := NB138_144.out
    have hms25_0 := NB144_138.out
    refine skip_ (w1 := ?_) (by rfl) rfl ?_ ?_
    rotate_left
    ·go_simp
     rfl
    refine hK.out _ _ trivial (fun hHeld => ?_)
    clear hK K
    refine done_ (done_of HT_.out B7x20_) ?_
    try go_wp2_with (first | ((with_reducible refine gate_callee (f := 70) rfl ?_); refine goesL_ (some 21) rfl rfl Try.func70 B7x20_ rfl #[.pointer (some ⟨gb139, 0, none⟩)] rfl B7x4_ ?_; (with_reducible refine (spec_l16Var.calls k gb139 t141 t142 t143 t145 t146 t147 t148 w _ ?side1 ?side2 A8.out).mono ?_); (case side1 => repeat (first | (with_reducible first | exact HI139.out | apply IsS108.alloc | apply IsS108.drewN | apply IsS108.drew | apply IsS108.set_0 | apply IsS108.set_1 | apply IsS108.set_2 | refine IsS108.far ?_ NB139_138.out _ | refine IsS108.far ?_ NB139_144.out _) | exact HI139.out)); (case side2 => repeat (first | (with_reducible first | exact HB.out | apply below_alloc | apply pw_below_drewN | apply below_drew1 | refine below_set ?_ (IsS108.ge HI139.out) | refine below_set ?_ GE138.out | refine below_set ?_ GE144.out) | exact HB.out)); rintro e w26 ⟨rfl, hi, hb, hk⟩; refine ⟨_, rfl, ?_⟩; have n0_ := Aside0.mk (KeepBut.blk hk (g' := gb138) (o := .cells #[.int .i64 0, .int .i64 0, .int .i64 0, .string (⟨#[]⟩ : ByteArray), .string (⟨#[]⟩ : ByteArray), .int .i64 0] 56 (0, 0)) B7x5_ NB138_139.out (by simp)); have n1_ := Aside0.mk (KeepBut.blk hk (g' := gb144) (o := .cells #[.int .i64 (wrap64 (bt a0 0)), .int .i64 t140, .int .i64 0, .string (⟨#[]⟩ : ByteArray), .string (⟨#[]⟩ : ByteArray), .int .i64 0] 56 (0, 0)) B7x1_ NB144_139.out (by simp)); have n2_ := Aside0.mk (hb); have n3_ := Aside0.mk (hi); clear BK138; clear BK144; clear HB; clear HI139; have BK138 := n0_; have BK144 := n1_; have HB := n2_; have HI139 := n3_; clear n0_ n1_ n2_ n3_; (try clear hb); (try clear hb2); (try clear hk); (try clear hi); have hnb27 := NB144_138.out; have hnc27 := NB138_144.out; have hnb28 := NB144_139.out; have hnc28 := NB139_144.out; obtain ⟨hcz29_0, hcz29_1, hcz29_2, hcz29_3, hcz29_4, hcz29_5⟩ := cl6 BK144.out; obtain ⟨hfz29_0, hfz29_1, hfz29_2, hfz29_3, hfz29_4, hfz29_5⟩ := fr6 BK144.out) | ((with_reducible refine gate_callee (f := 71) rfl ?_); refine goesL_ (some 24) rfl rfl Try.func71 B7x20_ rfl #[.pointer (some ⟨gb139, 0, none⟩)] rfl B7x4_ ?_; (with_reducible refine (spec_l16ReadShort.calls k gb139 t146 t147 t148 t149 t150 t151 t152 w _ ?side1 ?side2 A9.out).mono ?_); (case side1 => repeat (first | (with_reducible first | exact HI139.out | apply IsS108.alloc | apply IsS108.drewN | apply IsS108.drew | apply IsS108.set_0 | apply IsS108.set_1 | apply IsS108.set_2 | refine IsS108.far ?_ NB139_138.out _ | refine IsS108.far ?_ NB139_144.out _) | exact HI139.out)); (case side2 => repeat (first | (with_reducible first | exact HB.out | apply below_alloc | apply pw_below_drewN | apply below_drew1 | refine below_set ?_ (IsS108.ge HI139.out) | refine below_set ?_ GE138.out | refine below_set ?_ GE144.out) | exact HB.out)); rintro e w30 ⟨rfl, hi, hb, hk⟩; refine ⟨_, rfl, ?_⟩; have n0_ := Aside0.mk (KeepBut.blk hk (g' := gb138) (o := .cells #[.int .i64 0, .int .i64 0, .int .i64 0, .string (⟨#[]⟩ : ByteArray), .string (⟨#[]⟩ : ByteArray), .int .i64 0] 56 (0, 0)) B7x3_ NB138_139.out (by simp)); have n1_ := Aside0.mk (KeepBut.blk hk (g' := gb144) (o := .cells #[.int .i64 (wrap64 (bt a0 0)), .int .i64 t140, .int .i64 t145, .string (⟨#[]⟩ : ByteArray), .string (⟨#[]⟩ : ByteArray), .int .i64 0] 56 (0, 0)) B7x15_ NB144_139.out (by simp)); have n2_ := Aside0.mk (hb); have n3_ := Aside0.mk (hi); clear BK138; clear BK144; clear HB; clear HI139; have BK138 := n0_; have BK144 := n1_; have HB := n2_; have HI139 := n3_; clear n0_ n1_ n2_ n3_; (try clear hb); (try clear hb2); (try clear hk); (try clear hi); obtain ⟨hcz31_0, hcz31_1, hcz31_2, hcz31_3, hcz31_4, hcz31_5⟩ := cl6 BK144.out; obtain ⟨hfz31_0, hfz31_1, hfz31_2, hfz31_3, hfz31_4, hfz31_5⟩ := fr6 BK144.out) | ((with_reducible refine gate_callee (f := 71) rfl ?_); refine goesL_ (some 27) rfl rfl Try.func71 B7x20_ rfl #[.pointer (some ⟨gb139, 0, none⟩)] rfl B7x4_ ?_; (with_reducible refine (spec_l16ReadShort.calls k gb139 t150 t151 t152 t153 t154 t155 t156 w _ ?side1 ?side2 A10.out).mono ?_); (case side1 => repeat (first | (with_reducible first | exact HI139.out | apply IsS108.alloc | apply IsS108.drewN | apply IsS108.drew | apply IsS108.set_0 | apply IsS108.set_1 | apply IsS108.set_2 | refine IsS108.far ?_ NB139_138.out _ | refine IsS108.far ?_ NB139_144.out _) | exact HI139.out)); (case side2 => repeat (first | (with_reducible first | exact HB.out | apply below_alloc | apply pw_below_drewN | apply below_drew1 | refine below_set ?_ (IsS108.ge HI139.out) | refine below_set ?_ GE138.out | refine below_set ?_ GE144.out) | exact HB.out)); rintro e w32 ⟨rfl, hi, hb, hk⟩; refine ⟨_, rfl, ?_⟩; have n0_ := Aside0.mk (KeepBut.blk hk (g' := gb138) (o := .cells #[.int .i64 0, .int .i64 0, .int .i64 0, .string (⟨#[]⟩ : ByteArray), .string (⟨#[]⟩ : ByteArray), .int .i64 0] 56 (0, 0)) B7x3_ NB138_139.out (by simp)); have n1_ := Aside0.mk (KeepBut.blk hk (g' := gb144) (o := .cells #[.int .i64 (wrap64 (bt a0 0)), .int .i64 t140, .int .i64 t145, .string t149, .string (⟨#[]⟩ : ByteArray), .int .i64 0] 56 (0, 0)) B7x14_ NB144_139.out (by simp)); have n2_ := Aside0.mk (hb); have n3_ := Aside0.mk (hi); clear BK138; clear BK144; clear HB; clear HI139; have BK138 := n0_; have BK144 := n1_; have HB := n2_; have HI139 := n3_; clear n0_ n1_ n2_ n3_; (try clear hb); (try clear hb2); (try clear hk); (try clear hi); obtain ⟨hcz33_0, hcz33_1, hcz33_2, hcz33_3, hcz33_4, hcz33_5⟩ := cl6 BK144.out; obtain ⟨hfz33_0, hfz33_1, hfz33_2, hfz33_3, hfz33_4, hfz33_5⟩ := fr6 BK144.out) | ((with_reducible refine gate_callee (f := 70) rfl ?_); refine goesL_ (some 30) rfl rfl Try.func70 B7x20_ rfl #[.pointer (some ⟨gb139, 0, none⟩)] rfl B7x4_ ?_; (with_reducible refine (spec_l16Var.calls k gb139 t154 t155 t156 t157 t158 t159 true w _ ?side1 ?side2 A11.out).mono ?_); (case side1 => repeat (first | (with_reducible first | exact HI139.out | apply IsS108.alloc | apply IsS108.drewN | apply IsS108.drew | apply IsS108.set_0 | apply IsS108.set_1 | apply IsS108.set_2 | refine IsS108.far ?_ NB139_138.out _ | refine IsS108.far ?_ NB139_144.out _) | exact HI139.out)); (case side2 => repeat (first | (with_reducible first | exact HB.out | apply below_alloc | apply pw_below_drewN | apply below_drew1 | refine below_set ?_ (IsS108.ge HI139.out) | refine below_set ?_ GE138.out | refine below_set ?_ GE144.out) | exact HB.out)); rintro e w34 ⟨rfl, hi, hb, hk⟩; refine ⟨_, rfl, ?_⟩; have n0_ := Aside0.mk (KeepBut.blk hk (g' := gb138) (o := .cells #[.int .i64 0, .int .i64 0, .int .i64 0, .string (⟨#[]⟩ : ByteArray), .string (⟨#[]⟩ : ByteArray), .int .i64 0] 56 (0, 0)) B7x3_ NB138_139.out (by simp)); have n1_ := Aside0.mk (KeepBut.blk hk (g' := gb144) (o := .cells #[.int .i64 (wrap64 (bt a0 0)), .int .i64 t140, .int .i64 t145, .string t149, .string t153, .int .i64 0] 56 (0, 0)) B7x16_ NB144_139.out (by simp)); have n2_ := Aside0.mk (hb); have n3_ := Aside0.mk (hi); clear BK138; clear BK144; clear HB; clear HI139; have BK138 := n0_; have BK144 := n1_; have HB := n2_; have HI139 := n3_; clear n0_ n1_ n2_ n3_; (try clear hb); (try clear hb2); (try clear hk); (try clear hi); obtain ⟨hcz35_0, hcz35_1, hcz35_2, hcz35_3, hcz35_4, hcz35_5⟩ := cl6 BK144.out; obtain ⟨hfz35_0, hfz35_1, hfz35_2, hfz35_3, hfz35_4, hfz35_5⟩ := fr6 BK144.out) | ((with_reducible refine gate_callee (f := 72) rfl ?_); refine goesL_ (some 34) rfl rfl Try.func72 B7x20_ rfl #[.agg #[.int .i64 (wrap64 (bt a0 0)), .int .i64 t140, .int .i64 t145, .string t149, .string t153, .int .i64 t157]] rfl B7x4_ ?_; (with_reducible refine (spec_CommandText.calls k (wrap64 (bt a0 0)) t140 t145 t149 t153 t157 t161 t162 _ A12.out).mono ?_); rintro e w36 ⟨rfl, hb⟩; refine ⟨_, rfl, ?_⟩; have n0_ := Aside0.mk (blk_below (g := gb138) (o := .cells #[.int .i64 0, .int .i64 0, .int .i64 0, .string (⟨#[]⟩ : ByteArray), .string (⟨#[]⟩ : ByteArray), .int .i64 0] 56 (0, 0)) B7x3_ hb); have n1_ := Aside0.mk (IsS108.below (show IsS108 w (w34.setCell ⟨gb144, 5, none⟩ (.int .i64 t157)) gb139 t158 t159 true from by repeat (first | (with_reducible first | exact HI139.out | apply IsS108.alloc | apply IsS108.drewN | apply IsS108.drew | apply IsS108.set_0 | apply IsS108.set_1 | apply IsS108.set_2 | refine IsS108.far ?_ NB139_138.out _ | refine IsS108.far ?_ NB139_144.out _) | exact HI139.out)) hb); have n2_ := Aside0.mk (blk_below (g := gb144) (o := .cells #[.int .i64 (wrap64 (bt a0 0)), .int .i64 t140, .int .i64 t145, .string t149, .string t153, .int .i64 t157] 56 (0, 0)) B7x17_ hb); have n3_ := Aside0.mk (below_step B7x6_ hb); clear BK138; clear HI139; clear BK144; clear HB; have BK138 := n0_; have HI139 := n1_; have BK144 := n2_; have HB := n3_; clear n0_ n1_ n2_ n3_; (try clear hb); (try clear hb2); (try clear hk); (try clear hi); obtain ⟨HGz37, hgz37⟩ := HI139.out; have hcz37_0 := cellS108_0 HGz37; have hcz37_1 := cellS108_1 HGz37; have hcz37_2 := cellS108_2 HGz37; obtain ⟨hfz37_0, hfz37_1, hfz37_2⟩ := fr3 HGz37; clear HGz37 hgz37; have hnb38 := NB138_139.out; have hnc38 := NB139_138.out; obtain ⟨hcz39_0, hcz39_1, hcz39_2, hcz39_3, hcz39_4, hcz39_5⟩ := cl6 BK138.out; obtain ⟨hfz39_0, hfz39_1, hfz39_2, hfz39_3, hfz39_4, hfz39_5⟩ := fr6 BK138.out))
    refine bodyPost_ret (results_ct rfl _ _ gb138 56 #[.int .i64 0, .int .i64 0, .int .i64 0, .string (⟨#[]⟩ : ByteArray), .string (⟨#[]⟩ : ByteArray), .int .i64 0] (0, 0) _ rfl B7x2_ Try.underlying56 rfl B7x20_) rfl ?_
    exact ⟨by first | rfl | (simp [errW_none, errW_some] <;> rfl) | (simp [*, errW_none, errW_some] <;> rfl), by repeat (first | (with_reducible first | exact HB.out | apply below_alloc | apply pw_below_drewN | apply below_drew1 | refine below_set ?_ (IsS108.ge HI139.out) | refine below_set ?_ GE138.out | refine below_set ?_ GE144.out) | exact HB.out)⟩
   ·replace c13 := Bool.eq_false_iff.mpr c13
    subst c13
    rw [if_neg (show ¬ (false = true) by decide)] at H
    by_cases c40 : t162 = true
    ·subst c40
     rw [if_pos rfl] at H
     by_cases c41 : t161.toList = a0.toList
     ·rw [if_pos c41] at H
      have c41b0 : (t161.toList == a0.toList) = true := beq_iff_eq.mpr c41
      have c41b1 : (t161.toList != a0.toList) = false := bne_eq_false_iff_eq.mpr c41
      clear c41
      simp only [Option.some.injEq, Prod.mk.injEq] at H
      obtain ⟨rfl, rfl, rfl, rfl, rfl, rfl, rfl⟩ := H
      go_enter Try.func34, Try.ntmps34
      try go_wp2_with (first | ((with_reducible refine gate_dst (N := 2) rfl ?_); refine box_event ?hg (N := 2) ?hd (cs := #[.int .i64 0, .int .i64 0, .int .i64 0, .string (⟨#[]⟩ : ByteArray), .string (⟨#[]⟩ : ByteArray), .int .i64 0]) (t := 56) ?hr ?_; (case hd => rfl); (case hg => rfl); (case hr => first | (go_simp; done) | (go_simp; rfl)); intro gb138 hg w42 hbox hb; have n0_ := Aside0.mk (below_step B7x10_ hb); have n1_ := Aside0.mk (hbox); have n2_ := Aside0.mk ((by rw [hg]; exact (below_size B7x10_) : w.heap.size ≤ gb138)); have n3_ := Aside0.mk ((by rw [hg]; exact (below_size B7x10_) : w.heap.size ≤ gb138)); clear HB; have HB := n0_; have BK138 := n1_; have GW138 := n2_; have GE138 := n3_; clear n0_ n1_ n2_ n3_; clear hb hbox hg) | ((with_reducible refine gate_dst (N := 13) rfl ?_); refine box_event ?hg (N := 13) ?hd (cs := #[.string a0, .int .i64 1, .bool false]) (t := 108) ?hr ?_; (case hd => rfl); (case hg => rfl); (case hr => first | (go_simp; done) | (go_simp; rfl)); intro gb139 hg w43 hbox hb; have n0_ := Aside0.mk (blk_below (g := gb138) (o := .cells #[.int .i64 0, .int .i64 0, .int .i64 0, .string (⟨#[]⟩ : ByteArray), .string (⟨#[]⟩ : ByteArray), .int .i64 0] 56 (0, 0)) B7x0_ hb); have n1_ := Aside0.mk (below_step B7x11_ hb); have n2_ := Aside0.mk (hbox); have n3_ := Aside0.mk ((by rw [hg]; exact (below_size B7x11_) : w.heap.size ≤ gb139)); have n4_ := Aside0.mk ((by rw [hg]; exact (below_size B7x11_) : w.heap.size ≤ gb139)); have n5_ := Aside0.mk ((by rw [hg]; exact Nat.ne_of_lt (blk_lt (g := gb138) (o := .cells #[.int .i64 0, .int .i64 0, .int .i64 0, .string (⟨#[]⟩ : ByteArray), .string (⟨#[]⟩ : ByteArray), .int .i64 0] 56 (0, 0)) B7x0_) : gb138 ≠ gb139)); have n6_ := Aside0.mk ((by rw [hg]; exact Nat.ne_of_gt (blk_lt (g := gb138) (o := .cells #[.int .i64 0, .int .i64 0, .int .i64 0, .string (⟨#[]⟩ : ByteArray), .string (⟨#[]⟩ : ByteArray), .int .i64 0] 56 (0, 0)) B7x0_) : gb139 ≠ gb138)); clear BK138; clear HB; have BK138 := n0_; have HB := n1_; have BK139 := n2_; have GW139 := n3_; have GE139 := n4_; have NB138_139 := n5_; have NB139_138 := n6_; clear n0_ n1_ n2_ n3_ n4_ n5_ n6_; clear hb hbox hg))
      have n0_ := Aside0.mk (blk_drew BK138.out)
      have n1_ := Aside0.mk (blk_drew BK139.out)
      have n2_ := Aside0.mk (below_drew1 HB.out)
      clear BK138
      clear BK139
      clear HB
      have BK138 := n0_
      have BK139 := n1_
      have HB := n2_
      clear n0_ n1_ n2_
      have p6 : 0 ≤ (0 : Int) := (by omega)
      have q6 : 0 < a0.size := (by have : (0 : Int) < (a0.size : Int) := of_decide_eq_true B7x21_; omega)
      have hx6 : ∀ h : 0 < a0.size, ((a0[0]'h).toNat : Int) = bt a0 0 := bt_at a0 0
      clear p6
      have qi6 : (0 < (a0.size : Int)) = True := eq_true (of_decide_eq_true B7x21_)
      replace q6 := eq_true q6
      refine start_ (n := 8) (S := fun w' => True) (ds := []) #[false, false, false, false, false, false, false, false] B7x20_ rfl rfl trivial (fun hHeld => ?_); refine with_tabW spec_ReadCommand.tab4 spec_ReadCommand.bits4 (fun HT_ HW_ => ?_)
      generalize w43.drew = w44 at BK138 BK139 HB hHeld ⊢
      refine pu_ 0 14 HT_ ?_
      refine pu_ 3 17 HT_ ?_
      refine take_ (i := 1) (N := some 15) (v := ?_) (a' := ?_) #[true, true, false, true, false, false, false, false] rfl rfl (take_ofW HT_.out HW_.out B7x20_) (fun _ _ _ h => h) (Or.inl ⟨by rfl, ?_⟩) hHeld ?_ ?_
      rotate_left
      ·intro w' _
       go_simp
       with_reducible rfl
      rotate_left
      ·simp only [Act.put, List.setIfInBounds_toArray, List.set_cons_zero, List.set_cons_succ, i64_w, i32_w]
       rfl
      refine pu_ 2 16 HT_ ?_
      refine join_ (σ := Nat) 1 #[true, true, true, true, true, true, true, false] (fun s_ => [(18, .int .i64 t140), (5, .pointer (some ⟨s_, 0, none⟩)), (19, .agg #[.int .i64 (wrap64 (bt a0 0)), .int .i64 t140, .int .i64 0, .string (⟨#[]⟩ : ByteArray), .string (⟨#[]⟩ : ByteArray), .int .i64 0])]) (fun s_ w' => (w'.heap[gb138]? = some (.cells #[.int .i64 0, .int .i64 0, .int .i64 0, .string (⟨#[]⟩ : ByteArray), .string (⟨#[]⟩ : ByteArray), .int .i64 0] 56 (0, 0))) ∧ (w'.heap[s_]? = some (.cells #[.int .i64 0, .int .i64 0, .int .i64 0, .string (⟨#[]⟩ : ByteArray), .string (⟨#[]⟩ : ByteArray), .int .i64 0] 56 (0, 0))) ∧ (w.heap.size ≤ s_) ∧ (w.heap.size ≤ s_) ∧ (gb139 ≠ s_) ∧ (s_ ≠ gb139) ∧ (gb138 ≠ s_) ∧ (s_ ≠ gb138) ∧ (IsS108 w w' gb139 t141 t142 t143) ∧ (Below w.heap.size w w')) ?_ ?_
      rotate_left
      ·intro hCont
       refine two_ (i := 4) (j := 6) (Ni := some 18) (Nj := some 5) #[true, true, true, true, true, false, false, false] #[true, true, true, true, false, false, true, false] rfl rfl rfl rfl (two_of HT_.out B7x20_) (by decide) (by decide) (fun K hK => ?_) (fun K hK => ?_)
       ·skip
        refine goes_ Try.func70 B7x20_ rfl #[.pointer (some ⟨gb139, 0, none⟩)] (by rfl) rfl rfl B7x4_ ?_
        with_reducible refine (spec_l16Var.calls k gb139 a0 1 false t140 t141 t142 t143 w _ ?side1 ?side2 A7.out).mono ?_
        (case side1 => exact ⟨by (with_reducible repeat (first | refine blk_drewN ?_ _ | refine blk_drew ?_ | refine blk_alloc ?_ _)); exact BK139.out, GE139.out⟩)
        (case side2 => repeat (first | (with_reducible first | exact HB.out | apply below_alloc | apply pw_below_drewN | apply below_drew1 | refine below_set ?_ GE138.out | refine below_set ?_ GE139.out) | exact HB.out))
        rintro e w45 ⟨rfl, hi, hb, hk⟩
        refine ⟨_, rfl, ?_⟩
        have n0_ := Aside0.mk (KeepBut.blk hk (g' := gb138) (o := .cells #[.int .i64 0, .int .i64 0, .int .i64 0, .string (⟨#[]⟩ : ByteArray), .string (⟨#[]⟩ : ByteArray), .int .i64 0] 56 (0, 0)) B7x0_ NB138_139.out (by simp))
        have n1_ := Aside0.mk (hb)
        have n2_ := Aside0.mk (hi)
        clear BK138
        clear HB
        have BK138 := n0_
        have HB := n1_
        have HI139 := n2_
        clear n0_ n1_ n2_
        (try clear hb)
        (try clear hb2)
        (try clear hk)
        (try clear hi)
        (try clear BK139)
        refine hK.out _ _ trivial (fun hHeld => ?_)
        clear hK K
        refine norm_ (a' := ?_) ?_ ?_
        rotate_left
        ·show Act.put _ (some 18) _ = _
         simp only [Act.put, List.setIfInBounds_toArray, List.set_cons_zero, List.set_cons_succ, i64_w, i32_w]
         rfl
        refine pu_ 5 19 HT_ ?_
        refine one_ (i := 6) (N := some 5) #[true, true, true, true, true, true, true, false] rfl rfl (one_of HT_.out B7x20_) (by decide) (fun K hK => ?_)
        refine box_step ?hg (N := 5) ?hd (cs := #[.int .i64 0, .int .i64 0, .int .i64 0, .string (⟨#[]⟩ : ByteArray), .string (⟨#[]⟩ : ByteArray), .int .i64 0]) (t := 56) ?hr ?_; (case hd => rfl); (case hg => rfl); (case hr => first | (go_simp; done) | (go_simp; rfl))
        intro gb144 hg w46 hbox hb
        have n0_ := Aside0.mk (blk_below (g := gb138) (o := .cells #[.int .i64 0, .int .i64 0, .int .i64 0, .string (⟨#[]⟩ : ByteArray), .string (⟨#[]⟩ : ByteArray), .int .i64 0] 56 (0, 0)) B7x0_ hb)
        have n1_ := Aside0.mk (IsS108.below B7x18_ hb)
        have n2_ := Aside0.mk (below_step B7x7_ hb)
        have n3_ := Aside0.mk (hbox)
        have n4_ := Aside0.mk ((by rw [hg]; exact (below_size B7x7_) : w.heap.size ≤ gb144))
        have n5_ := Aside0.mk ((by rw [hg]; exact (below_size B7x7_) : w.heap.size ≤ gb144))
        have n6_ := Aside0.mk ((by rw [hg]; exact Nat.ne_of_lt (blk_lt (g := gb138) (o := .cells #[.int .i64 0, .int .i64 0, .int .i64 0, .string (⟨#[]⟩ : ByteArray), .string (⟨#[]⟩ : ByteArray), .int .i64 0] 56 (0, 0)) B7x0_) : gb138 ≠ gb144))
        have n7_ := Aside0.mk ((by rw [hg]; exact Nat.ne_of_gt (blk_lt (g := gb138) (o := .cells #[.int .i64 0, .int .i64 0, .int .i64 0, .string (⟨#[]⟩ : ByteArray), .string (⟨#[]⟩ : ByteArray), .int .i64 0] 56 (0, 0)) B7x0_) : gb144 ≠ gb138))
        have n8_ := Aside0.mk ((by rw [hg]; exact Nat.ne_of_lt (IsS108.lt (show IsS108 w _ gb139 t141 t142 t143 from by repeat (first | (with_reducible first | exact HI139.out | apply IsS108.alloc | apply IsS108.drewN | apply IsS108.drew | apply IsS108.set_0 | apply IsS108.set_1 | apply IsS108.set_2 | refine IsS108.far ?_ NB139_138.out _) | exact HI139.out))) : gb139 ≠ gb144))
        have n9_ := Aside0.mk ((by rw [hg]; exact Nat.ne_of_gt (IsS108.lt (show IsS108 w _ gb139 t141 t142 t143 from by repeat (first | (with_reducible first | exact HI139.out | apply IsS108.alloc | apply IsS108.drewN | apply IsS108.drew | apply IsS108.set_0 | apply IsS108.set_1 | apply IsS108.set_2 | refine IsS108.far ?_ NB139_138.out _) | exact HI139.out))) : gb144 ≠ gb139))
        clear BK138
        clear HI139
        clear HB
        have BK138 := n0_
        have HI139 := n1_
        have HB := n2_
        have BK144 := n3_
        have GW144 := n4_
        have GE144 := n5_
        have NB138_144 := n6_
        have NB144_138 := n7_
        have NB139_144 := n8_
        have NB144_139 := n9_
        clear n0_ n1_ n2_ n3_ n4_ n5_ n6_ n7_ n8_ n9_
        clear hb hbox hg
        refine hK.out _ _ trivial (fun hHeld => ?_)
        clear hK K
        refine norm_ (a' := ?_) ?_ ?_
        rotate_left
        ·show Act.put _ (some 5) _ = _
         simp only [Act.put, List.setIfInBounds_toArray, List.set_cons_zero, List.set_cons_succ, i64_w, i32_w]
         rfl
        exact norm_ B7x19_ (hCont (gb144) _ ⟨B7x0_, B7x13_, GW144.out, GE144.out, NB139_144.out, NB144_139.out, NB138_144.out, NB144_138.out, B7x9_, B7x6_⟩)
       ·skip
        refine box_step ?hg (N := 5) ?hd (cs := #[.int .i64 0, .int .i64 0, .int .i64 0, .string (⟨#[]⟩ : ByteArray), .string (⟨#[]⟩ : ByteArray), .int .i64 0]) (t := 56) ?hr ?_; (case hd => rfl); (case hg => rfl); (case hr => first | (go_simp; done) | (go_simp; rfl))
        intro gb144 hg w45 hbox hb
        have n0_ := Aside0.mk (blk_below (g := gb138) (o := .cells #[.int .i64 0, .int .i64 0, .int .i64 0, .string (⟨#[]⟩ : ByteArray), .string (⟨#[]⟩ : ByteArray), .int .i64 0] 56 (0, 0)) B7x0_ hb)
        have n1_ := Aside0.mk (blk_below (g := gb139) (o := .cells #[.string a0, .int .i64 1, .bool false] 108 (0, 0)) B7x12_ hb)
        have n2_ := Aside0.mk (below_step B7x8_ hb)
        have n3_ := Aside0.mk (hbox)
        have n4_ := Aside0.mk ((by rw [hg]; exact (below_size B7x8_) : w.heap.size ≤ gb144))
        have n5_ := Aside0.mk ((by rw [hg]; exact (below_size B7x8_) : w.heap.size ≤ gb144))
        have n6_ := Aside0.mk ((by rw [hg]; exact Nat.ne_of_lt (blk_lt (g := gb138) (o := .cells #[.int .i64 0, .int .i64 0, .int .i64 0, .string (⟨#[]⟩ : ByteArray), .string (⟨#[]⟩ : ByteArray), .int .i64 0] 56 (0, 0)) B7x0_) : gb138 ≠ gb144))
        have n7_ := Aside0.mk ((by rw [hg]; exact Nat.ne_of_gt (blk_lt (g := gb138) (o := .cells #[.int .i64 0, .int .i64 0, .int .i64 0, .string (⟨#[]⟩ : ByteArray), .string (⟨#[]⟩ : ByteArray), .int .i64 0] 56 (0, 0)) B7x0_) : gb144 ≠ gb138))
        have n8_ := Aside0.mk ((by rw [hg]; exact Nat.ne_of_lt (blk_lt (g := gb139) (o := .cells #[.string a0, .int .i64 1, .bool false] 108 (0, 0)) B7x12_) : gb139 ≠ gb144))
        have n9_ := Aside0.mk ((by rw [hg]; exact Nat.ne_of_gt (blk_lt (g := gb139) (o := .cells #[.string a0, .int .i64 1, .bool false] 108 (0, 0)) B7x12_) : gb144 ≠ gb139))
        clear BK138
        clear BK139
        clear HB
        have BK138 := n0_
        have BK139 := n1_
        have HB := n2_
        have BK144 := n3_
        have GW144 := n4_
        have GE144 := n5_
        have NB138_144 := n6_
        have NB144_138 := n7_
        have NB139_144 := n8_
        have NB144_139 := n9_
        clear n0_ n1_ n2_ n3_ n4_ n5_ n6_ n7_ n8_ n9_
        clear hb hbox hg
        refine hK.out _ _ trivial (fun hHeld => ?_)
        clear hK K
        refine norm_ (a' := ?_) ?_ ?_
        rotate_left
        ·show Act.put _ (some 5) _ = _
         simp only [Act.put, List.setIfInBounds_toArray, List.set_cons_zero, List.set_cons_succ, i64_w, i32_w]
         rfl
        refine one_ (i := 4) (N := some 18) #[true, true, true, true, true, false, true, false] rfl rfl (one_of HT_.out B7x20_) (by decide) (fun K hK => ?_)
        refine goes_ Try.func70 B7x20_ rfl #[.pointer (some ⟨gb139, 0, none⟩)] (by rfl) rfl rfl B7x4_ ?_
        with_reducible refine (spec_l16Var.calls k gb139 a0 1 false t140 t141 t142 t143 w _ ?side1 ?side2 A7.out).mono ?_
        (case side1 => exact ⟨by (with_reducible repeat (first | refine blk_drewN ?_ _ | refine blk_drew ?_ | refine blk_alloc ?_ _)); exact BK139.out, GE139.out⟩)
        (case side2 => repeat (first | (with_reducible first | exact HB.out | apply below_alloc | apply pw_below_drewN | apply below_drew1 | refine below_set ?_ GE138.out | refine below_set ?_ GE139.out | refine below_set ?_ GE144.out) | exact HB.out))
        rintro e w46 ⟨rfl, hi, hb, hk⟩
        refine ⟨_, rfl, ?_⟩
        have n0_ := Aside0.mk (KeepBut.blk hk (g' := gb138) (o := .cells #[.int .i64 0, .int .i64 0, .int .i64 0, .string (⟨#[]⟩ : ByteArray), .string (⟨#[]⟩ : ByteArray), .int .i64 0] 56 (0, 0)) B7x0_ NB138_139.out (by simp))
        have n1_ := Aside0.mk (KeepBut.blk hk (g' := gb144) (o := .cells #[.int .i64 0, .int .i64 0, .int .i64 0, .string (⟨#[]⟩ : ByteArray), .string (⟨#[]⟩ : ByteArray), .int .i64 0] 56 (0, 0)) B7x13_ NB144_139.out (by simp))
        have n2_ := Aside0.mk (hb)
        have n3_ := Aside0.mk (hi)
        clear BK138
        clear BK144
        clear HB
        have BK138 := n0_
        have BK144 := n1_
        have HB := n2_
        have HI139 := n3_
        clear n0_ n1_ n2_ n3_
        (try clear hb)
        (try clear hb2)
        (try clear hk)
        (try clear hi)
        (try clear BK139)
        refine hK.out _ _ trivial (fun hHeld => ?_)
        clear hK K
        refine norm_ (a' := ?_) ?_ ?_
        rotate_left
        ·show Act.put _ (some 18) _ = _
         simp only [Act.put, List.setIfInBounds_toArray, List.set_cons_zero, List.set_cons_succ, i64_w, i32_w]
         rfl
        refine pu_ 5 19 HT_ ?_
        exact norm_ B7x19_ (hCont (gb144) _ ⟨B7x0_, B7x13_, GW144.out, GE144.out, NB139_144.out, NB144_139.out, NB138_144.out, NB144_138.out, B7x9_, B7x6_⟩)
      rintro gb144 w47 ⟨h0_, h1_, h2_, h3_, h4_, h5_, h6_, h7_, h8_, h9_⟩
      have n0_ : Aside0 (w47.heap[gb138]? = some (.cells #[.int .i64 0, .int .i64 0, .int .i64 0, .string (⟨#[]⟩ : ByteArray), .string (⟨#[]⟩ : ByteArray), .int .i64 0] 56 (0, 0))) := ⟨h0_⟩
      have n1_ : Aside0 (w47.heap[gb144]? = some (.cells #[.int .i64 0, .int .i64 0, .int .i64 0, .string (⟨#[]⟩ : ByteArray), .string (⟨#[]⟩ : ByteArray), .int .i64 0] 56 (0, 0))) := ⟨h1_⟩
      have n2_ : Aside0 (w.heap.size ≤ gb144) := ⟨h2_⟩
      have n3_ : Aside0 (w.heap.size ≤ gb144) := ⟨h3_⟩
      have n4_ : Aside0 (gb139 ≠ gb144) := ⟨h4_⟩
      have n5_ : Aside0 (gb144 ≠ gb139) := ⟨h5_⟩
      have n6_ : Aside0 (gb138 ≠ gb144) := ⟨h6_⟩
      have n7_ : Aside0 (gb144 ≠ gb138) := ⟨h7_⟩
      have n8_ : Aside0 (IsS108 w w47 gb139 t141 t142 t143) := ⟨h8_⟩
      have n9_ : Aside0 (Below w.heap.size w w47) := ⟨h9_⟩
      clear BK138
      clear BK139
      clear HB
      clear h0_ h1_ h2_ h3_ h4_ h5_ h6_ h7_ h8_ h9_
      have BK138 := n0_
      have BK144 := n1_
      have GW144 := n2_
      have GE144 := n3_
      have NB139_144 := n4_
      have NB144_139 := n5_
      have NB138_144 := n6_
      have NB144_138 := n7_
      have HI139 := n8_
      have HB := n9_
      clear n0_ n1_ n2_ n3_ n4_ n5_ n6_ n7_ n8_ n9_
      have hHeld := trivial
      refine norm_ (a' := ?_) ?_ ?_
      rotate_left
      ·simp only [putAll, Act.put, List.setIfInBounds_toArray, List.set_cons_zero, List.set_cons_succ]
       rfl
      refine one_ (i := 7) (N := none) #[true, true, true, true, true, true, true, true] rfl rfl (one_of HT_.out B7x20_) (by decide) (fun K hK => ?_)
      have hs48 : w47.cell? ⟨gb144, 0, none⟩ = some (.int .i64 0) := (blk_cell BK144.out 0).trans rfl
      have hfs48 := blk_frozen BK144.out 0
      have hns48_0 := NB138_144.out
      have hms48_0 := NB144_138.out
      have hs49 : w47.cell? ⟨gb144, 1, none⟩ = some (.int .i64 0) := (blk_cell BK144.out 1).trans rfl
      have hfs49 := blk_frozen BK144.out 1
      have hns49_0 := NB138_144.out
      have hms49_0 := NB144_138.out
      have hs50 : w47.cell? ⟨gb144, 2, none⟩ = some (.int .i64 0) := (blk_cell BK144.out 2).trans rfl
      have hfs50 := blk_frozen BK144.out 2
      have hns50_0 := NB138_144.out
      have hms50_0 := NB144_138.out
      have hs51 : w47.cell? ⟨gb144, 3, none⟩ = some (.string (⟨#[]⟩ : ByteArray)) := (blk_cell BK144.out 3).trans rfl
      have hfs51 := blk_frozen BK144.out 3
      have hns51_0 := NB138_144.out
      have hms51_0 := NB144_138.out
      have hs52 : w47.cell? ⟨gb144, 4, none⟩ = some (.string (⟨#[]⟩ : ByteArray)) := (blk_cell BK144.out 4).trans rfl
      have hfs52 := blk_frozen BK144.out 4
      have hns52_0 := NB138_144.out
      have hms52_0 := NB144_138.out
      have hs53 : w47.cell? ⟨gb144, 5, none⟩ = some (.int .i64 0) := (blk_cell BK144.out 5).trans rfl
      have hfs53 := blk_frozen BK144.out 5
      have hns53_0 := NB138_144.out
      have hms53_0 := NB144_138.out
      refine skip_ (w1 := ?_) (by rfl) rfl ?_ ?_
      rotate_left
      ·go_simp
       rfl
      refine hK.out _ _ trivial (fun hHeld => ?_)
      clear hK K
      refine done_ (done_of HT_.out B7x20_) ?_
      try go_wp2_with (first | ((with_reducible refine gate_callee (f := 70) rfl ?_); refine goesL_ (some 21) rfl rfl Try.func70 B7x20_ rfl #[.pointer (some ⟨gb139, 0, none⟩)] rfl B7x4_ ?_; (with_reducible refine (spec_l16Var.calls k gb139 t141 t142 t143 t145 t146 t147 t148 w _ ?side1 ?side2 A8.out).mono ?_); (case side1 => repeat (first | (with_reducible first | exact HI139.out | apply IsS108.alloc | apply IsS108.drewN | apply IsS108.drew | apply IsS108.set_0 | apply IsS108.set_1 | apply IsS108.set_2 | refine IsS108.far ?_ NB139_138.out _ | refine IsS108.far ?_ NB139_144.out _) | exact HI139.out)); (case side2 => repeat (first | (with_reducible first | exact HB.out | apply below_alloc | apply pw_below_drewN | apply below_drew1 | refine below_set ?_ (IsS108.ge HI139.out) | refine below_set ?_ GE138.out | refine below_set ?_ GE144.out) | exact HB.out)); rintro e w54 ⟨rfl, hi, hb, hk⟩; refine ⟨_, rfl, ?_⟩; have n0_ := Aside0.mk (KeepBut.blk hk (g' := gb138) (o := .cells #[.int .i64 0, .int .i64 0, .int .i64 0, .string (⟨#[]⟩ : ByteArray), .string (⟨#[]⟩ : ByteArray), .int .i64 0] 56 (0, 0)) B7x5_ NB138_139.out (by simp)); have n1_ := Aside0.mk (KeepBut.blk hk (g' := gb144) (o := .cells #[.int .i64 (wrap64 (bt a0 0)), .int .i64 t140, .int .i64 0, .string (⟨#[]⟩ : ByteArray), .string (⟨#[]⟩ : ByteArray), .int .i64 0] 56 (0, 0)) B7x1_ NB144_139.out (by simp)); have n2_ := Aside0.mk (hb); have n3_ := Aside0.mk (hi); clear BK138; clear BK144; clear HB; clear HI139; have BK138 := n0_; have BK144 := n1_; have HB := n2_; have HI139 := n3_; clear n0_ n1_ n2_ n3_; (try clear hb); (try clear hb2); (try clear hk); (try clear hi); have hnb55 := NB144_138.out; have hnc55 := NB138_144.out; have hnb56 := NB144_139.out; have hnc56 := NB139_144.out; obtain ⟨hcz57_0, hcz57_1, hcz57_2, hcz57_3, hcz57_4, hcz57_5⟩ := cl6 BK144.out; obtain ⟨hfz57_0, hfz57_1, hfz57_2, hfz57_3, hfz57_4, hfz57_5⟩ := fr6 BK144.out) | ((with_reducible refine gate_callee (f := 71) rfl ?_); refine goesL_ (some 24) rfl rfl Try.func71 B7x20_ rfl #[.pointer (some ⟨gb139, 0, none⟩)] rfl B7x4_ ?_; (with_reducible refine (spec_l16ReadShort.calls k gb139 t146 t147 t148 t149 t150 t151 t152 w _ ?side1 ?side2 A9.out).mono ?_); (case side1 => repeat (first | (with_reducible first | exact HI139.out | apply IsS108.alloc | apply IsS108.drewN | apply IsS108.drew | apply IsS108.set_0 | apply IsS108.set_1 | apply IsS108.set_2 | refine IsS108.far ?_ NB139_138.out _ | refine IsS108.far ?_ NB139_144.out _) | exact HI139.out)); (case side2 => repeat (first | (with_reducible first | exact HB.out | apply below_alloc | apply pw_below_drewN | apply below_drew1 | refine below_set ?_ (IsS108.ge HI139.out) | refine below_set ?_ GE138.out | refine below_set ?_ GE144.out) | exact HB.out)); rintro e w58 ⟨rfl, hi, hb, hk⟩; refine ⟨_, rfl, ?_⟩; have n0_ := Aside0.mk (KeepBut.blk hk (g' := gb138) (o := .cells #[.int .i64 0, .int .i64 0, .int .i64 0, .string (⟨#[]⟩ : ByteArray), .string (⟨#[]⟩ : ByteArray), .int .i64 0] 56 (0, 0)) B7x3_ NB138_139.out (by simp)); have n1_ := Aside0.mk (KeepBut.blk hk (g' := gb144) (o := .cells #[.int .i64 (wrap64 (bt a0 0)), .int .i64 t140, .int .i64 t145, .string (⟨#[]⟩ : ByteArray), .string (⟨#[]⟩ : ByteArray), .int .i64 0] 56 (0, 0)) B7x15_ NB144_139.out (by simp)); have n2_ := Aside0.mk (hb); have n3_ := Aside0.mk (hi); clear BK138; clear BK144; clear HB; clear HI139; have BK138 := n0_; have BK144 := n1_; have HB := n2_; have HI139 := n3_; clear n0_ n1_ n2_ n3_; (try clear hb); (try clear hb2); (try clear hk); (try clear hi); obtain ⟨hcz59_0, hcz59_1, hcz59_2, hcz59_3, hcz59_4, hcz59_5⟩ := cl6 BK144.out; obtain ⟨hfz59_0, hfz59_1, hfz59_2, hfz59_3, hfz59_4, hfz59_5⟩ := fr6 BK144.out) | ((with_reducible refine gate_callee (f := 71) rfl ?_); refine goesL_ (some 27) rfl rfl Try.func71 B7x20_ rfl #[.pointer (some ⟨gb139, 0, none⟩)] rfl B7x4_ ?_; (with_reducible refine (spec_l16ReadShort.calls k gb139 t150 t151 t152 t153 t154 t155 t156 w _ ?side1 ?side2 A10.out).mono ?_); (case side1 => repeat (first | (with_reducible first | exact HI139.out | apply IsS108.alloc | apply IsS108.drewN | apply IsS108.drew | apply IsS108.set_0 | apply IsS108.set_1 | apply IsS108.set_2 | refine IsS108.far ?_ NB139_138.out _ | refine IsS108.far ?_ NB139_144.out _) | exact HI139.out)); (case side2 => repeat (first | (with_reducible first | exact HB.out | apply below_alloc | apply pw_below_drewN | apply below_drew1 | refine below_set ?_ (IsS108.ge HI139.out) | refine below_set ?_ GE138.out | refine below_set ?_ GE144.out) | exact HB.out)); rintro e w60 ⟨rfl, hi, hb, hk⟩; refine ⟨_, rfl, ?_⟩; have n0_ := Aside0.mk (KeepBut.blk hk (g' := gb138) (o := .cells #[.int .i64 0, .int .i64 0, .int .i64 0, .string (⟨#[]⟩ : ByteArray), .string (⟨#[]⟩ : ByteArray), .int .i64 0] 56 (0, 0)) B7x3_ NB138_139.out (by simp)); have n1_ := Aside0.mk (KeepBut.blk hk (g' := gb144) (o := .cells #[.int .i64 (wrap64 (bt a0 0)), .int .i64 t140, .int .i64 t145, .string t149, .string (⟨#[]⟩ : ByteArray), .int .i64 0] 56 (0, 0)) B7x14_ NB144_139.out (by simp)); have n2_ := Aside0.mk (hb); have n3_ := Aside0.mk (hi); clear BK138; clear BK144; clear HB; clear HI139; have BK138 := n0_; have BK144 := n1_; have HB := n2_; have HI139 := n3_; clear n0_ n1_ n2_ n3_; (try clear hb); (try clear hb2); (try clear hk); (try clear hi); obtain ⟨hcz61_0, hcz61_1, hcz61_2, hcz61_3, hcz61_4, hcz61_5⟩ := cl6 BK144.out; obtain ⟨hfz61_0, hfz61_1, hfz61_2, hfz61_3, hfz61_4, hfz61_5⟩ := fr6 BK144.out) | ((with_reducible refine gate_callee (f := 70) rfl ?_); refine goesL_ (some 30) rfl rfl Try.func70 B7x20_ rfl #[.pointer (some ⟨gb139, 0, none⟩)] rfl B7x4_ ?_; (with_reducible refine (spec_l16Var.calls k gb139 t154 t155 t156 t157 t158 t159 false w _ ?side1 ?side2 A11.out).mono ?_); (case side1 => repeat (first | (with_reducible first | exact HI139.out | apply IsS108.alloc | apply IsS108.drewN | apply IsS108.drew | apply IsS108.set_0 | apply IsS108.set_1 | apply IsS108.set_2 | refine IsS108.far ?_ NB139_138.out _ | refine IsS108.far ?_ NB139_144.out _) | exact HI139.out)); (case side2 => repeat (first | (with_reducible first | exact HB.out | apply below_alloc | apply pw_below_drewN | apply below_drew1 | refine below_set ?_ (IsS108.ge HI139.out) | refine below_set ?_ GE138.out | refine below_set ?_ GE144.out) | exact HB.out)); rintro e w62 ⟨rfl, hi, hb, hk⟩; refine ⟨_, rfl, ?_⟩; have n0_ := Aside0.mk (KeepBut.blk hk (g' := gb138) (o := .cells #[.int .i64 0, .int .i64 0, .int .i64 0, .string (⟨#[]⟩ : ByteArray), .string (⟨#[]⟩ : ByteArray), .int .i64 0] 56 (0, 0)) B7x3_ NB138_139.out (by simp)); have n1_ := Aside0.mk (KeepBut.blk hk (g' := gb144) (o := .cells #[.int .i64 (wrap64 (bt a0 0)), .int .i64 t140, .int .i64 t145, .string t149, .string t153, .int .i64 0] 56 (0, 0)) B7x16_ NB144_139.out (by simp)); have n2_ := Aside0.mk (hb); have n3_ := Aside0.mk (hi); clear BK138; clear BK144; clear HB; clear HI139; have BK138 := n0_; have BK144 := n1_; have HB := n2_; have HI139 := n3_; clear n0_ n1_ n2_ n3_; (try clear hb); (try clear hb2); (try clear hk); (try clear hi); obtain ⟨hcz63_0, hcz63_1, hcz63_2, hcz63_3, hcz63_4, hcz63_5⟩ := cl6 BK144.out; obtain ⟨hfz63_0, hfz63_1, hfz63_2, hfz63_3, hfz63_4, hfz63_5⟩ := fr6 BK144.out) | ((with_reducible refine gate_callee (f := 72) rfl ?_); refine goesL_ (some 34) rfl rfl Try.func72 B7x20_ rfl #[.agg #[.int .i64 (wrap64 (bt a0 0)), .int .i64 t140, .int .i64 t145, .string t149, .string t153, .int .i64 t157]] rfl B7x4_ ?_; (with_reducible refine (spec_CommandText.calls k (wrap64 (bt a0 0)) t140 t145 t149 t153 t157 t161 true _ A12.out).mono ?_); rintro e w64 ⟨rfl, hb⟩; refine ⟨_, rfl, ?_⟩; have n0_ := Aside0.mk (blk_below (g := gb138) (o := .cells #[.int .i64 0, .int .i64 0, .int .i64 0, .string (⟨#[]⟩ : ByteArray), .string (⟨#[]⟩ : ByteArray), .int .i64 0] 56 (0, 0)) B7x3_ hb); have n1_ := Aside0.mk (IsS108.below (show IsS108 w (w62.setCell ⟨gb144, 5, none⟩ (.int .i64 t157)) gb139 t158 t159 false from by repeat (first | (with_reducible first | exact HI139.out | apply IsS108.alloc | apply IsS108.drewN | apply IsS108.drew | apply IsS108.set_0 | apply IsS108.set_1 | apply IsS108.set_2 | refine IsS108.far ?_ NB139_138.out _ | refine IsS108.far ?_ NB139_144.out _) | exact HI139.out)) hb); have n2_ := Aside0.mk (blk_below (g := gb144) (o := .cells #[.int .i64 (wrap64 (bt a0 0)), .int .i64 t140, .int .i64 t145, .string t149, .string t153, .int .i64 t157] 56 (0, 0)) B7x17_ hb); have n3_ := Aside0.mk (below_step B7x6_ hb); clear BK138; clear HI139; clear BK144; clear HB; have BK138 := n0_; have HI139 := n1_; have BK144 := n2_; have HB := n3_; clear n0_ n1_ n2_ n3_; (try clear hb); (try clear hb2); (try clear hk); (try clear hi); obtain ⟨HGz65, hgz65⟩ := HI139.out; have hcz65_0 := cellS108_0 HGz65; have hcz65_1 := cellS108_1 HGz65; have hcz65_2 := cellS108_2 HGz65; obtain ⟨hfz65_0, hfz65_1, hfz65_2⟩ := fr3 HGz65; clear HGz65 hgz65; obtain ⟨hcz66_0, hcz66_1, hcz66_2, hcz66_3, hcz66_4, hcz66_5⟩ := cl6 BK144.out; obtain ⟨hfz66_0, hfz66_1, hfz66_2, hfz66_3, hfz66_4, hfz66_5⟩ := fr6 BK144.out; have hnb67 := NB138_139.out; have hnc67 := NB139_138.out; obtain ⟨hcz68_0, hcz68_1, hcz68_2, hcz68_3, hcz68_4, hcz68_5⟩ := cl6 BK138.out; obtain ⟨hfz68_0, hfz68_1, hfz68_2, hfz68_3, hfz68_4, hfz68_5⟩ := fr6 BK138.out))
      refine bodyPost_ret (results_ct rfl _ _ gb138 56 #[.int .i64 (wrap64 (bt a0 0)), .int .i64 t140, .int .i64 t145, .string t149, .string t153, .int .i64 t157] (0, 0) _ rfl (by (with_reducible repeat (first | refine blk_drewN ?_ _ | refine blk_drew ?_ | refine blk_alloc ?_ _)); refine blk_put (cs := #[.int .i64 (wrap64 (bt a0 0)), .int .i64 t140, .int .i64 t145, .string t149, .string t153, .int .i64 0]) ?_ 5 _ rfl; (with_reducible repeat (first | refine blk_drewN ?_ _ | refine blk_drew ?_ | refine blk_alloc ?_ _)); refine blk_put (cs := #[.int .i64 (wrap64 (bt a0 0)), .int .i64 t140, .int .i64 t145, .string t149, .string (⟨#[]⟩ : ByteArray), .int .i64 0]) ?_ 4 _ rfl; (with_reducible repeat (first | refine blk_drewN ?_ _ | refine blk_drew ?_ | refine blk_alloc ?_ _)); refine blk_put (cs := #[.int .i64 (wrap64 (bt a0 0)), .int .i64 t140, .int .i64 t145, .string (⟨#[]⟩ : ByteArray), .string (⟨#[]⟩ : ByteArray), .int .i64 0]) ?_ 3 _ rfl; (with_reducible repeat (first | refine blk_drewN ?_ _ | refine blk_drew ?_ | refine blk_alloc ?_ _)); refine blk_put (cs := #[.int .i64 (wrap64 (bt a0 0)), .int .i64 t140, .int .i64 0, .string (⟨#[]⟩ : ByteArray), .string (⟨#[]⟩ : ByteArray), .int .i64 0]) ?_ 2 _ rfl; (with_reducible repeat (first | refine blk_drewN ?_ _ | refine blk_drew ?_ | refine blk_alloc ?_ _)); refine blk_put (cs := #[.int .i64 (wrap64 (bt a0 0)), .int .i64 0, .int .i64 0, .string (⟨#[]⟩ : ByteArray), .string (⟨#[]⟩ : ByteArray), .int .i64 0]) ?_ 1 _ rfl; (with_reducible repeat (first | refine blk_drewN ?_ _ | refine blk_drew ?_ | refine blk_alloc ?_ _)); refine blk_put (cs := #[.int .i64 0, .int .i64 0, .int .i64 0, .string (⟨#[]⟩ : ByteArray), .string (⟨#[]⟩ : ByteArray), .int .i64 0]) ?_ 0 _ rfl; (with_reducible repeat (first | refine blk_drewN ?_ _ | refine blk_drew ?_ | refine blk_alloc ?_ _)); exact BK138.out) Try.underlying56 rfl B7x20_) rfl ?_
      exact ⟨by first | rfl | (simp [errW_none, errW_some] <;> rfl) | (simp [*, errW_none, errW_some] <;> rfl), by repeat (first | (with_reducible first | exact HB.out | apply below_alloc | apply pw_below_drewN | apply below_drew1 | refine below_set ?_ (IsS108.ge HI139.out) | refine below_set ?_ GE138.out | refine below_set ?_ GE144.out) | exact HB.out)⟩
     ·rw [if_neg c41] at H
      have c41b0 : (t161.toList == a0.toList) = false := beq_eq_false_iff_ne.mpr c41
      have c41b1 : (t161.toList != a0.toList) = true := bne_iff_ne.mpr c41
      simp only [Option.some.injEq, Prod.mk.injEq] at H
      obtain ⟨rfl, rfl, rfl, rfl, rfl, rfl, rfl⟩ := H
      go_enter Try.func34, Try.ntmps34
      try go_wp2_with (first | ((with_reducible refine gate_dst (N := 2) rfl ?_); refine box_event ?hg (N := 2) ?hd (cs := #[.int .i64 0, .int .i64 0, .int .i64 0, .string (⟨#[]⟩ : ByteArray), .string (⟨#[]⟩ : ByteArray), .int .i64 0]) (t := 56) ?hr ?_; (case hd => rfl); (case hg => rfl); (case hr => first | (go_simp; done) | (go_simp; rfl)); intro gb138 hg w69 hbox hb; have n0_ := Aside0.mk (below_step B7x10_ hb); have n1_ := Aside0.mk (hbox); have n2_ := Aside0.mk ((by rw [hg]; exact (below_size B7x10_) : w.heap.size ≤ gb138)); have n3_ := Aside0.mk ((by rw [hg]; exact (below_size B7x10_) : w.heap.size ≤ gb138)); clear HB; have HB := n0_; have BK138 := n1_; have GW138 := n2_; have GE138 := n3_; clear n0_ n1_ n2_ n3_; clear hb hbox hg) | ((with_reducible refine gate_dst (N := 13) rfl ?_); refine box_event ?hg (N := 13) ?hd (cs := #[.string a0, .int .i64 1, .bool false]) (t := 108) ?hr ?_; (case hd => rfl); (case hg => rfl); (case hr => first | (go_simp; done) | (go_simp; rfl)); intro gb139 hg w70 hbox hb; have n0_ := Aside0.mk (blk_below (g := gb138) (o := .cells #[.int .i64 0, .int .i64 0, .int .i64 0, .string (⟨#[]⟩ : ByteArray), .string (⟨#[]⟩ : ByteArray), .int .i64 0] 56 (0, 0)) B7x0_ hb); have n1_ := Aside0.mk (below_step B7x11_ hb); have n2_ := Aside0.mk (hbox); have n3_ := Aside0.mk ((by rw [hg]; exact (below_size B7x11_) : w.heap.size ≤ gb139)); have n4_ := Aside0.mk ((by rw [hg]; exact (below_size B7x11_) : w.heap.size ≤ gb139)); have n5_ := Aside0.mk ((by rw [hg]; exact Nat.ne_of_lt (blk_lt (g := gb138) (o := .cells #[.int .i64 0, .int .i64 0, .int .i64 0, .string (⟨#[]⟩ : ByteArray), .string (⟨#[]⟩ : ByteArray), .int .i64 0] 56 (0, 0)) B7x0_) : gb138 ≠ gb139)); have n6_ := Aside0.mk ((by rw [hg]; exact Nat.ne_of_gt (blk_lt (g := gb138) (o := .cells #[.int .i64 0, .int .i64 0, .int .i64 0, .string (⟨#[]⟩ : ByteArray), .string (⟨#[]⟩ : ByteArray), .int .i64 0] 56 (0, 0)) B7x0_) : gb139 ≠ gb138)); clear BK138; clear HB; have BK138 := n0_; have HB := n1_; have BK139 := n2_; have GW139 := n3_; have GE139 := n4_; have NB138_139 := n5_; have NB139_138 := n6_; clear n0_ n1_ n2_ n3_ n4_ n5_ n6_; clear hb hbox hg))
      have n0_ := Aside0.mk (blk_drew BK138.out)
      have n1_ := Aside0.mk (blk_drew BK139.out)
      have n2_ := Aside0.mk (below_drew1 HB.out)
      clear BK138
      clear BK139
      clear HB
      have BK138 := n0_
      have BK139 := n1_
      have HB := n2_
      clear n0_ n1_ n2_
      have p6 : 0 ≤ (0 : Int) := (by omega)
      have q6 : 0 < a0.size := (by have : (0 : Int) < (a0.size : Int) := of_decide_eq_true B7x21_; omega)
      have hx6 : ∀ h : 0 < a0.size, ((a0[0]'h).toNat : Int) = bt a0 0 := bt_at a0 0
      clear p6
      have qi6 : (0 < (a0.size : Int)) = True := eq_true (of_decide_eq_true B7x21_)
      replace q6 := eq_true q6
      refine start_ (n := 8) (S := fun w' => True) (ds := []) #[false, false, false, false, false, false, false, false] B7x20_ rfl rfl trivial (fun hHeld => ?_); refine with_tabW spec_ReadCommand.tab4 spec_ReadCommand.bits4 (fun HT_ HW_ => ?_)
      generalize w70.drew = w71 at BK138 BK139 HB hHeld ⊢
      refine pu_ 0 14 HT_ ?_
      refine pu_ 3 17 HT_ ?_
      refine take_ (i := 1) (N := some 15) (v := ?_) (a' := ?_) #[true, true, false, true, false, false, false, false] rfl rfl (take_ofW HT_.out HW_.out B7x20_) (fun _ _ _ h => h) (Or.inl ⟨by rfl, ?_⟩) hHeld ?_ ?_
      rotate_left
      ·intro w' _
       go_simp
       with_reducible rfl
      rotate_left
      ·simp only [Act.put, List.setIfInBounds_toArray, List.set_cons_zero, List.set_cons_succ, i64_w, i32_w]
       rfl
      refine pu_ 2 16 HT_ ?_
      refine join_ (σ := Nat) 1 #[true, true, true, true, true, true, true, false] (fun s_ => [(18, .int .i64 t140), (5, .pointer (some ⟨s_, 0, none⟩)), (19, .agg #[.int .i64 (wrap64 (bt a0 0)), .int .i64 t140, .int .i64 0, .string (⟨#[]⟩ : ByteArray), .string (⟨#[]⟩ : ByteArray), .int .i64 0])]) (fun s_ w' => (w'.heap[gb138]? = some (.cells #[.int .i64 0, .int .i64 0, .int .i64 0, .string (⟨#[]⟩ : ByteArray), .string (⟨#[]⟩ : ByteArray), .int .i64 0] 56 (0, 0))) ∧ (w'.heap[s_]? = some (.cells #[.int .i64 0, .int .i64 0, .int .i64 0, .string (⟨#[]⟩ : ByteArray), .string (⟨#[]⟩ : ByteArray), .int .i64 0] 56 (0, 0))) ∧ (w.heap.size ≤ s_) ∧ (w.heap.size ≤ s_) ∧ (gb139 ≠ s_) ∧ (s_ ≠ gb139) ∧ (gb138 ≠ s_) ∧ (s_ ≠ gb138) ∧ (IsS108 w w' gb139 t141 t142 t143) ∧ (Below w.heap.size w w')) ?_ ?_
      rotate_left
      ·intro hCont
       refine two_ (i := 4) (j := 6) (Ni := some 18) (Nj := some 5) #[true, true, true, true, true, false, false, false] #[true, true, true, true, false, false, true, false] rfl rfl rfl rfl (two_of HT_.out B7x20_) (by decide) (by decide) (fun K hK => ?_) (fun K hK => ?_)
       ·skip
        refine goes_ Try.func70 B7x20_ rfl #[.pointer (some ⟨gb139, 0, none⟩)] (by rfl) rfl rfl B7x4_ ?_
        with_reducible refine (spec_l16Var.calls k gb139 a0 1 false t140 t141 t142 t143 w _ ?side1 ?side2 A7.out).mono ?_
        (case side1 => exact ⟨by (with_reducible repeat (first | refine blk_drewN ?_ _ | refine blk_drew ?_ | refine blk_alloc ?_ _)); exact BK139.out, GE139.out⟩)
        (case side2 => repeat (first | (with_reducible first | exact HB.out | apply below_alloc | apply pw_below_drewN | apply below_drew1 | refine below_set ?_ GE138.out | refine below_set ?_ GE139.out) | exact HB.out))
        rintro e w72 ⟨rfl, hi, hb, hk⟩
        refine ⟨_, rfl, ?_⟩
        have n0_ := Aside0.mk (KeepBut.blk hk (g' := gb138) (o := .cells #[.int .i64 0, .int .i64 0, .int .i64 0, .string (⟨#[]⟩ : ByteArray), .string (⟨#[]⟩ : ByteArray), .int .i64 0] 56 (0, 0)) B7x0_ NB138_139.out (by simp))
        have n1_ := Aside0.mk (hb)
        have n2_ := Aside0.mk (hi)
        clear BK138
        clear HB
        have BK138 := n0_
        have HB := n1_
        have HI139 := n2_
        clear n0_ n1_ n2_
        (try clear hb)
        (try clear hb2)
        (try clear hk)
        (try clear hi)
        (try clear BK139)
        refine hK.out _ _ trivial (fun hHeld => ?_)
        clear hK K
        refine norm_ (a' := ?_) ?_ ?_
        rotate_left
        ·show Act.put _ (some 18) _ = _
         simp only [Act.put, List.setIfInBounds_toArray, List.set_cons_zero, List.set_cons_succ, i64_w, i32_w]
         rfl
        refine pu_ 5 19 HT_ ?_
        refine one_ (i := 6) (N := some 5) #[true, true, true, true, true, true, true, false] rfl rfl (one_of HT_.out B7x20_) (by decide) (fun K hK => ?_)
        refine box_step ?hg (N := 5) ?hd (cs := #[.int .i64 0, .int .i64 0, .int .i64 0, .string (⟨#[]⟩ : ByteArray), .string (⟨#[]⟩ : ByteArray), .int .i64 0]) (t := 56) ?hr ?_; (case hd => rfl); (case hg => rfl); (case hr => first | (go_simp; done) | (go_simp; rfl))
        intro gb144 hg w73 hbox hb
        have n0_ := Aside0.mk (blk_below (g := gb138) (o := .cells #[.int .i64 0, .int .i64 0, .int .i64 0, .string (⟨#[]⟩ : ByteArray), .string (⟨#[]⟩ : ByteArray), .int .i64 0] 56 (0, 0)) B7x0_ hb)
        have n1_ := Aside0.mk (IsS108.below B7x18_ hb)
        have n2_ := Aside0.mk (below_step B7x7_ hb)
        have n3_ := Aside0.mk (hbox)
        have n4_ := Aside0.mk ((by rw [hg]; exact (below_size B7x7_) : w.heap.size ≤ gb144))
        have n5_ := Aside0.mk ((by rw [hg]; exact (below_size B7x7_) : w.heap.size ≤ gb144))
        have n6_ := Aside0.mk ((by rw [hg]; exact Nat.ne_of_lt (blk_lt (g := gb138) (o := .cells #[.int .i64 0, .int .i64 0, .int .i64 0, .string (⟨#[]⟩ : ByteArray), .string (⟨#[]⟩ : ByteArray), .int .i64 0] 56 (0, 0)) B7x0_) : gb138 ≠ gb144))
        have n7_ := Aside0.mk ((by rw [hg]; exact Nat.ne_of_gt (blk_lt (g := gb138) (o := .cells #[.int .i64 0, .int .i64 0, .int .i64 0, .string (⟨#[]⟩ : ByteArray), .string (⟨#[]⟩ : ByteArray), .int .i64 0] 56 (0, 0)) B7x0_) : gb144 ≠ gb138))
        have n8_ := Aside0.mk ((by rw [hg]; exact Nat.ne_of_lt (IsS108.lt (show IsS108 w _ gb139 t141 t142 t143 from by repeat (first | (with_reducible first | exact HI139.out | apply IsS108.alloc | apply IsS108.drewN | apply IsS108.drew | apply IsS108.set_0 | apply IsS108.set_1 | apply IsS108.set_2 | refine IsS108.far ?_ NB139_138.out _) | exact HI139.out))) : gb139 ≠ gb144))
        have n9_ := Aside0.mk ((by rw [hg]; exact Nat.ne_of_gt (IsS108.lt (show IsS108 w _ gb139 t141 t142 t143 from by repeat (first | (with_reducible first | exact HI139.out | apply IsS108.alloc | apply IsS108.drewN | apply IsS108.drew | apply IsS108.set_0 | apply IsS108.set_1 | apply IsS108.set_2 | refine IsS108.far ?_ NB139_138.out _) | exact HI139.out))) : gb144 ≠ gb139))
        clear BK138
        clear HI139
        clear HB
        have BK138 := n0_
        have HI139 := n1_
        have HB := n2_
        have BK144 := n3_
        have GW144 := n4_
        have GE144 := n5_
        have NB138_144 := n6_
        have NB144_138 := n7_
        have NB139_144 := n8_
        have NB144_139 := n9_
        clear n0_ n1_ n2_ n3_ n4_ n5_ n6_ n7_ n8_ n9_
        clear hb hbox hg
        refine hK.out _ _ trivial (fun hHeld => ?_)
        clear hK K
        refine norm_ (a' := ?_) ?_ ?_
        rotate_left
        ·show Act.put _ (some 5) _ = _
         simp only [Act.put, List.setIfInBounds_toArray, List.set_cons_zero, List.set_cons_succ, i64_w, i32_w]
         rfl
        exact norm_ B7x19_ (hCont (gb144) _ ⟨B7x0_, B7x13_, GW144.out, GE144.out, NB139_144.out, NB144_139.out, NB138_144.out, NB144_138.out, B7x9_, B7x6_⟩)
       ·skip
        refine box_step ?hg (N := 5) ?hd (cs := #[.int .i64 0, .int .i64 0, .int .i64 0, .string (⟨#[]⟩ : ByteArray), .string (⟨#[]⟩ : ByteArray), .int .i64 0]) (t := 56) ?hr ?_; (case hd => rfl); (case hg => rfl); (case hr => first | (go_simp; done) | (go_simp; rfl))
        intro gb144 hg w72 hbox hb
        have n0_ := Aside0.mk (blk_below (g := gb138) (o := .cells #[.int .i64 0, .int .i64 0, .int .i64 0, .string (⟨#[]⟩ : ByteArray), .string (⟨#[]⟩ : ByteArray), .int .i64 0] 56 (0, 0)) B7x0_ hb)
        have n1_ := Aside0.mk (blk_below (g := gb139) (o := .cells #[.string a0, .int .i64 1, .bool false] 108 (0, 0)) B7x12_ hb)
        have n2_ := Aside0.mk (below_step B7x8_ hb)
        have n3_ := Aside0.mk (hbox)
        have n4_ := Aside0.mk ((by rw [hg]; exact (below_size B7x8_) : w.heap.size ≤ gb144))
        have n5_ := Aside0.mk ((by rw [hg]; exact (below_size B7x8_) : w.heap.size ≤ gb144))
        have n6_ := Aside0.mk ((by rw [hg]; exact Nat.ne_of_lt (blk_lt (g := gb138) (o := .cells #[.int .i64 0, .int .i64 0, .int .i64 0, .string (⟨#[]⟩ : ByteArray), .string (⟨#[]⟩ : ByteArray), .int .i64 0] 56 (0, 0)) B7x0_) : gb138 ≠ gb144))
        have n7_ := Aside0.mk ((by rw [hg]; exact Nat.ne_of_gt (blk_lt (g := gb138) (o := .cells #[.int .i64 0, .int .i64 0, .int .i64 0, .string (⟨#[]⟩ : ByteArray), .string (⟨#[]⟩ : ByteArray), .int .i64 0] 56 (0, 0)) B7x0_) : gb144 ≠ gb138))
        have n8_ := Aside0.mk ((by rw [hg]; exact Nat.ne_of_lt (blk_lt (g := gb139) (o := .cells #[.string a0, .int .i64 1, .bool false] 108 (0, 0)) B7x12_) : gb139 ≠ gb144))
        have n9_ := Aside0.mk ((by rw [hg]; exact Nat.ne_of_gt (blk_lt (g := gb139) (o := .cells #[.string a0, .int .i64 1, .bool false] 108 (0, 0)) B7x12_) : gb144 ≠ gb139))
        clear BK138
        clear BK139
        clear HB
        have BK138 := n0_
        have BK139 := n1_
        have HB := n2_
        have BK144 := n3_
        have GW144 := n4_
        have GE144 := n5_
        have NB138_144 := n6_
        have NB144_138 := n7_
        have NB139_144 := n8_
        have NB144_139 := n9_
        clear n0_ n1_ n2_ n3_ n4_ n5_ n6_ n7_ n8_ n9_
        clear hb hbox hg
        refine hK.out _ _ trivial (fun hHeld => ?_)
        clear hK K
        refine norm_ (a' := ?_) ?_ ?_
        rotate_left
        ·show Act.put _ (some 5) _ = _
         simp only [Act.put, List.setIfInBounds_toArray, List.set_cons_zero, List.set_cons_succ, i64_w, i32_w]
         rfl
        refine one_ (i := 4) (N := some 18) #[true, true, true, true, true, false, true, false] rfl rfl (one_of HT_.out B7x20_) (by decide) (fun K hK => ?_)
        refine goes_ Try.func70 B7x20_ rfl #[.pointer (some ⟨gb139, 0, none⟩)] (by rfl) rfl rfl B7x4_ ?_
        with_reducible refine (spec_l16Var.calls k gb139 a0 1 false t140 t141 t142 t143 w _ ?side1 ?side2 A7.out).mono ?_
        (case side1 => exact ⟨by (with_reducible repeat (first | refine blk_drewN ?_ _ | refine blk_drew ?_ | refine blk_alloc ?_ _)); exact BK139.out, GE139.out⟩)
        (case side2 => repeat (first | (with_reducible first | exact HB.out | apply below_alloc | apply pw_below_drewN | apply below_drew1 | refine below_set ?_ GE138.out | refine below_set ?_ GE139.out | refine below_set ?_ GE144.out) | exact HB.out))
        rintro e w73 ⟨rfl, hi, hb, hk⟩
        refine ⟨_, rfl, ?_⟩
        have n0_ := Aside0.mk (KeepBut.blk hk (g' := gb138) (o := .cells #[.int .i64 0, .int .i64 0, .int .i64 0, .string (⟨#[]⟩ : ByteArray), .string (⟨#[]⟩ : ByteArray), .int .i64 0] 56 (0, 0)) B7x0_ NB138_139.out (by simp))
        have n1_ := Aside0.mk (KeepBut.blk hk (g' := gb144) (o := .cells #[.int .i64 0, .int .i64 0, .int .i64 0, .string (⟨#[]⟩ : ByteArray), .string (⟨#[]⟩ : ByteArray), .int .i64 0] 56 (0, 0)) B7x13_ NB144_139.out (by simp))
        have n2_ := Aside0.mk (hb)
        have n3_ := Aside0.mk (hi)
        clear BK138
        clear BK144
        clear HB
        have BK138 := n0_
        have BK144 := n1_
        have HB := n2_
        have HI139 := n3_
        clear n0_ n1_ n2_ n3_
        (try clear hb)
        (try clear hb2)
        (try clear hk)
        (try clear hi)
        (try clear BK139)
        refine hK.out _ _ trivial (fun hHeld => ?_)
        clear hK K
        refine norm_ (a' := ?_) ?_ ?_
        rotate_left
        ·show Act.put _ (some 18) _ = _
         simp only [Act.put, List.setIfInBounds_toArray, List.set_cons_zero, List.set_cons_succ, i64_w, i32_w]
         rfl
        refine pu_ 5 19 HT_ ?_
        exact norm_ B7x19_ (hCont (gb144) _ ⟨B7x0_, B7x13_, GW144.out, GE144.out, NB139_144.out, NB144_139.out, NB138_144.out, NB144_138.out, B7x9_, B7x6_⟩)
      rintro gb144 w74 ⟨h0_, h1_, h2_, h3_, h4_, h5_, h6_, h7_, h8_, h9_⟩
      have n0_ : Aside0 (w74.heap[gb138]? = some (.cells #[.int .i64 0, .int .i64 0, .int .i64 0, .string (⟨#[]⟩ : ByteArray), .string (⟨#[]⟩ : ByteArray), .int .i64 0] 56 (0, 0))) := ⟨h0_⟩
      have n1_ : Aside0 (w74.heap[gb144]? = some (.cells #[.int .i64 0, .int .i64 0, .int .i64 0, .string (⟨#[]⟩ : ByteArray), .string (⟨#[]⟩ : ByteArray), .int .i64 0] 56 (0, 0))) := ⟨h1_⟩
      have n2_ : Aside0 (w.heap.size ≤ gb144) := ⟨h2_⟩
      have n3_ : Aside0 (w.heap.size ≤ gb144) := ⟨h3_⟩
      have n4_ : Aside0 (gb139 ≠ gb144) := ⟨h4_⟩
      have n5_ : Aside0 (gb144 ≠ gb139) := ⟨h5_⟩
      have n6_ : Aside0 (gb138 ≠ gb144) := ⟨h6_⟩
      have n7_ : Aside0 (gb144 ≠ gb138) := ⟨h7_⟩
      have n8_ : Aside0 (IsS108 w w74 gb139 t141 t142 t143) := ⟨h8_⟩
      have n9_ : Aside0 (Below w.heap.size w w74) := ⟨h9_⟩
      clear BK138
      clear BK139
      clear HB
      clear h0_ h1_ h2_ h3_ h4_ h5_ h6_ h7_ h8_ h9_
      have BK138 := n0_
      have BK144 := n1_
      have GW144 := n2_
      have GE144 := n3_
      have NB139_144 := n4_
      have NB144_139 := n5_
      have NB138_144 := n6_
      have NB144_138 := n7_
      have HI139 := n8_
      have HB := n9_
      clear n0_ n1_ n2_ n3_ n4_ n5_ n6_ n7_ n8_ n9_
      have hHeld := trivial
      refine norm_ (a' := ?_) ?_ ?_
      rotate_left
      ·simp only [putAll, Act.put, List.setIfInBounds_toArray, List.set_cons_zero, List.set_cons_succ]
       rfl
      refine one_ (i := 7) (N := none) #[true, true, true, true, true, true, true, true] rfl rfl (one_of HT_.out B7x20_) (by decide) (fun K hK => ?_)
      have hs75 : w74.cell? ⟨gb144, 0, none⟩ = some (.int .i64 0) := (blk_cell BK144.out 0).trans rfl
      have hfs75 := blk_frozen BK144.out 0
      have hns75_0 := NB138_144.out
      have hms75_0 := NB144_138.out
      have hs76 : w74.cell? ⟨gb144, 1, none⟩ = some (.int .i64 0) := (blk_cell BK144.out 1).trans rfl
      have hfs76 := blk_frozen BK144.out 1
      have hns76_0 := NB138_144.out
      have hms76_0 := NB144_138.out
      have hs77 : w74.cell? ⟨gb144, 2, none⟩ = some (.int .i64 0) := (blk_cell BK144.out 2).trans rfl
      have hfs77 := blk_frozen BK144.out 2
      have hns77_0 := NB138_144.out
      have hms77_0 := NB144_138.out
      have hs78 : w74.cell? ⟨gb144, 3, none⟩ = some (.string (⟨#[]⟩ : ByteArray)) := (blk_cell BK144.out 3).trans rfl
      have hfs78 := blk_frozen BK144.out 3
      have hns78_0 := NB138_144.out
      have hms78_0 := NB144_138.out
      have hs79 : w74.cell? ⟨gb144, 4, none⟩ = some (.string (⟨#[]⟩ : ByteArray)) := (blk_cell BK144.out 4).trans rfl
      have hfs79 := blk_frozen BK144.out 4
      have hns79_0 := NB138_144.out
      have hms79_0 := NB144_138.out
      have hs80 : w74.cell? ⟨gb144, 5, none⟩ = some (.int .i64 0) := (blk_cell BK144.out 5).trans rfl
      have hfs80 := blk_frozen BK144.out 5
      have hns80_0 := NB138_144.out
      have hms80_0 := NB144_138.out
      refine skip_ (w1 := ?_) (by rfl) rfl ?_ ?_
      rotate_left
      ·go_simp
       rfl
      refine hK.out _ _ trivial (fun hHeld => ?_)
      clear hK K
      refine done_ (done_of HT_.out B7x20_) ?_
      try go_wp2_with (first | ((with_reducible refine gate_callee (f := 70) rfl ?_); refine goesL_ (some 21) rfl rfl Try.func70 B7x20_ rfl #[.pointer (some ⟨gb139, 0, none⟩)] rfl B7x4_ ?_; (with_reducible refine (spec_l16Var.calls k gb139 t141 t142 t143 t145 t146 t147 t148 w _ ?side1 ?side2 A8.out).mono ?_); (case side1 => repeat (first | (with_reducible first | exact HI139.out | apply IsS108.alloc | apply IsS108.drewN | apply IsS108.drew | apply IsS108.set_0 | apply IsS108.set_1 | apply IsS108.set_2 | refine IsS108.far ?_ NB139_138.out _ | refine IsS108.far ?_ NB139_144.out _) | exact HI139.out)); (case side2 => repeat (first | (with_reducible first | exact HB.out | apply below_alloc | apply pw_below_drewN | apply below_drew1 | refine below_set ?_ (IsS108.ge HI139.out) | refine below_set ?_ GE138.out | refine below_set ?_ GE144.out) | exact HB.out)); rintro e w81 ⟨rfl, hi, hb, hk⟩; refine ⟨_, rfl, ?_⟩; have n0_ := Aside0.mk (KeepBut.blk hk (g' := gb138) (o := .cells #[.int .i64 0, .int .i64 0, .int .i64 0, .string (⟨#[]⟩ : ByteArray), .string (⟨#[]⟩ : ByteArray), .int .i64 0] 56 (0, 0)) B7x5_ NB138_139.out (by simp)); have n1_ := Aside0.mk (KeepBut.blk hk (g' := gb144) (o := .cells #[.int .i64 (wrap64 (bt a0 0)), .int .i64 t140, .int .i64 0, .string (⟨#[]⟩ : ByteArray), .string (⟨#[]⟩ : ByteArray), .int .i64 0] 56 (0, 0)) B7x1_ NB144_139.out (by simp)); have n2_ := Aside0.mk (hb); have n3_ := Aside0.mk (hi); clear BK138; clear BK144; clear HB; clear HI139; have BK138 := n0_; have BK144 := n1_; have HB := n2_; have HI139 := n3_; clear n0_ n1_ n2_ n3_; (try clear hb); (try clear hb2); (try clear hk); (try clear hi); have hnb82 := NB144_138.out; have hnc82 := NB138_144.out; have hnb83 := NB144_139.out; have hnc83 := NB139_144.out; obtain ⟨hcz84_0, hcz84_1, hcz84_2, hcz84_3, hcz84_4, hcz84_5⟩ := cl6 BK144.out; obtain ⟨hfz84_0, hfz84_1, hfz84_2, hfz84_3, hfz84_4, hfz84_5⟩ := fr6 BK144.out) | ((with_reducible refine gate_callee (f := 71) rfl ?_); refine goesL_ (some 24) rfl rfl Try.func71 B7x20_ rfl #[.pointer (some ⟨gb139, 0, none⟩)] rfl B7x4_ ?_; (with_reducible refine (spec_l16ReadShort.calls k gb139 t146 t147 t148 t149 t150 t151 t152 w _ ?side1 ?side2 A9.out).mono ?_); (case side1 => repeat (first | (with_reducible first | exact HI139.out | apply IsS108.alloc | apply IsS108.drewN | apply IsS108.drew | apply IsS108.set_0 | apply IsS108.set_1 | apply IsS108.set_2 | refine IsS108.far ?_ NB139_138.out _ | refine IsS108.far ?_ NB139_144.out _) | exact HI139.out)); (case side2 => repeat (first | (with_reducible first | exact HB.out | apply below_alloc | apply pw_below_drewN | apply below_drew1 | refine below_set ?_ (IsS108.ge HI139.out) | refine below_set ?_ GE138.out | refine below_set ?_ GE144.out) | exact HB.out)); rintro e w85 ⟨rfl, hi, hb, hk⟩; refine ⟨_, rfl, ?_⟩; have n0_ := Aside0.mk (KeepBut.blk hk (g' := gb138) (o := .cells #[.int .i64 0, .int .i64 0, .int .i64 0, .string (⟨#[]⟩ : ByteArray), .string (⟨#[]⟩ : ByteArray), .int .i64 0] 56 (0, 0)) B7x3_ NB138_139.out (by simp)); have n1_ := Aside0.mk (KeepBut.blk hk (g' := gb144) (o := .cells #[.int .i64 (wrap64 (bt a0 0)), .int .i64 t140, .int .i64 t145, .string (⟨#[]⟩ : ByteArray), .string (⟨#[]⟩ : ByteArray), .int .i64 0] 56 (0, 0)) B7x15_ NB144_139.out (by simp)); have n2_ := Aside0.mk (hb); have n3_ := Aside0.mk (hi); clear BK138; clear BK144; clear HB; clear HI139; have BK138 := n0_; have BK144 := n1_; have HB := n2_; have HI139 := n3_; clear n0_ n1_ n2_ n3_; (try clear hb); (try clear hb2); (try clear hk); (try clear hi); obtain ⟨hcz86_0, hcz86_1, hcz86_2, hcz86_3, hcz86_4, hcz86_5⟩ := cl6 BK144.out; obtain ⟨hfz86_0, hfz86_1, hfz86_2, hfz86_3, hfz86_4, hfz86_5⟩ := fr6 BK144.out) | ((with_reducible refine gate_callee (f := 71) rfl ?_); refine goesL_ (some 27) rfl rfl Try.func71 B7x20_ rfl #[.pointer (some ⟨gb139, 0, none⟩)] rfl B7x4_ ?_; (with_reducible refine (spec_l16ReadShort.calls k gb139 t150 t151 t152 t153 t154 t155 t156 w _ ?side1 ?side2 A10.out).mono ?_); (case side1 => repeat (first | (with_reducible first | exact HI139.out | apply IsS108.alloc | apply IsS108.drewN | apply IsS108.drew | apply IsS108.set_0 | apply IsS108.set_1 | apply IsS108.set_2 | refine IsS108.far ?_ NB139_138.out _ | refine IsS108.far ?_ NB139_144.out _) | exact HI139.out)); (case side2 => repeat (first | (with_reducible first | exact HB.out | apply below_alloc | apply pw_below_drewN | apply below_drew1 | refine below_set ?_ (IsS108.ge HI139.out) | refine below_set ?_ GE138.out | refine below_set ?_ GE144.out) | exact HB.out)); rintro e w87 ⟨rfl, hi, hb, hk⟩; refine ⟨_, rfl, ?_⟩; have n0_ := Aside0.mk (KeepBut.blk hk (g' := gb138) (o := .cells #[.int .i64 0, .int .i64 0, .int .i64 0, .string (⟨#[]⟩ : ByteArray), .string (⟨#[]⟩ : ByteArray), .int .i64 0] 56 (0, 0)) B7x3_ NB138_139.out (by simp)); have n1_ := Aside0.mk (KeepBut.blk hk (g' := gb144) (o := .cells #[.int .i64 (wrap64 (bt a0 0)), .int .i64 t140, .int .i64 t145, .string t149, .string (⟨#[]⟩ : ByteArray), .int .i64 0] 56 (0, 0)) B7x14_ NB144_139.out (by simp)); have n2_ := Aside0.mk (hb); have n3_ := Aside0.mk (hi); clear BK138; clear BK144; clear HB; clear HI139; have BK138 := n0_; have BK144 := n1_; have HB := n2_; have HI139 := n3_; clear n0_ n1_ n2_ n3_; (try clear hb); (try clear hb2); (try clear hk); (try clear hi); obtain ⟨hcz88_0, hcz88_1, hcz88_2, hcz88_3, hcz88_4, hcz88_5⟩ := cl6 BK144.out; obtain ⟨hfz88_0, hfz88_1, hfz88_2, hfz88_3, hfz88_4, hfz88_5⟩ := fr6 BK144.out) | ((with_reducible refine gate_callee (f := 70) rfl ?_); refine goesL_ (some 30) rfl rfl Try.func70 B7x20_ rfl #[.pointer (some ⟨gb139, 0, none⟩)] rfl B7x4_ ?_; (with_reducible refine (spec_l16Var.calls k gb139 t154 t155 t156 t157 t158 t159 false w _ ?side1 ?side2 A11.out).mono ?_); (case side1 => repeat (first | (with_reducible first | exact HI139.out | apply IsS108.alloc | apply IsS108.drewN | apply IsS108.drew | apply IsS108.set_0 | apply IsS108.set_1 | apply IsS108.set_2 | refine IsS108.far ?_ NB139_138.out _ | refine IsS108.far ?_ NB139_144.out _) | exact HI139.out)); (case side2 => repeat (first | (with_reducible first | exact HB.out | apply below_alloc | apply pw_below_drewN | apply below_drew1 | refine below_set ?_ (IsS108.ge HI139.out) | refine below_set ?_ GE138.out | refine below_set ?_ GE144.out) | exact HB.out)); rintro e w89 ⟨rfl, hi, hb, hk⟩; refine ⟨_, rfl, ?_⟩; have n0_ := Aside0.mk (KeepBut.blk hk (g' := gb138) (o := .cells #[.int .i64 0, .int .i64 0, .int .i64 0, .string (⟨#[]⟩ : ByteArray), .string (⟨#[]⟩ : ByteArray), .int .i64 0] 56 (0, 0)) B7x3_ NB138_139.out (by simp)); have n1_ := Aside0.mk (KeepBut.blk hk (g' := gb144) (o := .cells #[.int .i64 (wrap64 (bt a0 0)), .int .i64 t140, .int .i64 t145, .string t149, .string t153, .int .i64 0] 56 (0, 0)) B7x16_ NB144_139.out (by simp)); have n2_ := Aside0.mk (hb); have n3_ := Aside0.mk (hi); clear BK138; clear BK144; clear HB; clear HI139; have BK138 := n0_; have BK144 := n1_; have HB := n2_; have HI139 := n3_; clear n0_ n1_ n2_ n3_; (try clear hb); (try clear hb2); (try clear hk); (try clear hi); obtain ⟨hcz90_0, hcz90_1, hcz90_2, hcz90_3, hcz90_4, hcz90_5⟩ := cl6 BK144.out; obtain ⟨hfz90_0, hfz90_1, hfz90_2, hfz90_3, hfz90_4, hfz90_5⟩ := fr6 BK144.out) | ((with_reducible refine gate_callee (f := 72) rfl ?_); refine goesL_ (some 34) rfl rfl Try.func72 B7x20_ rfl #[.agg #[.int .i64 (wrap64 (bt a0 0)), .int .i64 t140, .int .i64 t145, .string t149, .string t153, .int .i64 t157]] rfl B7x4_ ?_; (with_reducible refine (spec_CommandText.calls k (wrap64 (bt a0 0)) t140 t145 t149 t153 t157 t161 true _ A12.out).mono ?_); rintro e w91 ⟨rfl, hb⟩; refine ⟨_, rfl, ?_⟩; have n0_ := Aside0.mk (blk_below (g := gb138) (o := .cells #[.int .i64 0, .int .i64 0, .int .i64 0, .string (⟨#[]⟩ : ByteArray), .string (⟨#[]⟩ : ByteArray), .int .i64 0] 56 (0, 0)) B7x3_ hb); have n1_ := Aside0.mk (IsS108.below (show IsS108 w (w89.setCell ⟨gb144, 5, none⟩ (.int .i64 t157)) gb139 t158 t159 false from by repeat (first | (with_reducible first | exact HI139.out | apply IsS108.alloc | apply IsS108.drewN | apply IsS108.drew | apply IsS108.set_0 | apply IsS108.set_1 | apply IsS108.set_2 | refine IsS108.far ?_ NB139_138.out _ | refine IsS108.far ?_ NB139_144.out _) | exact HI139.out)) hb); have n2_ := Aside0.mk (blk_below (g := gb144) (o := .cells #[.int .i64 (wrap64 (bt a0 0)), .int .i64 t140, .int .i64 t145, .string t149, .string t153, .int .i64 t157] 56 (0, 0)) B7x17_ hb); have n3_ := Aside0.mk (below_step B7x6_ hb); clear BK138; clear HI139; clear BK144; clear HB; have BK138 := n0_; have HI139 := n1_; have BK144 := n2_; have HB := n3_; clear n0_ n1_ n2_ n3_; (try clear hb); (try clear hb2); (try clear hk); (try clear hi); obtain ⟨HGz92, hgz92⟩ := HI139.out; have hcz92_0 := cellS108_0 HGz92; have hcz92_1 := cellS108_1 HGz92; have hcz92_2 := cellS108_2 HGz92; obtain ⟨hfz92_0, hfz92_1, hfz92_2⟩ := fr3 HGz92; clear HGz92 hgz92; have hnb93 := NB138_139.out; have hnc93 := NB139_138.out; obtain ⟨hcz94_0, hcz94_1, hcz94_2, hcz94_3, hcz94_4, hcz94_5⟩ := cl6 BK138.out; obtain ⟨hfz94_0, hfz94_1, hfz94_2, hfz94_3, hfz94_4, hfz94_5⟩ := fr6 BK138.out))
      refine bodyPost_ret (results_ct rfl _ _ gb138 56 #[.int .i64 0, .int .i64 0, .int .i64 0, .string (⟨#[]⟩ : ByteArray), .string (⟨#[]⟩ : ByteArray), .int .i64 0] (0, 0) _ rfl B7x2_ Try.underlying56 rfl B7x20_) rfl ?_
      exact ⟨by first | rfl | (simp [errW_none, errW_some] <;> rfl) | (simp [*, errW_none, errW_some] <;> rfl), by repeat (first | (with_reducible first | exact HB.out | apply below_alloc | apply pw_below_drewN | apply below_drew1 | refine below_set ?_ (IsS108.ge HI139.out) | refine below_set ?_ GE138.out | refine below_set ?_ GE144.out) | exact HB.out)⟩
    ·replace c40 := Bool.eq_false_iff.mpr c40
     subst c40
     rw [if_neg (show ¬ (false = true) by decide)] at H
     simp only [Option.some.injEq, Prod.mk.injEq] at H
     obtain ⟨rfl, rfl, rfl, rfl, rfl, rfl, rfl⟩ := H
     go_enter Try.func34, Try.ntmps34
     try go_wp2_with (first | ((with_reducible refine gate_dst (N := 2) rfl ?_); refine box_event ?hg (N := 2) ?hd (cs := #[.int .i64 0, .int .i64 0, .int .i64 0, .string (⟨#[]⟩ : ByteArray), .string (⟨#[]⟩ : ByteArray), .int .i64 0]) (t := 56) ?hr ?_; (case hd => rfl); (case hg => rfl); (case hr => first | (go_simp; done) | (go_simp; rfl)); intro gb138 hg w95 hbox hb; have n0_ := Aside0.mk (below_step B7x10_ hb); have n1_ := Aside0.mk (hbox); have n2_ := Aside0.mk ((by rw [hg]; exact (below_size B7x10_) : w.heap.size ≤ gb138)); have n3_ := Aside0.mk ((by rw [hg]; exact (below_size B7x10_) : w.heap.size ≤ gb138)); clear HB; have HB := n0_; have BK138 := n1_; have GW138 := n2_; have GE138 := n3_; clear n0_ n1_ n2_ n3_; clear hb hbox hg) | ((with_reducible refine gate_dst (N := 13) rfl ?_); refine box_event ?hg (N := 13) ?hd (cs := #[.string a0, .int .i64 1, .bool false]) (t := 108) ?hr ?_; (case hd => rfl); (case hg => rfl); (case hr => first | (go_simp; done) | (go_simp; rfl)); intro gb139 hg w96 hbox hb; have n0_ := Aside0.mk (blk_below (g := gb138) (o := .cells #[.int .i64 0, .int .i64 0, .int .i64 0, .string (⟨#[]⟩ : ByteArray), .string (⟨#[]⟩ : ByteArray), .int .i64 0] 56 (0, 0)) B7x0_ hb); have n1_ := Aside0.mk (below_step B7x11_ hb); have n2_ := Aside0.mk (hbox); have n3_ := Aside0.mk ((by rw [hg]; exact (below_size B7x11_) : w.heap.size ≤ gb139)); have n4_ := Aside0.mk ((by rw [hg]; exact (below_size B7x11_) : w.heap.size ≤ gb139)); have n5_ := Aside0.mk ((by rw [hg]; exact Nat.ne_of_lt (blk_lt (g := gb138) (o := .cells #[.int .i64 0, .int .i64 0, .int .i64 0, .string (⟨#[]⟩ : ByteArray), .string (⟨#[]⟩ : ByteArray), .int .i64 0] 56 (0, 0)) B7x0_) : gb138 ≠ gb139)); have n6_ := Aside0.mk ((by rw [hg]; exact Nat.ne_of_gt (blk_lt (g := gb138) (o := .cells #[.int .i64 0, .int .i64 0, .int .i64 0, .string (⟨#[]⟩ : ByteArray), .string (⟨#[]⟩ : ByteArray), .int .i64 0] 56 (0, 0)) B7x0_) : gb139 ≠ gb138)); clear BK138; clear HB; have BK138 := n0_; have HB := n1_; have BK139 := n2_; have GW139 := n3_; have GE139 := n4_; have NB138_139 := n5_; have NB139_138 := n6_; clear n0_ n1_ n2_ n3_ n4_ n5_ n6_; clear hb hbox hg))
     have n0_ := Aside0.mk (blk_drew BK138.out)
     have n1_ := Aside0.mk (blk_drew BK139.out)
     have n2_ := Aside0.mk (below_drew1 HB.out)
     clear BK138
     clear BK139
     clear HB
     have BK138 := n0_
     have BK139 := n1_
     have HB := n2_
     clear n0_ n1_ n2_
     have p6 : 0 ≤ (0 : Int) := (by omega)
     have q6 : 0 < a0.size := (by have : (0 : Int) < (a0.size : Int) := of_decide_eq_true B7x21_; omega)
     have hx6 : ∀ h : 0 < a0.size, ((a0[0]'h).toNat : Int) = bt a0 0 := bt_at a0 0
     clear p6
     have qi6 : (0 < (a0.size : Int)) = True := eq_true (of_decide_eq_true B7x21_)
     replace q6 := eq_true q6
     refine start_ (n := 8) (S := fun w' => True) (ds := []) #[false, false, false, false, false, false, false, false] B7x20_ rfl rfl trivial (fun hHeld => ?_); refine with_tabW spec_ReadCommand.tab4 spec_ReadCommand.bits4 (fun HT_ HW_ => ?_)
     generalize w96.drew = w97 at BK138 BK139 HB hHeld ⊢
     refine pu_ 0 14 HT_ ?_
     refine pu_ 3 17 HT_ ?_
     refine take_ (i := 1) (N := some 15) (v := ?_) (a' := ?_) #[true, true, false, true, false, false, false, false] rfl rfl (take_ofW HT_.out HW_.out B7x20_) (fun _ _ _ h => h) (Or.inl ⟨by rfl, ?_⟩) hHeld ?_ ?_
     rotate_left
     ·intro w' _
      go_simp
      with_reducible rfl
     rotate_left
     ·simp only [Act.put, List.setIfInBounds_toArray, List.set_cons_zero, List.set_cons_succ, i64_w, i32_w]
      rfl
     refine pu_ 2 16 HT_ ?_
     refine join_ (σ := Nat) 1 #[true, true, true, true, true, true, true, false] (fun s_ => [(18, .int .i64 t140), (5, .pointer (some ⟨s_, 0, none⟩)), (19, .agg #[.int .i64 (wrap64 (bt a0 0)), .int .i64 t140, .int .i64 0, .string (⟨#[]⟩ : ByteArray), .string (⟨#[]⟩ : ByteArray), .int .i64 0])]) (fun s_ w' => (w'.heap[gb138]? = some (.cells #[.int .i64 0, .int .i64 0, .int .i64 0, .string (⟨#[]⟩ : ByteArray), .string (⟨#[]⟩ : ByteArray), .int .i64 0] 56 (0, 0))) ∧ (w'.heap[s_]? = some (.cells #[.int .i64 0, .int .i64 0, .int .i64 0, .string (⟨#[]⟩ : ByteArray), .string (⟨#[]⟩ : ByteArray), .int .i64 0] 56 (0, 0))) ∧ (w.heap.size ≤ s_) ∧ (w.heap.size ≤ s_) ∧ (gb139 ≠ s_) ∧ (s_ ≠ gb139) ∧ (gb138 ≠ s_) ∧ (s_ ≠ gb138) ∧ (IsS108 w w' gb139 t141 t142 t143) ∧ (Below w.heap.size w w')) ?_ ?_
     rotate_left
     ·intro hCont
      refine two_ (i := 4) (j := 6) (Ni := some 18) (Nj := some 5) #[true, true, true, true, true, false, false, false] #[true, true, true, true, false, false, true, false] rfl rfl rfl rfl (two_of HT_.out B7x20_) (by decide) (by decide) (fun K hK => ?_) (fun K hK => ?_)
      ·skip
       refine goes_ Try.func70 B7x20_ rfl #[.pointer (some ⟨gb139, 0, none⟩)] (by rfl) rfl rfl B7x4_ ?_
       with_reducible refine (spec_l16Var.calls k gb139 a0 1 false t140 t141 t142 t143 w _ ?side1 ?side2 A7.out).mono ?_
       (case side1 => exact ⟨by (with_reducible repeat (first | refine blk_drewN ?_ _ | refine blk_drew ?_ | refine blk_alloc ?_ _)); exact BK139.out, GE139.out⟩)
       (case side2 => repeat (first | (with_reducible first | exact HB.out | apply below_alloc | apply pw_below_drewN | apply below_drew1 | refine below_set ?_ GE138.out | refine below_set ?_ GE139.out) | exact HB.out))
       rintro e w98 ⟨rfl, hi, hb, hk⟩
       refine ⟨_, rfl, ?_⟩
       have n0_ := Aside0.mk (KeepBut.blk hk (g' := gb138) (o := .cells #[.int .i64 0, .int .i64 0, .int .i64 0, .string (⟨#[]⟩ : ByteArray), .string (⟨#[]⟩ : ByteArray), .int .i64 0] 56 (0, 0)) B7x0_ NB138_139.out (by simp))
       have n1_ := Aside0.mk (hb)
       have n2_ := Aside0.mk (hi)
       clear BK138
       clear HB
       have BK138 := n0_
       have HB := n1_
       have HI139 := n2_
       clear n0_ n1_ n2_
       (try clear hb)
       (try clear hb2)
       (try clear hk)
       (try clear hi)
       (try clear BK139)
       refine hK.out _ _ trivial (fun hHeld => ?_)
       clear hK K
       refine norm_ (a' := ?_) ?_ ?_
       rotate_left
       ·show Act.put _ (some 18) _ = _
        simp only [Act.put, List.setIfInBounds_toArray, List.set_cons_zero, List.set_cons_succ, i64_w, i32_w]
        rfl
       refine pu_ 5 19 HT_ ?_
       refine one_ (i := 6) (N := some 5) #[true, true, true, true, true, true, true, false] rfl rfl (one_of HT_.out B7x20_) (by decide) (fun K hK => ?_)
       refine box_step ?hg (N := 5) ?hd (cs := #[.int .i64 0, .int .i64 0, .int .i64 0, .string (⟨#[]⟩ : ByteArray), .string (⟨#[]⟩ : ByteArray), .int .i64 0]) (t := 56) ?hr ?_; (case hd => rfl); (case hg => rfl); (case hr => first | (go_simp; done) | (go_simp; rfl))
       intro gb144 hg w99 hbox hb
       have n0_ := Aside0.mk (blk_below (g := gb138) (o := .cells #[.int .i64 0, .int .i64 0, .int .i64 0, .string (⟨#[]⟩ : ByteArray), .string (⟨#[]⟩ : ByteArray), .int .i64 0] 56 (0, 0)) B7x0_ hb)
       have n1_ := Aside0.mk (IsS108.below B7x18_ hb)
       have n2_ := Aside0.mk (below_step B7x7_ hb)
       have n3_ := Aside0.mk (hbox)
       have n4_ := Aside0.mk ((by rw [hg]; exact (below_size B7x7_) : w.heap.size ≤ gb144))
       have n5_ := Aside0.mk ((by rw [hg]; exact (below_size B7x7_) : w.heap.size ≤ gb144))
       have n6_ := Aside0.mk ((by rw [hg]; exact Nat.ne_of_lt (blk_lt (g := gb138) (o := .cells #[.int .i64 0, .int .i64 0, .int .i64 0, .string (⟨#[]⟩ : ByteArray), .string (⟨#[]⟩ : ByteArray), .int .i64 0] 56 (0, 0)) B7x0_) : gb138 ≠ gb144))
       have n7_ := Aside0.mk ((by rw [hg]; exact Nat.ne_of_gt (blk_lt (g := gb138) (o := .cells #[.int .i64 0, .int .i64 0, .int .i64 0, .string (⟨#[]⟩ : ByteArray), .string (⟨#[]⟩ : ByteArray), .int .i64 0] 56 (0, 0)) B7x0_) : gb144 ≠ gb138))
       have n8_ := Aside0.mk ((by rw [hg]; exact Nat.ne_of_lt (IsS108.lt (show IsS108 w _ gb139 t141 t142 t143 from by repeat (first | (with_reducible first | exact HI139.out | apply IsS108.alloc | apply IsS108.drewN | apply IsS108.drew | apply IsS108.set_0 | apply IsS108.set_1 | apply IsS108.set_2 | refine IsS108.far ?_ NB139_138.out _) | exact HI139.out))) : gb139 ≠ gb144))
       have n9_ := Aside0.mk ((by rw [hg]; exact Nat.ne_of_gt (IsS108.lt (show IsS108 w _ gb139 t141 t142 t143 from by repeat (first | (with_reducible first | exact HI139.out | apply IsS108.alloc | apply IsS108.drewN | apply IsS108.drew | apply IsS108.set_0 | apply IsS108.set_1 | apply IsS108.set_2 | refine IsS108.far ?_ NB139_138.out _) | exact HI139.out))) : gb144 ≠ gb139))
       clear BK138
       clear HI139
       clear HB
       have BK138 := n0_
       have HI139 := n1_
       have HB := n2_
       have BK144 := n3_
       have GW144 := n4_
       have GE144 := n5_
       have NB138_144 := n6_
       have NB144_138 := n7_
       have NB139_144 := n8_
       have NB144_139 := n9_
       clear n0_ n1_ n2_ n3_ n4_ n5_ n6_ n7_ n8_ n9_
       clear hb hbox hg
       refine hK.out _ _ trivial (fun hHeld => ?_)
       clear hK K
       refine norm_ (a' := ?_) ?_ ?_
       rotate_left
       ·show Act.put _ (some 5) _ = _
        simp only [Act.put, List.setIfInBounds_toArray, List.set_cons_zero, List.set_cons_succ, i64_w, i32_w]
        rfl
       exact norm_ B7x19_ (hCont (gb144) _ ⟨B7x0_, B7x13_, GW144.out, GE144.out, NB139_144.out, NB144_139.out, NB138_144.out, NB144_138.out, B7x9_, B7x6_⟩)
      ·skip
       refine box_step ?hg (N := 5) ?hd (cs := #[.int .i64 0, .int .i64 0, .int .i64 0, .string (⟨#[]⟩ : ByteArray), .string (⟨#[]⟩ : ByteArray), .int .i64 0]) (t := 56) ?hr ?_; (case hd => rfl); (case hg => rfl); (case hr => first | (go_simp; done) | (go_simp; rfl))
       intro gb144 hg w98 hbox hb
       have n0_ := Aside0.mk (blk_below (g := gb138) (o := .cells #[.int .i64 0, .int .i64 0, .int .i64 0, .string (⟨#[]⟩ : ByteArray), .string (⟨#[]⟩ : ByteArray), .int .i64 0] 56 (0, 0)) B7x0_ hb)
       have n1_ := Aside0.mk (blk_below (g := gb139) (o := .cells #[.string a0, .int .i64 1, .bool false] 108 (0, 0)) B7x12_ hb)
       have n2_ := Aside0.mk (below_step B7x8_ hb)
       have n3_ := Aside0.mk (hbox)
       have n4_ := Aside0.mk ((by rw [hg]; exact (below_size B7x8_) : w.heap.size ≤ gb144))
       have n5_ := Aside0.mk ((by rw [hg]; exact (below_size B7x8_) : w.heap.size ≤ gb144))
       have n6_ := Aside0.mk ((by rw [hg]; exact Nat.ne_of_lt (blk_lt (g := gb138) (o := .cells #[.int .i64 0, .int .i64 0, .int .i64 0, .string (⟨#[]⟩ : ByteArray), .string (⟨#[]⟩ : ByteArray), .int .i64 0] 56 (0, 0)) B7x0_) : gb138 ≠ gb144))
       have n7_ := Aside0.mk ((by rw [hg]; exact Nat.ne_of_gt (blk_lt (g := gb138) (o := .cells #[.int .i64 0, .int .i64 0, .int .i64 0, .string (⟨#[]⟩ : ByteArray), .string (⟨#[]⟩ : ByteArray), .int .i64 0] 56 (0, 0)) B7x0_) : gb144 ≠ gb138))
       have n8_ := Aside0.mk ((by rw [hg]; exact Nat.ne_of_lt (blk_lt (g := gb139) (o := .cells #[.string a0, .int .i64 1, .bool false] 108 (0, 0)) B7x12_) : gb139 ≠ gb144))
       have n9_ := Aside0.mk ((by rw [hg]; exact Nat.ne_of_gt (blk_lt (g := gb139) (o := .cells #[.string a0, .int .i64 1, .bool false] 108 (0, 0)) B7x12_) : gb144 ≠ gb139))
       clear BK138
       clear BK139
       clear HB
       have BK138 := n0_
       have BK139 := n1_
       have HB := n2_
       have BK144 := n3_
       have GW144 := n4_
       have GE144 := n5_
       have NB138_144 := n6_
       have NB144_138 := n7_
       have NB139_144 := n8_
       have NB144_139 := n9_
       clear n0_ n1_ n2_ n3_ n4_ n5_ n6_ n7_ n8_ n9_
       clear hb hbox hg
       refine hK.out _ _ trivial (fun hHeld => ?_)
       clear hK K
       refine norm_ (a' := ?_) ?_ ?_
       rotate_left
       ·show Act.put _ (some 5) _ = _
        simp only [Act.put, List.setIfInBounds_toArray, List.set_cons_zero, List.set_cons_succ, i64_w, i32_w]
        rfl
       refine one_ (i := 4) (N := some 18) #[true, true, true, true, true, false, true, false] rfl rfl (one_of HT_.out B7x20_) (by decide) (fun K hK => ?_)
       refine goes_ Try.func70 B7x20_ rfl #[.pointer (some ⟨gb139, 0, none⟩)] (by rfl) rfl rfl B7x4_ ?_
       with_reducible refine (spec_l16Var.calls k gb139 a0 1 false t140 t141 t142 t143 w _ ?side1 ?side2 A7.out).mono ?_
       (case side1 => exact ⟨by (with_reducible repeat (first | refine blk_drewN ?_ _ | refine blk_drew ?_ | refine blk_alloc ?_ _)); exact BK139.out, GE139.out⟩)
       (case side2 => repeat (first | (with_reducible first | exact HB.out | apply below_alloc | apply pw_below_drewN | apply below_drew1 | refine below_set ?_ GE138.out | refine below_set ?_ GE139.out | refine below_set ?_ GE144.out) | exact HB.out))
       rintro e w99 ⟨rfl, hi, hb, hk⟩
       refine ⟨_, rfl, ?_⟩
       have n0_ := Aside0.mk (KeepBut.blk hk (g' := gb138) (o := .cells #[.int .i64 0, .int .i64 0, .int .i64 0, .string (⟨#[]⟩ : ByteArray), .string (⟨#[]⟩ : ByteArray), .int .i64 0] 56 (0, 0)) B7x0_ NB138_139.out (by simp))
       have n1_ := Aside0.mk (KeepBut.blk hk (g' := gb144) (o := .cells #[.int .i64 0, .int .i64 0, .int .i64 0, .string (⟨#[]⟩ : ByteArray), .string (⟨#[]⟩ : ByteArray), .int .i64 0] 56 (0, 0)) B7x13_ NB144_139.out (by simp))
       have n2_ := Aside0.mk (hb)
       have n3_ := Aside0.mk (hi)
       clear BK138
       clear BK144
       clear HB
       have BK138 := n0_
       have BK144 := n1_
       have HB := n2_
       have HI139 := n3_
       clear n0_ n1_ n2_ n3_
       (try clear hb)
       (try clear hb2)
       (try clear hk)
       (try clear hi)
       (try clear BK139)
       refine hK.out _ _ trivial (fun hHeld => ?_)
       clear hK K
       refine norm_ (a' := ?_) ?_ ?_
       rotate_left
       ·show Act.put _ (some 18) _ = _
        simp only [Act.put, List.setIfInBounds_toArray, List.set_cons_zero, List.set_cons_succ, i64_w, i32_w]
        rfl
       refine pu_ 5 19 HT_ ?_
       exact norm_ B7x19_ (hCont (gb144) _ ⟨B7x0_, B7x13_, GW144.out, GE144.out, NB139_144.out, NB144_139.out, NB138_144.out, NB144_138.out, B7x9_, B7x6_⟩)
     rintro gb144 w100 ⟨h0_, h1_, h2_, h3_, h4_, h5_, h6_, h7_, h8_, h9_⟩
     have n0_ : Aside0 (w100.heap[gb138]? = some (.cells #[.int .i64 0, .int .i64 0, .int .i64 0, .string (⟨#[]⟩ : ByteArray), .string (⟨#[]⟩ : ByteArray), .int .i64 0] 56 (0, 0))) := ⟨h0_⟩
     have n1_ : Aside0 (w100.heap[gb144]? = some (.cells #[.int .i64 0, .int .i64 0, .int .i64 0, .string (⟨#[]⟩ : ByteArray), .string (⟨#[]⟩ : ByteArray), .int .i64 0] 56 (0, 0))) := ⟨h1_⟩
     have n2_ : Aside0 (w.heap.size ≤ gb144) := ⟨h2_⟩
     have n3_ : Aside0 (w.heap.size ≤ gb144) := ⟨h3_⟩
     have n4_ : Aside0 (gb139 ≠ gb144) := ⟨h4_⟩
     have n5_ : Aside0 (gb144 ≠ gb139) := ⟨h5_⟩
     have n6_ : Aside0 (gb138 ≠ gb144) := ⟨h6_⟩
     have n7_ : Aside0 (gb144 ≠ gb138) := ⟨h7_⟩
     have n8_ : Aside0 (IsS108 w w100 gb139 t141 t142 t143) := ⟨h8_⟩
     have n9_ : Aside0 (Below w.heap.size w w100) := ⟨h9_⟩
     clear BK138
     clear BK139
     clear HB
     clear h0_ h1_ h2_ h3_ h4_ h5_ h6_ h7_ h8_ h9_
     have BK138 := n0_
     have BK144 := n1_
     have GW144 := n2_
     have GE144 := n3_
     have NB139_144 := n4_
     have NB144_139 := n5_
     have NB138_144 := n6_
     have NB144_138 := n7_
     have HI139 := n8_
     have HB := n9_
     clear n0_ n1_ n2_ n3_ n4_ n5_ n6_ n7_ n8_ n9_
     have hHeld := trivial
     refine norm_ (a' := ?_) ?_ ?_
     rotate_left
     ·simp only [putAll, Act.put, List.setIfInBounds_toArray, List.set_cons_zero, List.set_cons_succ]
      rfl
     refine one_ (i := 7) (N := none) #[true, true, true, true, true, true, true, true] rfl rfl (one_of HT_.out B7x20_) (by decide) (fun K hK => ?_)
     have hs101 : w100.cell? ⟨gb144, 0, none⟩ = some (.int .i64 0) := (blk_cell BK144.out 0).trans rfl
     have hfs101 := blk_frozen BK144.out 0
     have hns101_0 := NB138_144.out
     have hms101_0 := NB144_138.out
     have hs102 : w100.cell? ⟨gb144, 1, none⟩ = some (.int .i64 0) := (blk_cell BK144.out 1).trans rfl
     have hfs102 := blk_frozen BK144.out 1
     have hns102_0 := NB138_144.out
     have hms102_0 := NB144_138.out
     have hs103 : w100.cell? ⟨gb144, 2, none⟩ = some (.int .i64 0) := (blk_cell BK144.out 2).trans rfl
     have hfs103 := blk_frozen BK144.out 2
     have hns103_0 := NB138_144.out
     have hms103_0 := NB144_138.out
     have hs104 : w100.cell? ⟨gb144, 3, none⟩ = some (.string (⟨#[]⟩ : ByteArray)) := (blk_cell BK144.out 3).trans rfl
     have hfs104 := blk_frozen BK144.out 3
     have hns104_0 := NB138_144.out
     have hms104_0 := NB144_138.out
     have hs105 : w100.cell? ⟨gb144, 4, none⟩ = some (.string (⟨#[]⟩ : ByteArray)) := (blk_cell BK144.out 4).trans rfl
     have hfs105 := blk_frozen BK144.out 4
     have hns105_0 := NB138_144.out
     have hms105_0 := NB144_138.out
     have hs106 : w100.cell? ⟨gb144, 5, none⟩ = some (.int .i64 0) := (blk_cell BK144.out 5).trans rfl
     have hfs106 := blk_frozen BK144.out 5
     have hns106_0 := NB138_144.out
     have hms106_0 := NB144_138.out
     refine skip_ (w1 := ?_) (by rfl) rfl ?_ ?_
     rotate_left
     ·go_simp
      rfl
     refine hK.out _ _ trivial (fun hHeld => ?_)
     clear hK K
     refine done_ (done_of HT_.out B7x20_) ?_
     try go_wp2_with (first | ((with_reducible refine gate_callee (f := 70) rfl ?_); refine goesL_ (some 21) rfl rfl Try.func70 B7x20_ rfl #[.pointer (some ⟨gb139, 0, none⟩)] rfl B7x4_ ?_; (with_reducible refine (spec_l16Var.calls k gb139 t141 t142 t143 t145 t146 t147 t148 w _ ?side1 ?side2 A8.out).mono ?_); (case side1 => repeat (first | (with_reducible first | exact HI139.out | apply IsS108.alloc | apply IsS108.drewN | apply IsS108.drew | apply IsS108.set_0 | apply IsS108.set_1 | apply IsS108.set_2 | refine IsS108.far ?_ NB139_138.out _ | refine IsS108.far ?_ NB139_144.out _) | exact HI139.out)); (case side2 => repeat (first | (with_reducible first | exact HB.out | apply below_alloc | apply pw_below_drewN | apply below_drew1 | refine below_set ?_ (IsS108.ge HI139.out) | refine below_set ?_ GE138.out | refine below_set ?_ GE144.out) | exact HB.out)); rintro e w107 ⟨rfl, hi, hb, hk⟩; refine ⟨_, rfl, ?_⟩; have n0_ := Aside0.mk (KeepBut.blk hk (g' := gb138) (o := .cells #[.int .i64 0, .int .i64 0, .int .i64 0, .string (⟨#[]⟩ : ByteArray), .string (⟨#[]⟩ : ByteArray), .int .i64 0] 56 (0, 0)) B7x5_ NB138_139.out (by simp)); have n1_ := Aside0.mk (KeepBut.blk hk (g' := gb144) (o := .cells #[.int .i64 (wrap64 (bt a0 0)), .int .i64 t140, .int .i64 0, .string (⟨#[]⟩ : ByteArray), .string (⟨#[]⟩ : ByteArray), .int .i64 0] 56 (0, 0)) B7x1_ NB144_139.out (by simp)); have n2_ := Aside0.mk (hb); have n3_ := Aside0.mk (hi); clear BK138; clear BK144; clear HB; clear HI139; have BK138 := n0_; have BK144 := n1_; have HB := n2_; have HI139 := n3_; clear n0_ n1_ n2_ n3_; (try clear hb); (try clear hb2); (try clear hk); (try clear hi); have hnb108 := NB144_138.out; have hnc108 := NB138_144.out; have hnb109 := NB144_139.out; have hnc109 := NB139_144.out; obtain ⟨hcz110_0, hcz110_1, hcz110_2, hcz110_3, hcz110_4, hcz110_5⟩ := cl6 BK144.out; obtain ⟨hfz110_0, hfz110_1, hfz110_2, hfz110_3, hfz110_4, hfz110_5⟩ := fr6 BK144.out) | ((with_reducible refine gate_callee (f := 71) rfl ?_); refine goesL_ (some 24) rfl rfl Try.func71 B7x20_ rfl #[.pointer (some ⟨gb139, 0, none⟩)] rfl B7x4_ ?_; (with_reducible refine (spec_l16ReadShort.calls k gb139 t146 t147 t148 t149 t150 t151 t152 w _ ?side1 ?side2 A9.out).mono ?_); (case side1 => repeat (first | (with_reducible first | exact HI139.out | apply IsS108.alloc | apply IsS108.drewN | apply IsS108.drew | apply IsS108.set_0 | apply IsS108.set_1 | apply IsS108.set_2 | refine IsS108.far ?_ NB139_138.out _ | refine IsS108.far ?_ NB139_144.out _) | exact HI139.out)); (case side2 => repeat (first | (with_reducible first | exact HB.out | apply below_alloc | apply pw_below_drewN | apply below_drew1 | refine below_set ?_ (IsS108.ge HI139.out) | refine below_set ?_ GE138.out | refine below_set ?_ GE144.out) | exact HB.out)); rintro e w111 ⟨rfl, hi, hb, hk⟩; refine ⟨_, rfl, ?_⟩; have n0_ := Aside0.mk (KeepBut.blk hk (g' := gb138) (o := .cells #[.int .i64 0, .int .i64 0, .int .i64 0, .string (⟨#[]⟩ : ByteArray), .string (⟨#[]⟩ : ByteArray), .int .i64 0] 56 (0, 0)) B7x3_ NB138_139.out (by simp)); have n1_ := Aside0.mk (KeepBut.blk hk (g' := gb144) (o := .cells #[.int .i64 (wrap64 (bt a0 0)), .int .i64 t140, .int .i64 t145, .string (⟨#[]⟩ : ByteArray), .string (⟨#[]⟩ : ByteArray), .int .i64 0] 56 (0, 0)) B7x15_ NB144_139.out (by simp)); have n2_ := Aside0.mk (hb); have n3_ := Aside0.mk (hi); clear BK138; clear BK144; clear HB; clear HI139; have BK138 := n0_; have BK144 := n1_; have HB := n2_; have HI139 := n3_; clear n0_ n1_ n2_ n3_; (try clear hb); (try clear hb2); (try clear hk); (try clear hi); obtain ⟨hcz112_0, hcz112_1, hcz112_2, hcz112_3, hcz112_4, hcz112_5⟩ := cl6 BK144.out; obtain ⟨hfz112_0, hfz112_1, hfz112_2, hfz112_3, hfz112_4, hfz112_5⟩ := fr6 BK144.out) | ((with_reducible refine gate_callee (f := 71) rfl ?_); refine goesL_ (some 27) rfl rfl Try.func71 B7x20_ rfl #[.pointer (some ⟨gb139, 0, none⟩)] rfl B7x4_ ?_; (with_reducible refine (spec_l16ReadShort.calls k gb139 t150 t151 t152 t153 t154 t155 t156 w _ ?side1 ?side2 A10.out).mono ?_); (case side1 => repeat (first | (with_reducible first | exact HI139.out | apply IsS108.alloc | apply IsS108.drewN | apply IsS108.drew | apply IsS108.set_0 | apply IsS108.set_1 | apply IsS108.set_2 | refine IsS108.far ?_ NB139_138.out _ | refine IsS108.far ?_ NB139_144.out _) | exact HI139.out)); (case side2 => repeat (first | (with_reducible first | exact HB.out | apply below_alloc | apply pw_below_drewN | apply below_drew1 | refine below_set ?_ (IsS108.ge HI139.out) | refine below_set ?_ GE138.out | refine below_set ?_ GE144.out) | exact HB.out)); rintro e w113 ⟨rfl, hi, hb, hk⟩; refine ⟨_, rfl, ?_⟩; have n0_ := Aside0.mk (KeepBut.blk hk (g' := gb138) (o := .cells #[.int .i64 0, .int .i64 0, .int .i64 0, .string (⟨#[]⟩ : ByteArray), .string (⟨#[]⟩ : ByteArray), .int .i64 0] 56 (0, 0)) B7x3_ NB138_139.out (by simp)); have n1_ := Aside0.mk (KeepBut.blk hk (g' := gb144) (o := .cells #[.int .i64 (wrap64 (bt a0 0)), .int .i64 t140, .int .i64 t145, .string t149, .string (⟨#[]⟩ : ByteArray), .int .i64 0] 56 (0, 0)) B7x14_ NB144_139.out (by simp)); have n2_ := Aside0.mk (hb); have n3_ := Aside0.mk (hi); clear BK138; clear BK144; clear HB; clear HI139; have BK138 := n0_; have BK144 := n1_; have HB := n2_; have HI139 := n3_; clear n0_ n1_ n2_ n3_; (try clear hb); (try clear hb2); (try clear hk); (try clear hi); obtain ⟨hcz114_0, hcz114_1, hcz114_2, hcz114_3, hcz114_4, hcz114_5⟩ := cl6 BK144.out; obtain ⟨hfz114_0, hfz114_1, hfz114_2, hfz114_3, hfz114_4, hfz114_5⟩ := fr6 BK144.out) | ((with_reducible refine gate_callee (f := 70) rfl ?_); refine goesL_ (some 30) rfl rfl Try.func70 B7x20_ rfl #[.pointer (some ⟨gb139, 0, none⟩)] rfl B7x4_ ?_; (with_reducible refine (spec_l16Var.calls k gb139 t154 t155 t156 t157 t158 t159 false w _ ?side1 ?side2 A11.out).mono ?_); (case side1 => repeat (first | (with_reducible first | exact HI139.out | apply IsS108.alloc | apply IsS108.drewN | apply IsS108.drew | apply IsS108.set_0 | apply IsS108.set_1 | apply IsS108.set_2 | refine IsS108.far ?_ NB139_138.out _ | refine IsS108.far ?_ NB139_144.out _) | exact HI139.out)); (case side2 => repeat (first | (with_reducible first | exact HB.out | apply below_alloc | apply pw_below_drewN | apply below_drew1 | refine below_set ?_ (IsS108.ge HI139.out) | refine below_set ?_ GE138.out | refine below_set ?_ GE144.out) | exact HB.out)); rintro e w115 ⟨rfl, hi, hb, hk⟩; refine ⟨_, rfl, ?_⟩; have n0_ := Aside0.mk (KeepBut.blk hk (g' := gb138) (o := .cells #[.int .i64 0, .int .i64 0, .int .i64 0, .string (⟨#[]⟩ : ByteArray), .string (⟨#[]⟩ : ByteArray), .int .i64 0] 56 (0, 0)) B7x3_ NB138_139.out (by simp)); have n1_ := Aside0.mk (KeepBut.blk hk (g' := gb144) (o := .cells #[.int .i64 (wrap64 (bt a0 0)), .int .i64 t140, .int .i64 t145, .string t149, .string t153, .int .i64 0] 56 (0, 0)) B7x16_ NB144_139.out (by simp)); have n2_ := Aside0.mk (hb); have n3_ := Aside0.mk (hi); clear BK138; clear BK144; clear HB; clear HI139; have BK138 := n0_; have BK144 := n1_; have HB := n2_; have HI139 := n3_; clear n0_ n1_ n2_ n3_; (try clear hb); (try clear hb2); (try clear hk); (try clear hi); obtain ⟨hcz116_0, hcz116_1, hcz116_2, hcz116_3, hcz116_4, hcz116_5⟩ := cl6 BK144.out; obtain ⟨hfz116_0, hfz116_1, hfz116_2, hfz116_3, hfz116_4, hfz116_5⟩ := fr6 BK144.out) | ((with_reducible refine gate_callee (f := 72) rfl ?_); refine goesL_ (some 34) rfl rfl Try.func72 B7x20_ rfl #[.agg #[.int .i64 (wrap64 (bt a0 0)), .int .i64 t140, .int .i64 t145, .string t149, .string t153, .int .i64 t157]] rfl B7x4_ ?_; (with_reducible refine (spec_CommandText.calls k (wrap64 (bt a0 0)) t140 t145 t149 t153 t157 t161 false _ A12.out).mono ?_); rintro e w117 ⟨rfl, hb⟩; refine ⟨_, rfl, ?_⟩; have n0_ := Aside0.mk (blk_below (g := gb138) (o := .cells #[.int .i64 0, .int .i64 0, .int .i64 0, .string (⟨#[]⟩ : ByteArray), .string (⟨#[]⟩ : ByteArray), .int .i64 0] 56 (0, 0)) B7x3_ hb); have n1_ := Aside0.mk (IsS108.below (show IsS108 w (w115.setCell ⟨gb144, 5, none⟩ (.int .i64 t157)) gb139 t158 t159 false from by repeat (first | (with_reducible first | exact HI139.out | apply IsS108.alloc | apply IsS108.drewN | apply IsS108.drew | apply IsS108.set_0 | apply IsS108.set_1 | apply IsS108.set_2 | refine IsS108.far ?_ NB139_138.out _ | refine IsS108.far ?_ NB139_144.out _) | exact HI139.out)) hb); have n2_ := Aside0.mk (blk_below (g := gb144) (o := .cells #[.int .i64 (wrap64 (bt a0 0)), .int .i64 t140, .int .i64 t145, .string t149, .string t153, .int .i64 t157] 56 (0, 0)) B7x17_ hb); have n3_ := Aside0.mk (below_step B7x6_ hb); clear BK138; clear HI139; clear BK144; clear HB; have BK138 := n0_; have HI139 := n1_; have BK144 := n2_; have HB := n3_; clear n0_ n1_ n2_ n3_; (try clear hb); (try clear hb2); (try clear hk); (try clear hi); obtain ⟨HGz118, hgz118⟩ := HI139.out; have hcz118_0 := cellS108_0 HGz118; have hcz118_1 := cellS108_1 HGz118; have hcz118_2 := cellS108_2 HGz118; obtain ⟨hfz118_0, hfz118_1, hfz118_2⟩ := fr3 HGz118; clear HGz118 hgz118; have hnb119 := NB138_139.out; have hnc119 := NB139_138.out; obtain ⟨hcz120_0, hcz120_1, hcz120_2, hcz120_3, hcz120_4, hcz120_5⟩ := cl6 BK138.out; obtain ⟨hfz120_0, hfz120_1, hfz120_2, hfz120_3, hfz120_4, hfz120_5⟩ := fr6 BK138.out))
     refine bodyPost_ret (results_ct rfl _ _ gb138 56 #[.int .i64 0, .int .i64 0, .int .i64 0, .string (⟨#[]⟩ : ByteArray), .string (⟨#[]⟩ : ByteArray), .int .i64 0] (0, 0) _ rfl B7x2_ Try.underlying56 rfl B7x20_) rfl ?_
     exact ⟨by first | rfl | (simp [errW_none, errW_some] <;> rfl) | (simp [*, errW_none, errW_some] <;> rfl), by repeat (first | (with_reducible first | exact HB.out | apply below_alloc | apply pw_below_drewN | apply below_drew1 | refine below_set ?_ (IsS108.ge HI139.out) | refine below_set ?_ GE138.out | refine below_set ?_ GE144.out) | exact HB.out)⟩
  ·rw [if_neg c5] at H
   exact absurd H (by simp)

end Go.Proofs.Ytideegpoakkgeaa.QFnExactReadCommand
