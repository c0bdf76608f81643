/- Functions that a law reaches, as functions of Lean, and the walks that show that the calls come to their answers: written by a program of this project out of the translation. No condition. -/
import Derived.Test.YthgjcijcmacpmaaQFnExactReadKeepx0
import Derived.Test.YthgjcijcmacpmaaQFnExactReadKeepx5
import Derived.Test.YthgjcijcmacpmaaQFnExactReadKeepx7
import Derived.Test.YthgjcijcmacpmaaQFnExactReadKeepx8
import Derived.Test.YthgjcijcmacpmaaVFnExactReadKeephort3
import Derived.Test.YthgjcijcmacpmaaVFnExactReadKeepShort2
import Derived.Test.YthgjcijcmacpmaaVFnExactReadKeepShort
namespace Go.Proofs.Ythgjcijcmacpmaa.QFnExactReadKeep
open Go.RowKit Go.Proofs.YthgjcijcmacpmaaW.PrintWords Go.Proofs.YthgjcijcmacpmaaW.PrintLast Go.Proofs.YthgjcijcmacpmaaW.PrintMore Go.Proofs.Ythgjcijcmacpmaa.Short
attribute [local go_sem] max2_int min2_int max_two min_two max_three min_three max_four min_four   -- for this text's walks alone
set_option linter.unusedVariables false
set_option linter.unusedSimpArgs false

theorem B9x0_ {p : Prop} (h : p := by repeat (first | (with_reducible first | exact HB.out | apply below_alloc | apply pw_below_drewN | apply below_drew1 | refine below_set ?_ (IsS98.ge HI151.out) | refine below_set ?_ GE150.out | refine below_set ?_ GE152.out) | exact HB.out)) : p := h
theorem B9x1_ {p : Prop} (h : p := by (with_reducible repeat (first | refine blk_drewN ?_ _ | refine blk_drew ?_ | refine blk_alloc ?_ _)); exact BK150.out) : p := h
theorem B9x2_ {p : Prop} (h : p := by (try simp only [List.map_toArray, List.map_cons, List.map_nil]); first | done | rfl | (simp only [List.length_drop, List.length_take]; rfl)) : p := h
theorem B9x3_ {p : Prop} (h : p := by (with_reducible repeat (first | refine blk_drewN ?_ _ | refine blk_drew ?_ | refine blk_alloc ?_ _)); exact BK152.out) : p := h
theorem B9x4_ {p : Prop} (h : p := by repeat (first | (with_reducible first | exact HI151.out | apply IsS98.alloc | apply IsS98.drewN | apply IsS98.drew | apply IsS98.set_0 | apply IsS98.set_1 | apply IsS98.set_2 | refine IsS98.far ?_ NB151_150.out _ | refine IsS98.far ?_ NB151_152.out _) | exact HI151.out)) : p := h
theorem B9x5_ {p : Prop} (h : p := by (with_reducible repeat (first | refine blk_drewN ?_ _ | refine blk_drew ?_ | refine blk_alloc ?_ _)); refine blk_put (cs := #[.slice none 0 0, .slice none 0 0]) ?_ 1 _ rfl; (with_reducible repeat (first | refine blk_drewN ?_ _ | refine blk_drew ?_ | refine blk_alloc ?_ _)); refine blk_put (cs := #[.slice none 0 0, .slice none 0 0]) ?_ 0 _ rfl; (with_reducible repeat (first | refine blk_drewN ?_ _ | refine blk_drew ?_ | refine blk_alloc ?_ _)); exact BK150.out) : p := h
theorem B9x6_ {p : Prop} (h : p := by (with_reducible repeat (first | apply Kd.R_alloc | apply Kd.R_drewN | apply Kd.R_drew)); exact HO_153000.out) : p := h
theorem B9x7_ {p : Prop} (h : p := by (with_reducible repeat (first | apply Kd.R_alloc | apply Kd.R_drewN | apply Kd.R_drew)); exact HO_153001.out) : p := h
theorem B9x8_ {p : Prop} (h : p := by repeat (first | (with_reducible first | exact HB.out | apply below_alloc | apply pw_below_drewN | apply below_drew1 | refine below_set ?_ GE150.out | refine below_set ?_ GE151.out) | exact HB.out)) : p := h
theorem B9x9_ {p : Prop} (h : p := by repeat (first | (with_reducible first | exact HB.out | apply below_alloc | apply pw_below_drewN | apply below_drew1 | refine below_set ?_ GE150.out) | exact HB.out)) : p := h
theorem B9x10_ {p : Prop} (h : p := by (with_reducible repeat (first | refine blk_drewN ?_ _ | refine blk_drew ?_ | refine blk_alloc ?_ _)); refine blk_put (cs := #[.int .i64 t157, .int .i64 t162, .string (⟨#[]⟩ : ByteArray)]) ?_ 2 _ rfl; (with_reducible repeat (first | refine blk_drewN ?_ _ | refine blk_drew ?_ | refine blk_alloc ?_ _)); exact BK161.out) : p := h
theorem B9x11_ {p : Prop} (h : p := by (with_reducible repeat (first | refine blk_drewN ?_ _ | refine blk_drew ?_ | refine blk_alloc ?_ _)); refine blk_put (cs := #[.string t177, .string t182, .int .i64 0]) ?_ 2 _ rfl; (with_reducible repeat (first | refine blk_drewN ?_ _ | refine blk_drew ?_ | refine blk_alloc ?_ _)); exact BK181.out) : p := h
theorem B9x12_ {p : Prop} (h : p := by repeat (first | (with_reducible first | exact HB.out | apply below_alloc | apply pw_below_drewN | apply below_drew1 | refine below_set ?_ (IsS98.ge HI151.out) | refine below_set ?_ GE150.out | refine below_set ?_ GE152.out | refine below_set ?_ GE161.out) | exact HB.out)) : p := h
theorem B9x13_ {p : Prop} (h : p := by repeat (first | (with_reducible first | exact HB.out | apply below_alloc | apply pw_below_drewN | apply below_drew1 | refine below_set ?_ (IsS98.ge HI151.out) | refine below_set ?_ GE150.out | refine below_set ?_ GE152.out | refine below_set ?_ GE181.out) | exact HB.out)) : p := h
theorem B9x14_ {p : Prop} (h : p := by repeat (first | (with_reducible first | exact HB.out | apply below_alloc | apply pw_below_drewN | apply below_drew1) | exact HB.out)) : p := h
theorem B9x15_ {p : Prop} (h : p := by (with_reducible repeat (first | refine blk_drewN ?_ _ | refine blk_drew ?_ | refine blk_alloc ?_ _)); refine blk_far ?_ NB150_161.out _; (with_reducible repeat (first | refine blk_drewN ?_ _ | refine blk_drew ?_ | refine blk_alloc ?_ _)); exact BK150.out) : p := h
theorem B9x16_ {p : Prop} (h : p := by (with_reducible repeat (first | refine blk_drewN ?_ _ | refine blk_drew ?_ | refine blk_alloc ?_ _)); refine blk_far ?_ NB150_181.out _; (with_reducible repeat (first | refine blk_drewN ?_ _ | refine blk_drew ?_ | refine blk_alloc ?_ _)); exact BK150.out) : p := h
theorem B9x17_ {p : Prop} (h : p := by (with_reducible repeat (first | refine blk_drewN ?_ _ | refine blk_drew ?_ | refine blk_alloc ?_ _)); refine blk_far ?_ NB152_161.out _; (with_reducible repeat (first | refine blk_drewN ?_ _ | refine blk_drew ?_ | refine blk_alloc ?_ _)); exact BK152.out) : p := h
theorem B9x18_ {p : Prop} (h : p := by (with_reducible repeat (first | refine blk_drewN ?_ _ | refine blk_drew ?_ | refine blk_alloc ?_ _)); refine blk_far ?_ NB152_181.out _; (with_reducible repeat (first | refine blk_drewN ?_ _ | refine blk_drew ?_ | refine blk_alloc ?_ _)); exact BK152.out) : p := h
theorem B9x19_ {p : Prop} (h : p := by (with_reducible repeat (first | refine blk_drewN ?_ _ | refine blk_drew ?_ | refine blk_alloc ?_ _)); exact BK151.out) : p := h
theorem B9x20_ {p : Prop} (h : p := by kernel_rfl) : p := h
/-! ### spec_ReadKeep: function 16 -/
mutual
def spec_ReadKeep.l0 : Nat → ByteArray → Int → Int → ByteArray → Int → Bool → List (S101) → Option ((List (S101)) × (List (S104)) × Bool)
 | 0, _, _, _, _, _, _, _ => none
 | k + 1, x0, x6, x7, x152000, x152001, x152002, x153000 => if x7 < x6 then (if x7 < 50 then (spec_ReadKeep.j1 k x0 x6 x7 (!x152002) x152000 x152001 x152002 x153000) else (spec_ReadKeep.j1 k x0 x6 x7 false x152000 x152001 x152002 x153000)) else (spec_ReadKeep.j1 k x0 x6 x7 false x152000 x152001 x152002 x153000)
def spec_ReadKeep.j1 : Nat → ByteArray → Int → Int → Bool → ByteArray → Int → Bool → List (S101) → Option ((List (S101)) × (List (S104)) × Bool)
 | 0, _, _, _, _, _, _, _, _ => none
 | k + 1, x0, x6, x7, x32, x152000, x152001, x152002, x153000 => if x32 = true then ((spec_l16Var.f k x152000 x152001 x152002).bind fun bt157 => ((spec_l16Var.f k bt157.2.1 bt157.2.2.1 bt157.2.2.2).bind fun bt162 => ((spec_l16ReadShort.f k bt162.2.1 bt162.2.2.1 bt162.2.2.2).bind fun bt166 => (if x153000.length < 4398046511104 then (spec_ReadKeep.l0 k x0 x6 (wrap64 (x7 + 1)) bt166.2.1 bt166.2.2.1 bt166.2.2.2 (x153000 ++ [(⟨bt157.1, bt162.1, bt166.1⟩ : S101)])) else (none))))) else ((spec_l16Var.f k x152000 x152001 x152002).bind fun bt173 => (spec_ReadKeep.l1 k x0 bt173.1 0 bt173.2.1 bt173.2.2.1 bt173.2.2.2 x153000 ([] : List (S104))))
def spec_ReadKeep.l1 : Nat → ByteArray → Int → Int → ByteArray → Int → Bool → List (S101) → List (S104) → Option ((List (S101)) × (List (S104)) × Bool)
 | 0, _, _, _, _, _, _, _, _ => none
 | k + 1, x0, x6, x9, x152000, x152001, x152002, x153000, x153001 => if x9 < x6 then (if x9 < 50 then (spec_ReadKeep.j3 k x0 x6 x9 (!x152002) x152000 x152001 x152002 x153000 x153001) else (spec_ReadKeep.j3 k x0 x6 x9 false x152000 x152001 x152002 x153000 x153001)) else (spec_ReadKeep.j3 k x0 x6 x9 false x152000 x152001 x152002 x153000 x153001)
def spec_ReadKeep.j3 : Nat → ByteArray → Int → Int → Bool → ByteArray → Int → Bool → List (S101) → List (S104) → Option ((List (S101)) × (List (S104)) × Bool)
 | 0, _, _, _, _, _, _, _, _, _ => none
 | k + 1, x0, x6, x9, x65, x152000, x152001, x152002, x153000, x153001 => if x65 = true then ((spec_l16ReadShort.f k x152000 x152001 x152002).bind fun bt177 => ((spec_l16ReadShort.f k bt177.2.1 bt177.2.2.1 bt177.2.2.2).bind fun bt182 => ((spec_l16Var.f k bt182.2.1 bt182.2.2.1 bt182.2.2.2).bind fun bt186 => (if x153001.length < 3518437208883 then (spec_ReadKeep.l1 k x0 x6 (wrap64 (x9 + 1)) bt186.2.1 bt186.2.2.1 bt186.2.2.2 x153000 (x153001 ++ [(⟨bt177.1, bt182.1, bt186.1⟩ : S104)])) else (none))))) else ((spec_KeepText.f k x153000 x153001).bind fun bt193 => (if x152002 = true then (some (([] : List (S101)), ([] : List (S104)), false)) else (if bt193.2 = true then (if bt193.1.toList = x0.toList then (some (x153000, x153001, true)) else (some (([] : List (S101)), ([] : List (S104)), false))) else (some (([] : List (S101)), ([] : List (S104)), false)))))
end
def spec_ReadKeep.f (k : Nat) (a0 : ByteArray) : Option ((List (S101)) × (List (S104)) × Bool) := (spec_l16Var.f k a0 0 false).bind fun bt153 => (spec_ReadKeep.l0 k a0 bt153.1 0 bt153.2.1 bt153.2.2.1 bt153.2.2.2 ([] : List (S101)))
theorem spec_ReadKeep.mono_l : ∀ k, (∀ y0 y1 y2 y3 y4 y5 y6, LeO (spec_ReadKeep.l0 k y0 y1 y2 y3 y4 y5 y6) (spec_ReadKeep.l0 (k + 1) y0 y1 y2 y3 y4 y5 y6)) ∧ (∀ y0 y1 y2 y3 y4 y5 y6 y7, LeO (spec_ReadKeep.j1 k y0 y1 y2 y3 y4 y5 y6 y7) (spec_ReadKeep.j1 (k + 1) y0 y1 y2 y3 y4 y5 y6 y7)) ∧ (∀ y0 y1 y2 y3 y4 y5 y6 y7, LeO (spec_ReadKeep.l1 k y0 y1 y2 y3 y4 y5 y6 y7) (spec_ReadKeep.l1 (k + 1) y0 y1 y2 y3 y4 y5 y6 y7)) ∧ (∀ y0 y1 y2 y3 y4 y5 y6 y7 y8, LeO (spec_ReadKeep.j3 k y0 y1 y2 y3 y4 y5 y6 y7 y8) (spec_ReadKeep.j3 (k + 1) y0 y1 y2 y3 y4 y5 y6 y7 y8))
 | 0 => ⟨fun _ _ _ _ _ _ _ r h => by simp [spec_ReadKeep.l0] at h, fun _ _ _ _ _ _ _ _ r h => by simp [spec_ReadKeep.j1] at h, fun _ _ _ _ _ _ _ _ r h => by simp [spec_ReadKeep.l1] at h, fun _ _ _ _ _ _ _ _ _ r h => by simp [spec_ReadKeep.j3] at h⟩
 | k + 1 => by
  obtain ⟨ih0, ih1, ih2, ih3⟩ := spec_ReadKeep.mono_l k
  refine ⟨?_, ?_, ?_, ?_⟩
  ·intro y0 y1 y2 y3 y4 y5 y6
   unfold spec_ReadKeep.l0
   repeat' first
   | (with_reducible exact ih0 _ _ _ _ _ _ _)
   | (with_reducible exact ih1 _ _ _ _ _ _ _ _)
   | (with_reducible exact ih2 _ _ _ _ _ _ _ _)
   | (with_reducible exact ih3 _ _ _ _ _ _ _ _ _)
   | (with_reducible exact spec_KeepText.mono _ _ _)
   | (with_reducible exact spec_l16ReadShort.mono _ _ _ _)
   | (with_reducible exact spec_l16Var.mono _ _ _ _)
   | (with_reducible exact LeO.refl _)
   | (with_reducible exact LeO.none _)
   | (with_reducible refine LeO.ite ?_ ?_)
   | (with_reducible refine LeO.bind ?_ (fun _ => ?_))
   | exact ih0 _ _ _ _ _ _ _
   | exact ih1 _ _ _ _ _ _ _ _
   | exact ih2 _ _ _ _ _ _ _ _
   | exact ih3 _ _ _ _ _ _ _ _ _
   | exact spec_KeepText.mono _ _ _
   | exact spec_l16ReadShort.mono _ _ _ _
   | exact spec_l16Var.mono _ _ _ _
   | exact LeO.none _
   | refine LeO.ite ?_ ?_
   | refine LeO.bind ?_ (fun _ => ?_)
  ·intro y0 y1 y2 y3 y4 y5 y6 y7
   unfold spec_ReadKeep.j1
   repeat' first
   | (with_reducible exact ih0 _ _ _ _ _ _ _)
   | (with_reducible exact ih1 _ _ _ _ _ _ _ _)
   | (with_reducible exact ih2 _ _ _ _ _ _ _ _)
   | (with_reducible exact ih3 _ _ _ _ _ _ _ _ _)
   | (with_reducible exact spec_KeepText.mono _ _ _)
   | (with_reducible exact spec_l16ReadShort.mono _ _ _ _)
   | (with_reducible exact spec_l16Var.mono _ _ _ _)
   | (with_reducible exact LeO.refl _)
   | (with_reducible exact LeO.none _)
   | (with_reducible refine LeO.ite ?_ ?_)
   | (with_reducible refine LeO.bind ?_ (fun _ => ?_))
   | exact ih0 _ _ _ _ _ _ _
   | exact ih1 _ _ _ _ _ _ _ _
   | exact ih2 _ _ _ _ _ _ _ _
   | exact ih3 _ _ _ _ _ _ _ _ _
   | exact spec_KeepText.mono _ _ _
   | exact spec_l16ReadShort.mono _ _ _ _
   | exact spec_l16Var.mono _ _ _ _
   | exact LeO.none _
   | refine LeO.ite ?_ ?_
   | refine LeO.bind ?_ (fun _ => ?_)
  ·intro y0 y1 y2 y3 y4 y5 y6 y7
   unfold spec_ReadKeep.l1
   repeat' first
   | (with_reducible exact ih0 _ _ _ _ _ _ _)
   | (with_reducible exact ih1 _ _ _ _ _ _ _ _)
   | (with_reducible exact ih2 _ _ _ _ _ _ _ _)
   | (with_reducible exact ih3 _ _ _ _ _ _ _ _ _)
   | (with_reducible exact spec_KeepText.mono _ _ _)
   | (with_reducible exact spec_l16ReadShort.mono _ _ _ _)
   | (with_reducible exact spec_l16Var.mono _ _ _ _)
   | (with_reducible exact LeO.refl _)
   | (with_reducible exact LeO.none _)
   | (with_reducible refine LeO.ite ?_ ?_)
   | (with_reducible refine LeO.bind ?_ (fun _ => ?_))
   | exact ih0 _ _ _ _ _ _ _
   | exact ih1 _ _ _ _ _ _ _ _
   | exact ih2 _ _ _ _ _ _ _ _
   | exact ih3 _ _ _ _ _ _ _ _ _
   | exact spec_KeepText.mono _ _ _
   | exact spec_l16ReadShort.mono _ _ _ _
   | exact spec_l16Var.mono _ _ _ _
   | exact LeO.none _
   | refine LeO.ite ?_ ?_
   | refine LeO.bind ?_ (fun _ => ?_)
  ·intro y0 y1 y2 y3 y4 y5 y6 y7 y8
   unfold spec_ReadKeep.j3
   repeat' first
   | (with_reducible exact ih0 _ _ _ _ _ _ _)
   | (with_reducible exact ih1 _ _ _ _ _ _ _ _)
   | (with_reducible exact ih2 _ _ _ _ _ _ _ _)
   | (with_reducible exact ih3 _ _ _ _ _ _ _ _ _)
   | (with_reducible exact spec_KeepText.mono _ _ _)
   | (with_reducible exact spec_l16ReadShort.mono _ _ _ _)
   | (with_reducible exact spec_l16Var.mono _ _ _ _)
   | (with_reducible exact LeO.refl _)
   | (with_reducible exact LeO.none _)
   | (with_reducible refine LeO.ite ?_ ?_)
   | (with_reducible refine LeO.bind ?_ (fun _ => ?_))
   | exact ih0 _ _ _ _ _ _ _
   | exact ih1 _ _ _ _ _ _ _ _
   | exact ih2 _ _ _ _ _ _ _ _
   | exact ih3 _ _ _ _ _ _ _ _ _
   | exact spec_KeepText.mono _ _ _
   | exact spec_l16ReadShort.mono _ _ _ _
   | exact spec_l16Var.mono _ _ _ _
   | exact LeO.none _
   | refine LeO.ite ?_ ?_
   | refine LeO.bind ?_ (fun _ => ?_)
theorem spec_ReadKeep.mono : ∀ a0 k, LeO (spec_ReadKeep.f k a0) (spec_ReadKeep.f (k + 1) a0) := by
 intro a0 k
 obtain ⟨ih0, ih1, ih2, ih3⟩ := spec_ReadKeep.mono_l k
 unfold spec_ReadKeep.f
 repeat' first
   | (with_reducible exact ih0 _ _ _ _ _ _ _)
   | (with_reducible exact ih1 _ _ _ _ _ _ _ _)
   | (with_reducible exact ih2 _ _ _ _ _ _ _ _)
   | (with_reducible exact ih3 _ _ _ _ _ _ _ _ _)
   | (with_reducible exact spec_KeepText.mono _ _ _)
   | (with_reducible exact spec_l16ReadShort.mono _ _ _ _)
   | (with_reducible exact spec_l16Var.mono _ _ _ _)
   | (with_reducible exact LeO.refl _)
   | (with_reducible exact LeO.none _)
   | (with_reducible refine LeO.ite ?_ ?_)
   | (with_reducible refine LeO.bind ?_ (fun _ => ?_))
   | exact ih0 _ _ _ _ _ _ _
   | exact ih1 _ _ _ _ _ _ _ _
   | exact ih2 _ _ _ _ _ _ _ _
   | exact ih3 _ _ _ _ _ _ _ _ _
   | exact spec_KeepText.mono _ _ _
   | exact spec_l16ReadShort.mono _ _ _ _
   | exact spec_l16Var.mono _ _ _ _
   | exact LeO.none _
   | refine LeO.ite ?_ ?_
   | refine LeO.bind ?_ (fun _ => ?_)
set_option maxHeartbeats 8000000 in
set_option maxRecDepth 100000 in
theorem spec_ReadKeep.calls (k : Nat) (a0 : ByteArray) (r1 : List (S101)) (r2 : List (S104)) (r3 : Bool) (w : World) (h : spec_ReadKeep.f k a0 = some (r1, r2, r3)) :
  Calls Try.prog 16 #[.string a0] w fun e w' => ∃ v0_ v1_ : Value, e = .returned (.tuple #[.agg #[v0_, v1_], .bool r3]) ∧ Kd.R k101 101 w' w.heap.size (fun _ => True) v0_ r1 ∧ Kd.R k104 104 w' w.heap.size (fun _ => True) v1_ r2 ∧ Below w.heap.size w w' := by
 have hu37 := Try.underlying37
 have hu98 := Try.underlying98
 have hu101 := Try.underlying101
 have hu104 := Try.underlying104
 have HB := Aside0.mk (Below.refl w.heap.size w)
 have H : ((spec_l16Var.f k a0 0 false).bind fun bt153 => (spec_ReadKeep.l0 k a0 bt153.1 0 bt153.2.1 bt153.2.2.1 bt153.2.2.2 ([] : List (S101)))) = some (r1, r2, r3) := h
 clear h
 replace H := Option.bind_eq_some_iff.mp H
 obtain ⟨⟨t153, t154, t155, t156⟩, A20, H⟩ := H
 (try dsimp only at H)
 have A2 := Aside0.mk A20
 clear A20
 have H' := Aside0.mk H
 clear H
 go_enter Try.func16, Try.ntmps16
 go_wp2_with (first | ((with_reducible refine gate_dst (N := 2) rfl ?_); refine box_event ?hg (N := 2) ?hd (cs := #[.slice none 0 0, .slice none 0 0]) (t := 37) ?hr ?_; (case hd => rfl); (case hg => rfl); (case hr => first | (go_simp; done) | (go_simp; rfl)); intro gb150 hg w3 hbox hb; have n0_ := Aside0.mk (below_step B9x14_ hb); have n1_ := Aside0.mk (hbox); have n2_ := Aside0.mk ((by rw [hg]; exact (below_size B9x14_) : w.heap.size ≤ gb150)); have n3_ := Aside0.mk ((by rw [hg]; exact (below_size B9x14_) : w.heap.size ≤ gb150)); clear HB; have HB := n0_; have BK150 := n1_; have GW150 := n2_; have GE150 := n3_; clear n0_ n1_ n2_ n3_; clear hb hbox hg) | ((with_reducible refine gate_dst (N := 15) rfl ?_); refine box_event ?hg (N := 15) ?hd (cs := #[.string a0, .int .i64 0, .bool false]) (t := 98) ?hr ?_; (case hd => rfl); (case hg => rfl); (case hr => first | (go_simp; done) | (go_simp; rfl)); intro gb151 hg w4 hbox hb; have n0_ := Aside0.mk (blk_below (g := gb150) (o := .cells #[.slice none 0 0, .slice none 0 0] 37 (0, 0)) B9x1_ hb); have n1_ := Aside0.mk (below_step B9x9_ hb); have n2_ := Aside0.mk (hbox); have n3_ := Aside0.mk ((by rw [hg]; exact (below_size B9x9_) : w.heap.size ≤ gb151)); have n4_ := Aside0.mk ((by rw [hg]; exact (below_size B9x9_) : w.heap.size ≤ gb151)); have n5_ := Aside0.mk ((by rw [hg]; exact Nat.ne_of_lt (blk_lt (g := gb150) (o := .cells #[.slice none 0 0, .slice none 0 0] 37 (0, 0)) B9x1_) : gb150 ≠ gb151)); have n6_ := Aside0.mk ((by rw [hg]; exact Nat.ne_of_gt (blk_lt (g := gb150) (o := .cells #[.slice none 0 0, .slice none 0 0] 37 (0, 0)) B9x1_) : gb151 ≠ gb150)); clear BK150; clear HB; have BK150 := n0_; have HB := n1_; have BK151 := n2_; have GW151 := n3_; have GE151 := n4_; have NB150_151 := n5_; have NB151_150 := n6_; clear n0_ n1_ n2_ n3_ n4_ n5_ n6_; clear hb hbox hg) | ((with_reducible refine gate_dst (N := 5) rfl ?_); refine box_event ?hg (N := 5) ?hd (cs := #[.slice none 0 0, .slice none 0 0]) (t := 37) ?hr ?_; (case hd => rfl); (case hg => rfl); (case hr => first | (go_simp; done) | (go_simp; rfl)); intro gb152 hg w5 hbox hb; have n0_ := Aside0.mk (blk_below (g := gb150) (o := .cells #[.slice none 0 0, .slice none 0 0] 37 (0, 0)) B9x1_ hb); have n1_ := Aside0.mk (blk_below (g := gb151) (o := .cells #[.string a0, .int .i64 0, .bool false] 98 (0, 0)) B9x19_ hb); have n2_ := Aside0.mk (below_step B9x8_ hb); have n3_ := Aside0.mk (hbox); have n4_ := Aside0.mk ((by rw [hg]; exact (below_size B9x8_) : w.heap.size ≤ gb152)); have n5_ := Aside0.mk ((by rw [hg]; exact (below_size B9x8_) : w.heap.size ≤ gb152)); have n6_ := Aside0.mk ((by rw [hg]; exact Nat.ne_of_lt (blk_lt (g := gb150) (o := .cells #[.slice none 0 0, .slice none 0 0] 37 (0, 0)) B9x1_) : gb150 ≠ gb152)); have n7_ := Aside0.mk ((by rw [hg]; exact Nat.ne_of_gt (blk_lt (g := gb150) (o := .cells #[.slice none 0 0, .slice none 0 0] 37 (0, 0)) B9x1_) : gb152 ≠ gb150)); have n8_ := Aside0.mk ((by rw [hg]; exact Nat.ne_of_lt (blk_lt (g := gb151) (o := .cells #[.string a0, .int .i64 0, .bool false] 98 (0, 0)) B9x19_) : gb151 ≠ gb152)); have n9_ := Aside0.mk ((by rw [hg]; exact Nat.ne_of_gt (blk_lt (g := gb151) (o := .cells #[.string a0, .int .i64 0, .bool false] 98 (0, 0)) B9x19_) : gb152 ≠ gb151)); clear BK150; clear BK151; clear HB; have BK150 := n0_; have BK151 := n1_; have HB := n2_; have BK152 := n3_; have GW152 := n4_; have GE152 := n5_; have NB150_152 := n6_; have NB152_150 := n7_; have NB151_152 := n8_; have NB152_151 := n9_; clear n0_ n1_ n2_ n3_ n4_ n5_ n6_ n7_ n8_ n9_; clear hb hbox hg; have hnb6 := NB152_150.out; have hnc6 := NB150_152.out; have hnb7 := NB152_151.out; have hnc7 := NB151_152.out; obtain ⟨hcz8_0, hcz8_1⟩ := cl2 BK152.out; obtain ⟨hfz8_0, hfz8_1⟩ := fr2 BK152.out) | ((with_reducible refine gate_callee (f := 75) rfl ?_); refine goesL_ (some 18) rfl rfl Try.func75 B9x20_ rfl #[.pointer (some ⟨gb151, 0, none⟩)] rfl B9x2_ ?_; (with_reducible refine (spec_l16Var.calls k gb151 a0 0 false t153 t154 t155 t156 w _ ?side1 ?side2 A2.out).mono ?_); (case side1 => exact ⟨by (with_reducible repeat (first | refine blk_drewN ?_ _ | refine blk_drew ?_ | refine blk_alloc ?_ _)); refine blk_far ?_ NB151_152.out _; (with_reducible repeat (first | refine blk_drewN ?_ _ | refine blk_drew ?_ | refine blk_alloc ?_ _)); refine blk_far ?_ NB151_152.out _; (with_reducible repeat (first | refine blk_drewN ?_ _ | refine blk_drew ?_ | refine blk_alloc ?_ _)); exact BK151.out, GE151.out⟩); (case side2 => repeat (first | (with_reducible first | exact HB.out | apply below_alloc | apply pw_below_drewN | apply below_drew1 | refine below_set ?_ GE150.out | refine below_set ?_ GE151.out | refine below_set ?_ GE152.out) | exact HB.out)); rintro e w9 ⟨rfl, hi, hb, hk⟩; refine ⟨_, rfl, ?_⟩; have n0_ := Aside0.mk (KeepBut.blk hk (g' := gb150) (o := .cells #[.slice none 0 0, .slice none 0 0] 37 (0, 0)) (by (with_reducible repeat (first | refine blk_drewN ?_ _ | refine blk_drew ?_ | refine blk_alloc ?_ _)); refine blk_far ?_ NB150_152.out _; (with_reducible repeat (first | refine blk_drewN ?_ _ | refine blk_drew ?_ | refine blk_alloc ?_ _)); refine blk_far ?_ NB150_152.out _; (with_reducible repeat (first | refine blk_drewN ?_ _ | refine blk_drew ?_ | refine blk_alloc ?_ _)); exact BK150.out) NB150_151.out (by simp)); have n1_ := Aside0.mk (KeepBut.blk hk (g' := gb152) (o := .cells #[.slice none 0 0, .slice none 0 0] 37 (0, 0)) (by (with_reducible repeat (first | refine blk_drewN ?_ _ | refine blk_drew ?_ | refine blk_alloc ?_ _)); refine blk_put (cs := #[.slice none 0 0, .slice none 0 0]) ?_ 1 _ rfl; (with_reducible repeat (first | refine blk_drewN ?_ _ | refine blk_drew ?_ | refine blk_alloc ?_ _)); refine blk_put (cs := #[.slice none 0 0, .slice none 0 0]) ?_ 0 _ rfl; (with_reducible repeat (first | refine blk_drewN ?_ _ | refine blk_drew ?_ | refine blk_alloc ?_ _)); exact BK152.out) NB152_151.out (by simp)); have n2_ := Aside0.mk (hb); have n3_ := Aside0.mk (hi); clear BK150; clear BK152; clear HB; have BK150 := n0_; have BK152 := n1_; have HB := n2_; have HI151 := n3_; clear n0_ n1_ n2_ n3_; (try clear hb); (try clear hb2); (try clear hk); (try clear hi); (try clear BK151)))
 go_loopg [7] k (fun kq v7 w' => ∃ (x7_1 : Int) (x152000_1 : ByteArray) (x152001_1 : Int) (x152002_1 : Bool) (x153000_1 : List (S101)) (u153000 : Value), v7 = .int .i64 x7_1 ∧ Aside0 (spec_ReadKeep.l0 kq a0 t153 x7_1 x152000_1 x152001_1 x152002_1 x153000_1 = some (r1, r2, r3)) ∧ Aside0 (kq ≤ k) ∧ Aside0 (Kd.R k101 101 w' w.heap.size (fun _ => True) u153000 x153000_1) ∧ Aside0 (w'.heap[gb150]? = some (.cells #[(.slice none 0 0), (.slice none 0 0)] 37 (0, 0))) ∧ Aside0 (w'.heap[gb152]? = some (.cells #[u153000, (.slice none 0 0)] 37 (0, 0))) ∧ Aside0 (IsS98 w w' gb151 x152000_1 x152001_1 x152002_1) ∧ Aside0 (Below w.heap.size w w'))
 case atStart => exact ⟨(0), (t154), (t155), (t156), (([] : List (S101))), (.slice none 0 0), (be_), H', ⟨Nat.le_refl _⟩, ⟨by first | exact Kd.R_nil _ _ _ _ _ | exact Kd.N_nil _ _ _ _ _ | exact Kd.V_nil _ _ _ _ _ | exact Kd.Q_nil _ _ _ _ _ | exact Kd.S_nil _ _ _ _ _⟩, ⟨by (with_reducible repeat (first | refine blk_drewN ?_ _ | refine blk_drew ?_ | refine blk_alloc ?_ _)); exact BK150.out⟩, ⟨by (with_reducible repeat (first | refine blk_drewN ?_ _ | refine blk_drew ?_ | refine blk_alloc ?_ _)); exact BK152.out⟩, ⟨by repeat (first | (with_reducible first | exact HI151.out | apply IsS98.alloc | apply IsS98.drewN | apply IsS98.drew | apply IsS98.set_0 | apply IsS98.set_1 | apply IsS98.set_2 | refine IsS98.far ?_ NB151_150.out _ | refine IsS98.far ?_ NB151_152.out _) | exact HI151.out)⟩, ⟨by repeat (first | (with_reducible first | exact HB.out | apply below_alloc | apply pw_below_drewN | apply below_drew1 | refine below_set ?_ (IsS98.ge HI151.out) | refine below_set ?_ GE150.out | refine below_set ?_ GE152.out) | exact HB.out)⟩⟩
 case round =>
  clear H'
  try clear c1
  try clear p2
  try clear c6
  try clear c7
  try clear hcz8_0
  try clear hcz8_1
  try clear hfz8_0
  try clear hfz8_1
  obtain ⟨x7_1, x152000_1, x152001_1, x152002_1, x153000_1, u153000, rfl, HA, HK1, HO_153000, BK150, BK152, HI151, HB⟩ := hrel
  cases gk with
  | zero => exact absurd HA.out (by simp [spec_ReadKeep.l0])
  | succ k1 =>
   have H := HA.out
   clear HA
   simp only [spec_ReadKeep.l0] at H
   have HC10 := Aside0.mk H
   clear H
   go_upto_region 5 with (fail)
   go_cut [32] (fun v32 wc => ∃ (kq : Nat) (x32_9 : Bool), v32 = .bool x32_9 ∧ Aside0 (spec_ReadKeep.j1 kq a0 t153 x7_1 x32_9 x152000_1 x152001_1 x152002_1 x153000_1 = some (r1, r2, r3)) ∧ Aside0 (kq ≤ k1) ∧ Aside0 (Kd.R k101 101 wc w.heap.size (fun _ => True) u153000 x153000_1) ∧ Aside0 (wc.heap[gb150]? = some (.cells #[(.slice none 0 0), (.slice none 0 0)] 37 (0, 0))) ∧ Aside0 (wc.heap[gb152]? = some (.cells #[u153000, (.slice none 0 0)] 37 (0, 0))) ∧ Aside0 (IsS98 w wc gb151 x152000_1 x152001_1 x152002_1) ∧ Aside0 (Below w.heap.size w wc))
   case first =>
    have H := HC10.out
    clear HC10
    by_cases c11 : x7_1 < t153
    ·rw [if_pos c11] at H
     have c11b0 : decide (x7_1 < t153) = true := decide_eq_true c11
     clear c11
     (first | rw [c11b0] | (simp only [i64_w, i32_w]; rw [c11b0]) | skip)
     by_cases c12 : x7_1 < 50
     ·rw [if_pos c12] at H
      have c12b0 : decide (x7_1 < 50) = true := decide_eq_true c12
      clear c12
      have H' := Aside0.mk H
      clear H
      obtain ⟨HGz13, hgz13⟩ := HI151.out
      have hcz13_0 := cellS98_0 HGz13
      have hcz13_1 := cellS98_1 HGz13
      have hcz13_2 := cellS98_2 HGz13
      obtain ⟨hfz13_0, hfz13_1, hfz13_2⟩ := fr3 HGz13
      clear HGz13 hgz13
      go_wp2
      go_meet
      case rel => exact ⟨_, (!x152002_1), (be_), H', ⟨by have := HK1.out; first | omega | exact Nat.le_refl _⟩, ⟨by (with_reducible repeat (first | apply Kd.R_alloc | apply Kd.R_drewN | apply Kd.R_drew)); exact HO_153000.out⟩, ⟨by (with_reducible repeat (first | refine blk_drewN ?_ _ | refine blk_drew ?_ | refine blk_alloc ?_ _)); exact BK150.out⟩, ⟨by (with_reducible repeat (first | refine blk_drewN ?_ _ | refine blk_drew ?_ | refine blk_alloc ?_ _)); exact BK152.out⟩, ⟨by repeat (first | (with_reducible first | exact HI151.out | apply IsS98.alloc | apply IsS98.drewN | apply IsS98.drew | apply IsS98.set_0 | apply IsS98.set_1 | apply IsS98.set_2 | refine IsS98.far ?_ NB151_150.out _ | refine IsS98.far ?_ NB151_152.out _) | exact HI151.out)⟩, ⟨by repeat (first | (with_reducible first | exact HB.out | apply below_alloc | apply pw_below_drewN | apply below_drew1 | refine below_set ?_ (IsS98.ge HI151.out) | refine below_set ?_ GE150.out | refine below_set ?_ GE152.out) | exact HB.out)⟩⟩
     ·rw [if_neg c12] at H
      have c12b0 : decide (x7_1 < 50) = false := decide_eq_false c12
      clear c12
      have H' := Aside0.mk H
      clear H
      go_wp2
      go_meet
      case rel => exact ⟨_, (false), (be_), H', ⟨by have := HK1.out; first | omega | exact Nat.le_refl _⟩, ⟨by (with_reducible repeat (first | apply Kd.R_alloc | apply Kd.R_drewN | apply Kd.R_drew)); exact HO_153000.out⟩, ⟨by (with_reducible repeat (first | refine blk_drewN ?_ _ | refine blk_drew ?_ | refine blk_alloc ?_ _)); exact BK150.out⟩, ⟨by (with_reducible repeat (first | refine blk_drewN ?_ _ | refine blk_drew ?_ | refine blk_alloc ?_ _)); exact BK152.out⟩, ⟨by repeat (first | (with_reducible first | exact HI151.out | apply IsS98.alloc | apply IsS98.drewN | apply IsS98.drew | apply IsS98.set_0 | apply IsS98.set_1 | apply IsS98.set_2 | refine IsS98.far ?_ NB151_150.out _ | refine IsS98.far ?_ NB151_152.out _) | exact HI151.out)⟩, ⟨by repeat (first | (with_reducible first | exact HB.out | apply below_alloc | apply pw_below_drewN | apply below_drew1 | refine below_set ?_ (IsS98.ge HI151.out) | refine below_set ?_ GE150.out | refine below_set ?_ GE152.out) | exact HB.out)⟩⟩
    ·rw [if_neg c11] at H
     have c11b0 : decide (x7_1 < t153) = false := decide_eq_false c11
     clear c11
     (first | rw [c11b0] | (simp only [i64_w, i32_w]; rw [c11b0]) | skip)
     have H' := Aside0.mk H
     clear H
     go_wp2
     go_meet
     case rel => exact ⟨_, (false), (be_), H', ⟨by have := HK1.out; first | omega | exact Nat.le_refl _⟩, ⟨by (with_reducible repeat (first | apply Kd.R_alloc | apply Kd.R_drewN | apply Kd.R_drew)); exact HO_153000.out⟩, ⟨by (with_reducible repeat (first | refine blk_drewN ?_ _ | refine blk_drew ?_ | refine blk_alloc ?_ _)); exact BK150.out⟩, ⟨by (with_reducible repeat (first | refine blk_drewN ?_ _ | refine blk_drew ?_ | refine blk_alloc ?_ _)); exact BK152.out⟩, ⟨by repeat (first | (with_reducible first | exact HI151.out | apply IsS98.alloc | apply IsS98.drewN | apply IsS98.drew | apply IsS98.set_0 | apply IsS98.set_1 | apply IsS98.set_2 | refine IsS98.far ?_ NB151_150.out _ | refine IsS98.far ?_ NB151_152.out _) | exact HI151.out)⟩, ⟨by repeat (first | (with_reducible first | exact HB.out | apply below_alloc | apply pw_below_drewN | apply below_drew1 | refine below_set ?_ (IsS98.ge HI151.out) | refine below_set ?_ GE150.out | refine below_set ?_ GE152.out) | exact HB.out)⟩⟩
   case rest =>
    clear HC10
    try clear c1
    try clear p2
    try clear c6
    try clear c7
    try clear c11
    try clear c11b0
    try clear c12
    try clear c12b0
    try clear hcz13_0
    try clear hcz13_1
    try clear hcz13_2
    try clear hcz8_0
    try clear hcz8_1
    try clear hfz13_0
    try clear hfz13_1
    try clear hfz13_2
    try clear hfz8_0
    try clear hfz8_1
    try clear p2
    obtain ⟨kq, x32_9, rfl, HA, HJ9, HO_153000, BK150, BK152, HI151, HB⟩ := hcut
    cases kq with
    | zero => exact absurd HA.out (by simp [spec_ReadKeep.j1])
    | succ kj9 =>
     have H := HA.out
     clear HA
     simp only [spec_ReadKeep.j1] at H
     by_cases c14 : x32_9 = true
     ·subst c14
      rw [if_pos rfl] at H
      replace H := Option.bind_eq_some_iff.mp H
      obtain ⟨⟨t157, t158, t159, t160⟩, A150, H⟩ := H
      (try dsimp only at H)
      have A15 := Aside0.mk A150
      clear A150
      replace H := Option.bind_eq_some_iff.mp H
      obtain ⟨⟨t162, t163, t164, t165⟩, A160, H⟩ := H
      (try dsimp only at H)
      have A16 := Aside0.mk A160
      clear A160
      replace H := Option.bind_eq_some_iff.mp H
      obtain ⟨⟨t166, t167, t168, t169⟩, A170, H⟩ := H
      (try dsimp only at H)
      have A17 := Aside0.mk A170
      clear A170
      by_cases c18 : x153000_1.length < 4398046511104
      ·rw [if_pos c18] at H
       have LMc18 := Aside0.mk c18
       clear c18
       obtain ⟨y170, hy170⟩ : ∃ y_ : List (S101), y_ = (x153000_1 ++ [(⟨t157, t162, t166⟩ : S101)]) := ⟨_, rfl⟩
       replace H : (spec_ReadKeep.l0 kj9 a0 t153 (wrap64 (x7_1 + 1)) t167 t168 t169 y170) = some (r1, r2, r3) := by first | (rw [hy170]; with_reducible exact H) | (have H2_ := (Option.bind_some _ _).symm.trans H; rw [hy170]; with_reducible exact H2_) | (have H2_ := (Option.bind_some _ _).symm.trans H; with_reducible exact H2_) | with_reducible exact H | (rw [hy170]; exact H) | exact H
       have Ny170 := Aside0.mk hy170
       clear hy170
       have H' := Aside0.mk H
       clear H
       go_wp2_with (first | ((with_reducible refine gate_callee (f := 75) rfl ?_); refine goesL_ (some 36) rfl rfl Try.func75 B9x20_ rfl #[.pointer (some ⟨gb151, 0, none⟩)] rfl B9x2_ ?_; (with_reducible refine (spec_l16Var.calls kj9 gb151 x152000_1 x152001_1 x152002_1 t157 t158 t159 t160 w _ ?side1 ?side2 A15.out).mono ?_); (case side1 => repeat (first | (with_reducible first | exact HI151.out | apply IsS98.alloc | apply IsS98.drewN | apply IsS98.drew | apply IsS98.set_0 | apply IsS98.set_1 | apply IsS98.set_2 | refine IsS98.far ?_ NB151_150.out _ | refine IsS98.far ?_ NB151_152.out _) | exact HI151.out)); (case side2 => repeat (first | (with_reducible first | exact HB.out | apply below_alloc | apply pw_below_drewN | apply below_drew1 | refine below_set ?_ (IsS98.ge HI151.out) | refine below_set ?_ GE150.out | refine below_set ?_ GE152.out) | exact HB.out)); rintro e w19 ⟨rfl, hi, hb, hk⟩; refine ⟨_, rfl, ?_⟩; have n0_ := Aside0.mk (Kd.R_mono (Kd.R_keep (IsS98.apart (show IsS98 w _ gb151 x152000_1 x152001_1 x152002_1 from by repeat (first | (with_reducible first | exact HI151.out | apply IsS98.alloc | apply IsS98.drewN | apply IsS98.drew | apply IsS98.set_0 | apply IsS98.set_1 | apply IsS98.set_2 | refine IsS98.far ?_ NB151_150.out _ | refine IsS98.far ?_ NB151_152.out _) | exact HI151.out)) B9x6_ (by decide)) hk (fun _ h => h.2)) (fun _ h => h.1)); have n1_ := Aside0.mk (KeepBut.blk hk (g' := gb150) (o := .cells #[.slice none 0 0, .slice none 0 0] 37 (0, 0)) B9x1_ NB150_151.out (by simp)); have n2_ := Aside0.mk (KeepBut.blk hk (g' := gb152) (o := .cells #[u153000, .slice none 0 0] 37 (0, 0)) B9x3_ NB152_151.out (by simp)); have n3_ := Aside0.mk (hb); have n4_ := Aside0.mk (hi); clear HO_153000; clear BK150; clear BK152; clear HB; clear HI151; have HO_153000 := n0_; have BK150 := n1_; have BK152 := n2_; have HB := n3_; have HI151 := n4_; clear n0_ n1_ n2_ n3_ n4_; (try clear hb); (try clear hb2); (try clear hk); (try clear hi)) | ((with_reducible refine gate_dst (N := 8) rfl ?_); refine box_event ?hg (N := 8) ?hd (cs := #[.int .i64 0, .int .i64 0, .string (⟨#[]⟩ : ByteArray)]) (t := 101) ?hr ?_; (case hd => rfl); (case hg => rfl); (case hr => first | (go_simp; done) | (go_simp; rfl)); intro gb161 hg w20 hbox hb; have n0_ := Aside0.mk (Kd.R_below (Kd.R_elderB B9x6_ gb161 (Nat.le_of_eq hg.symm)) hb); have n1_ := Aside0.mk (blk_below (g := gb150) (o := .cells #[.slice none 0 0, .slice none 0 0] 37 (0, 0)) B9x1_ hb); have n2_ := Aside0.mk (blk_below (g := gb152) (o := .cells #[u153000, .slice none 0 0] 37 (0, 0)) B9x3_ hb); have n3_ := Aside0.mk (IsS98.below B9x4_ hb); have n4_ := Aside0.mk (below_step B9x0_ hb); have n5_ := Aside0.mk (hbox); have n6_ := Aside0.mk ((by rw [hg]; exact (below_size B9x0_) : w.heap.size ≤ gb161)); have n7_ := Aside0.mk ((by rw [hg]; exact (below_size B9x0_) : w.heap.size ≤ gb161)); have n8_ := Aside0.mk ((by rw [hg]; exact Nat.ne_of_lt (blk_lt (g := gb150) (o := .cells #[.slice none 0 0, .slice none 0 0] 37 (0, 0)) B9x1_) : gb150 ≠ gb161)); have n9_ := Aside0.mk ((by rw [hg]; exact Nat.ne_of_gt (blk_lt (g := gb150) (o := .cells #[.slice none 0 0, .slice none 0 0] 37 (0, 0)) B9x1_) : gb161 ≠ gb150)); have n10_ := Aside0.mk ((by rw [hg]; exact Nat.ne_of_lt (blk_lt (g := gb152) (o := .cells #[u153000, .slice none 0 0] 37 (0, 0)) B9x3_) : gb152 ≠ gb161)); have n11_ := Aside0.mk ((by rw [hg]; exact Nat.ne_of_gt (blk_lt (g := gb152) (o := .cells #[u153000, .slice none 0 0] 37 (0, 0)) B9x3_) : gb161 ≠ gb152)); have n12_ := Aside0.mk ((by rw [hg]; exact Nat.ne_of_lt (IsS98.lt (show IsS98 w _ gb151 t158 t159 t160 from by repeat (first | (with_reducible first | exact HI151.out | apply IsS98.alloc | apply IsS98.drewN | apply IsS98.drew | apply IsS98.set_0 | apply IsS98.set_1 | apply IsS98.set_2 | refine IsS98.far ?_ NB151_150.out _ | refine IsS98.far ?_ NB151_152.out _) | exact HI151.out))) : gb151 ≠ gb161)); have n13_ := Aside0.mk ((by rw [hg]; exact Nat.ne_of_gt (IsS98.lt (show IsS98 w _ gb151 t158 t159 t160 from by repeat (first | (with_reducible first | exact HI151.out | apply IsS98.alloc | apply IsS98.drewN | apply IsS98.drew | apply IsS98.set_0 | apply IsS98.set_1 | apply IsS98.set_2 | refine IsS98.far ?_ NB151_150.out _ | refine IsS98.far ?_ NB151_152.out _) | exact HI151.out))) : gb161 ≠ gb151)); clear HO_153000; clear BK150; clear BK152; clear HI151; clear HB; have HO_153000 := n0_; have BK150 := n1_; have BK152 := n2_; have HI151 := n3_; have HB := n4_; have BK161 := n5_; have GW161 := n6_; have GE161 := n7_; have NB150_161 := n8_; have NB161_150 := n9_; have NB152_161 := n10_; have NB161_152 := n11_; have NB151_161 := n12_; have NB161_151 := n13_; clear n0_ n1_ n2_ n3_ n4_ n5_ n6_ n7_ n8_ n9_ n10_ n11_ n12_ n13_; clear hb hbox hg; have hnb21 := NB161_150.out; have hnc21 := NB150_161.out; have hnb22 := NB161_152.out; have hnc22 := NB152_161.out; have hnb23 := NB161_151.out; have hnc23 := NB151_161.out; obtain ⟨hcz24_0, hcz24_1, hcz24_2⟩ := cl3 BK161.out; obtain ⟨hfz24_0, hfz24_1, hfz24_2⟩ := fr3 BK161.out) | ((with_reducible refine gate_callee (f := 75) rfl ?_); refine goesL_ (some 39) rfl rfl Try.func75 B9x20_ rfl #[.pointer (some ⟨gb151, 0, none⟩)] rfl B9x2_ ?_; (with_reducible refine (spec_l16Var.calls kj9 gb151 t158 t159 t160 t162 t163 t164 t165 w _ ?side1 ?side2 A16.out).mono ?_); (case side1 => repeat (first | (with_reducible first | exact HI151.out | apply IsS98.alloc | apply IsS98.drewN | apply IsS98.drew | apply IsS98.set_0 | apply IsS98.set_1 | apply IsS98.set_2 | refine IsS98.far ?_ NB151_150.out _ | refine IsS98.far ?_ NB151_152.out _ | refine IsS98.far ?_ NB151_161.out _) | exact HI151.out)); (case side2 => repeat (first | (with_reducible first | exact HB.out | apply below_alloc | apply pw_below_drewN | apply below_drew1 | refine below_set ?_ (IsS98.ge HI151.out) | refine below_set ?_ GE150.out | refine below_set ?_ GE152.out | refine below_set ?_ GE161.out) | exact HB.out)); rintro e w25 ⟨rfl, hi, hb, hk⟩; refine ⟨_, rfl, ?_⟩; have n0_ := Aside0.mk (Kd.R_mono (Kd.R_keep (IsS98.apart (show IsS98 w _ gb151 t158 t159 t160 from by repeat (first | (with_reducible first | exact HI151.out | apply IsS98.alloc | apply IsS98.drewN | apply IsS98.drew | apply IsS98.set_0 | apply IsS98.set_1 | apply IsS98.set_2 | refine IsS98.far ?_ NB151_150.out _ | refine IsS98.far ?_ NB151_152.out _ | refine IsS98.far ?_ NB151_161.out _) | exact HI151.out)) (by (with_reducible repeat (first | apply Kd.R_alloc | apply Kd.R_drewN | apply Kd.R_drew)); exact (Kd.R_mono (Kd.R_far (p := ⟨gb161, 2, none⟩) (Kd.R_far (p := ⟨gb161, 1, none⟩) (Kd.R_far (p := ⟨gb161, 0, none⟩) (Kd.R_mono HO_153000.out (fun k_ hk => (⟨hk, hk.2⟩ : _ ∧ k_ ≠ gb161))) (fun _ hk => hk.2) (.int .i64 t157)) (fun _ hk => hk.2) (.int .i64 0)) (fun _ hk => hk.2) (.string (⟨#[]⟩ : ByteArray))) (fun _ h_ => h_.1))) (by decide)) hk (fun _ h => h.2)) (fun _ h => h.1)); have n1_ := Aside0.mk (KeepBut.blk hk (g' := gb150) (o := .cells #[.slice none 0 0, .slice none 0 0] 37 (0, 0)) (by (with_reducible repeat (first | refine blk_drewN ?_ _ | refine blk_drew ?_ | refine blk_alloc ?_ _)); refine blk_far ?_ NB150_161.out _; (with_reducible repeat (first | refine blk_drewN ?_ _ | refine blk_drew ?_ | refine blk_alloc ?_ _)); refine blk_far ?_ NB150_161.out _; (with_reducible repeat (first | refine blk_drewN ?_ _ | refine blk_drew ?_ | refine blk_alloc ?_ _)); refine blk_far ?_ NB150_161.out _; (with_reducible repeat (first | refine blk_drewN ?_ _ | refine blk_drew ?_ | refine blk_alloc ?_ _)); exact BK150.out) NB150_151.out (by simp)); have n2_ := Aside0.mk (KeepBut.blk hk (g' := gb152) (o := .cells #[u153000, .slice none 0 0] 37 (0, 0)) (by (with_reducible repeat (first | refine blk_drewN ?_ _ | refine blk_drew ?_ | refine blk_alloc ?_ _)); refine blk_far ?_ NB152_161.out _; (with_reducible repeat (first | refine blk_drewN ?_ _ | refine blk_drew ?_ | refine blk_alloc ?_ _)); refine blk_far ?_ NB152_161.out _; (with_reducible repeat (first | refine blk_drewN ?_ _ | refine blk_drew ?_ | refine blk_alloc ?_ _)); refine blk_far ?_ NB152_161.out _; (with_reducible repeat (first | refine blk_drewN ?_ _ | refine blk_drew ?_ | refine blk_alloc ?_ _)); exact BK152.out) NB152_151.out (by simp)); have n3_ := Aside0.mk (KeepBut.blk hk (g' := gb161) (o := .cells #[.int .i64 t157, .int .i64 0, .string (⟨#[]⟩ : ByteArray)] 101 (0, 0)) (by (with_reducible repeat (first | refine blk_drewN ?_ _ | refine blk_drew ?_ | refine blk_alloc ?_ _)); refine blk_put (cs := #[.int .i64 t157, .int .i64 0, .string (⟨#[]⟩ : ByteArray)]) ?_ 2 _ rfl; (with_reducible repeat (first | refine blk_drewN ?_ _ | refine blk_drew ?_ | refine blk_alloc ?_ _)); refine blk_put (cs := #[.int .i64 t157, .int .i64 0, .string (⟨#[]⟩ : ByteArray)]) ?_ 1 _ rfl; (with_reducible repeat (first | refine blk_drewN ?_ _ | refine blk_drew ?_ | refine blk_alloc ?_ _)); refine blk_put (cs := #[.int .i64 0, .int .i64 0, .string (⟨#[]⟩ : ByteArray)]) ?_ 0 _ rfl; (with_reducible repeat (first | refine blk_drewN ?_ _ | refine blk_drew ?_ | refine blk_alloc ?_ _)); exact BK161.out) NB161_151.out (by simp)); have n4_ := Aside0.mk (hb); have n5_ := Aside0.mk (hi); clear HO_153000; clear BK150; clear BK152; clear BK161; clear HB; clear HI151; have HO_153000 := n0_; have BK150 := n1_; have BK152 := n2_; have BK161 := n3_; have HB := n4_; have HI151 := n5_; clear n0_ n1_ n2_ n3_ n4_ n5_; (try clear hb); (try clear hb2); (try clear hk); (try clear hi); obtain ⟨hcz26_0, hcz26_1, hcz26_2⟩ := cl3 BK161.out; obtain ⟨hfz26_0, hfz26_1, hfz26_2⟩ := fr3 BK161.out) | ((with_reducible refine gate_callee (f := 76) rfl ?_); refine goesL_ (some 42) rfl rfl Try.func76 B9x20_ rfl #[.pointer (some ⟨gb151, 0, none⟩)] rfl B9x2_ ?_; (with_reducible refine (spec_l16ReadShort.calls kj9 gb151 t163 t164 t165 t166 t167 t168 t169 w _ ?side1 ?side2 A17.out).mono ?_); (case side1 => repeat (first | (with_reducible first | exact HI151.out | apply IsS98.alloc | apply IsS98.drewN | apply IsS98.drew | apply IsS98.set_0 | apply IsS98.set_1 | apply IsS98.set_2 | refine IsS98.far ?_ NB151_150.out _ | refine IsS98.far ?_ NB151_152.out _ | refine IsS98.far ?_ NB151_161.out _) | exact HI151.out)); (case side2 => repeat (first | (with_reducible first | exact HB.out | apply below_alloc | apply pw_below_drewN | apply below_drew1 | refine below_set ?_ (IsS98.ge HI151.out) | refine below_set ?_ GE150.out | refine below_set ?_ GE152.out | refine below_set ?_ GE161.out) | exact HB.out)); rintro e w27 ⟨rfl, hi, hb, hk⟩; refine ⟨_, rfl, ?_⟩; have n0_ := Aside0.mk (Kd.R_mono (Kd.R_keep (IsS98.apart (show IsS98 w _ gb151 t163 t164 t165 from by repeat (first | (with_reducible first | exact HI151.out | apply IsS98.alloc | apply IsS98.drewN | apply IsS98.drew | apply IsS98.set_0 | apply IsS98.set_1 | apply IsS98.set_2 | refine IsS98.far ?_ NB151_150.out _ | refine IsS98.far ?_ NB151_152.out _ | refine IsS98.far ?_ NB151_161.out _) | exact HI151.out)) (by (with_reducible repeat (first | apply Kd.R_alloc | apply Kd.R_drewN | apply Kd.R_drew)); exact (Kd.R_mono (Kd.R_far (p := ⟨gb161, 1, none⟩) (Kd.R_mono HO_153000.out (fun k_ hk => (⟨hk, hk.2⟩ : _ ∧ k_ ≠ gb161))) (fun _ hk => hk.2) (.int .i64 t162)) (fun _ h_ => h_.1))) (by decide)) hk (fun _ h => h.2)) (fun _ h => h.1)); have n1_ := Aside0.mk (KeepBut.blk hk (g' := gb150) (o := .cells #[.slice none 0 0, .slice none 0 0] 37 (0, 0)) B9x15_ NB150_151.out (by simp)); have n2_ := Aside0.mk (KeepBut.blk hk (g' := gb152) (o := .cells #[u153000, .slice none 0 0] 37 (0, 0)) B9x17_ NB152_151.out (by simp)); have n3_ := Aside0.mk (KeepBut.blk hk (g' := gb161) (o := .cells #[.int .i64 t157, .int .i64 t162, .string (⟨#[]⟩ : ByteArray)] 101 (0, 0)) (by (with_reducible repeat (first | refine blk_drewN ?_ _ | refine blk_drew ?_ | refine blk_alloc ?_ _)); refine blk_put (cs := #[.int .i64 t157, .int .i64 0, .string (⟨#[]⟩ : ByteArray)]) ?_ 1 _ rfl; (with_reducible repeat (first | refine blk_drewN ?_ _ | refine blk_drew ?_ | refine blk_alloc ?_ _)); exact BK161.out) NB161_151.out (by simp)); have n4_ := Aside0.mk (hb); have n5_ := Aside0.mk (hi); clear HO_153000; clear BK150; clear BK152; clear BK161; clear HB; clear HI151; have HO_153000 := n0_; have BK150 := n1_; have BK152 := n2_; have BK161 := n3_; have HB := n4_; have HI151 := n5_; clear n0_ n1_ n2_ n3_ n4_ n5_; (try clear hb); (try clear hb2); (try clear hk); (try clear hi); obtain ⟨hcz28_0, hcz28_1, hcz28_2⟩ := cl3 BK161.out; obtain ⟨hfz28_0, hfz28_1, hfz28_2⟩ := fr3 BK161.out; have hnb29 := NB152_150.out; have hnc29 := NB150_152.out; have hnb30 := NB152_151.out; have hnc30 := NB151_152.out; obtain ⟨hcz31_0, hcz31_1⟩ := cl2 BK152.out; obtain ⟨hfz31_0, hfz31_1⟩ := fr2 BK152.out) | ((with_reducible refine gate_builtin (b := .append) (xs := #[.tmp 45, .tmp 47]) rfl ?_); at_builtin; refine Kd.R_append k101 (w0 := w) w.heap.size rfl (.tmp 45) (.tmp 47) 34 101 (.agg #[(.int .i64 0), (.int .i64 0), (.string ⟨#[]⟩)]) 32 rfl Try.underlying34 info101 rfl (by decide) (by omega) u153000 x153000_1 (⟨t157, t162, t166⟩ : S101) [.int .i64 t157, .int .i64 t162, .string t166] (fun k_ => k_ ≠ gb161) (fun _ => False) rfl (by first | (go_simp; done) | (go_simp; rfl)) ?aP (fun _ hk => hk.elim) ?aF ?aO ?aB ?aS ?aL ?_; (case aP => exact k101_mkM _ _ _ (⟨t157, t162, t166⟩ : S101)); (case aB => exact B9x12_); (case aF => exact (fun k_ hk => Kd.freshB (g := gb161) (o := .cells #[.int .i64 t157, .int .i64 t162, .string t166] 101 (0, 0)) B9x10_ k_ hk)); (case aO => exact (by (with_reducible repeat (first | apply Kd.R_alloc | apply Kd.R_drewN | apply Kd.R_drew)); exact Kd.R_mono (Kd.R_far (p := ⟨gb161, 2, none⟩) (Kd.R_mono HO_153000.out (fun k_ hk => (⟨hk, hk.2⟩ : _ ∧ k_ ≠ gb161))) (fun _ hk => hk.2) (.string t166)) (fun _ hk => hk.1.2))); (case aS => exact (below_size B9x12_)); (case aL => have := LMc18.out; omega); intro v171 w32 ho hb hg hat; rw [← Ny170.out] at ho; have n0_ := Aside0.mk (blk_grown (g := gb150) (o := .cells #[.slice none 0 0, .slice none 0 0] 37 (0, 0)) B9x15_ hg (Kd.R_ne HO_153000.out BK150.out (by decide))); have n1_ := Aside0.mk (blk_grown (g := gb152) (o := .cells #[u153000, .slice none 0 0] 37 (0, 0)) B9x17_ hg (Kd.R_ne HO_153000.out BK152.out (by decide))); have n2_ := Aside0.mk (IsS98.grown (IsS98.far HI151.out NB151_161.out _) hg (IsS98.own_ne HI151.out HO_153000.out (by decide))); have n3_ := Aside0.mk (blk_grown (g := gb161) (o := .cells #[.int .i64 t157, .int .i64 t162, .string t166] 101 (0, 0)) B9x10_ hg (Kd.R_away HO_153000.out (fun _ hk => hk.2))); have n4_ := Aside0.mk (hb); have n5_ := Aside0.mk (ho); clear BK150; clear BK152; clear HI151; clear BK161; clear HB; clear HO_153000; have BK150 := n0_; have BK152 := n1_; have HI151 := n2_; have BK161 := n3_; have HB := n4_; have HO172 := n5_; clear n0_ n1_ n2_ n3_ n4_ n5_; clear ho hb hg hat; obtain ⟨Ao33, co33, eo33⟩ := Kd.R_slice HO172.out; subst eo33; obtain ⟨hcz34_0, hcz34_1⟩ := cl2 BK152.out; obtain ⟨hfz34_0, hfz34_1⟩ := fr2 BK152.out))
       go_roundg kj9
       case measure => have := HK1.out; have := HJ9.out; omega
       case rel => exact ⟨(wrap64 (x7_1 + 1)), (t167), (t168), (t169), (y170), (.slice Ao33 y170.length co33), (be_), H', ⟨by have := HK1.out; have := HJ9.out; omega⟩, ⟨by (with_reducible repeat (first | apply Kd.R_alloc | apply Kd.R_drewN | apply Kd.R_drew)); exact Kd.R_mono (Kd.R_far (p := ⟨gb152, 0, none⟩) (Kd.R_types HO172.out BK152.out (by decide)) (fun _ hk => hk.2) (.slice Ao33 y170.length co33)) (fun _ hk => trivial)⟩, ⟨by (with_reducible repeat (first | refine blk_drewN ?_ _ | refine blk_drew ?_ | refine blk_alloc ?_ _)); refine blk_far ?_ NB150_152.out _; (with_reducible repeat (first | refine blk_drewN ?_ _ | refine blk_drew ?_ | refine blk_alloc ?_ _)); exact BK150.out⟩, ⟨by (with_reducible repeat (first | refine blk_drewN ?_ _ | refine blk_drew ?_ | refine blk_alloc ?_ _)); refine blk_put (cs := #[u153000, .slice none 0 0]) ?_ 0 _ rfl; (with_reducible repeat (first | refine blk_drewN ?_ _ | refine blk_drew ?_ | refine blk_alloc ?_ _)); exact BK152.out⟩, ⟨by repeat (first | (with_reducible first | exact HI151.out | apply IsS98.alloc | apply IsS98.drewN | apply IsS98.drew | apply IsS98.set_0 | apply IsS98.set_1 | apply IsS98.set_2 | refine IsS98.far ?_ NB151_150.out _ | refine IsS98.far ?_ NB151_152.out _ | refine IsS98.far ?_ NB151_161.out _) | exact HI151.out)⟩, ⟨by repeat (first | (with_reducible first | exact HB.out | apply below_alloc | apply pw_below_drewN | apply below_drew1 | refine below_set ?_ (IsS98.ge HI151.out) | refine below_set ?_ GE150.out | refine below_set ?_ GE152.out | refine below_set ?_ GE161.out) | exact HB.out)⟩⟩
      ·rw [if_neg c18] at H
       exact absurd H (by simp)
     ·replace c14 := Bool.eq_false_iff.mpr c14
      subst c14
      rw [if_neg (show ¬ (false = true) by decide)] at H
      replace H := Option.bind_eq_some_iff.mp H
      obtain ⟨⟨t173, t174, t175, t176⟩, A350, H⟩ := H
      (try dsimp only at H)
      have A35 := Aside0.mk A350
      clear A350
      have H' := Aside0.mk H
      clear H
      go_wp2_with (first | ((with_reducible refine gate_callee (f := 75) rfl ?_); refine goesL_ (some 51) rfl rfl Try.func75 B9x20_ rfl #[.pointer (some ⟨gb151, 0, none⟩)] rfl B9x2_ ?_; (with_reducible refine (spec_l16Var.calls kj9 gb151 x152000_1 x152001_1 x152002_1 t173 t174 t175 t176 w _ ?side1 ?side2 A35.out).mono ?_); (case side1 => repeat (first | (with_reducible first | exact HI151.out | apply IsS98.alloc | apply IsS98.drewN | apply IsS98.drew | apply IsS98.set_0 | apply IsS98.set_1 | apply IsS98.set_2 | refine IsS98.far ?_ NB151_150.out _ | refine IsS98.far ?_ NB151_152.out _) | exact HI151.out)); (case side2 => repeat (first | (with_reducible first | exact HB.out | apply below_alloc | apply pw_below_drewN | apply below_drew1 | refine below_set ?_ (IsS98.ge HI151.out) | refine below_set ?_ GE150.out | refine below_set ?_ GE152.out) | exact HB.out)); rintro e w36 ⟨rfl, hi, hb, hk⟩; refine ⟨_, rfl, ?_⟩; have n0_ := Aside0.mk (Kd.R_mono (Kd.R_keep (IsS98.apart (show IsS98 w _ gb151 x152000_1 x152001_1 x152002_1 from by repeat (first | (with_reducible first | exact HI151.out | apply IsS98.alloc | apply IsS98.drewN | apply IsS98.drew | apply IsS98.set_0 | apply IsS98.set_1 | apply IsS98.set_2 | refine IsS98.far ?_ NB151_150.out _ | refine IsS98.far ?_ NB151_152.out _) | exact HI151.out)) B9x6_ (by decide)) hk (fun _ h => h.2)) (fun _ h => h.1)); have n1_ := Aside0.mk (KeepBut.blk hk (g' := gb150) (o := .cells #[.slice none 0 0, .slice none 0 0] 37 (0, 0)) B9x1_ NB150_151.out (by simp)); have n2_ := Aside0.mk (KeepBut.blk hk (g' := gb152) (o := .cells #[u153000, .slice none 0 0] 37 (0, 0)) B9x3_ NB152_151.out (by simp)); have n3_ := Aside0.mk (hb); have n4_ := Aside0.mk (hi); clear HO_153000; clear BK150; clear BK152; clear HB; clear HI151; have HO_153000 := n0_; have BK150 := n1_; have BK152 := n2_; have HB := n3_; have HI151 := n4_; clear n0_ n1_ n2_ n3_ n4_; (try clear hb); (try clear hb2); (try clear hk); (try clear hi)))
      go_loopg [9] kj9 (fun kq v9 w' => ∃ (x9_3 : Int) (x152000_3 : ByteArray) (x152001_3 : Int) (x152002_3 : Bool) (x153001_3 : List (S104)) (u153001 : Value), v9 = .int .i64 x9_3 ∧ Aside0 (spec_ReadKeep.l1 kq a0 t173 x9_3 x152000_3 x152001_3 x152002_3 x153000_1 x153001_3 = some (r1, r2, r3)) ∧ Aside0 (kq ≤ kj9) ∧ Aside0 (Kd.R k101 101 w' w.heap.size (fun _ => True) u153000 x153000_1) ∧ Aside0 (Kd.R k104 104 w' w.heap.size (fun _ => True) u153001 x153001_3) ∧ Aside0 (w'.heap[gb150]? = some (.cells #[(.slice none 0 0), (.slice none 0 0)] 37 (0, 0))) ∧ Aside0 (w'.heap[gb152]? = some (.cells #[u153000, u153001] 37 (0, 0))) ∧ Aside0 (IsS98 w w' gb151 x152000_3 x152001_3 x152002_3) ∧ Aside0 (Below w.heap.size w w'))
      case atStart => exact ⟨(0), (t174), (t175), (t176), (([] : List (S104))), (.slice none 0 0), (be_), H', ⟨Nat.le_refl _⟩, ⟨by (with_reducible repeat (first | apply Kd.R_alloc | apply Kd.R_drewN | apply Kd.R_drew)); exact HO_153000.out⟩, ⟨by first | exact Kd.R_nil _ _ _ _ _ | exact Kd.N_nil _ _ _ _ _ | exact Kd.V_nil _ _ _ _ _ | exact Kd.Q_nil _ _ _ _ _ | exact Kd.S_nil _ _ _ _ _⟩, ⟨by (with_reducible repeat (first | refine blk_drewN ?_ _ | refine blk_drew ?_ | refine blk_alloc ?_ _)); exact BK150.out⟩, ⟨by (with_reducible repeat (first | refine blk_drewN ?_ _ | refine blk_drew ?_ | refine blk_alloc ?_ _)); exact BK152.out⟩, ⟨by repeat (first | (with_reducible first | exact HI151.out | apply IsS98.alloc | apply IsS98.drewN | apply IsS98.drew | apply IsS98.set_0 | apply IsS98.set_1 | apply IsS98.set_2 | refine IsS98.far ?_ NB151_150.out _ | refine IsS98.far ?_ NB151_152.out _) | exact HI151.out)⟩, ⟨by repeat (first | (with_reducible first | exact HB.out | apply below_alloc | apply pw_below_drewN | apply below_drew1 | refine below_set ?_ (IsS98.ge HI151.out) | refine below_set ?_ GE150.out | refine below_set ?_ GE152.out) | exact HB.out)⟩⟩
      case round =>
       clear H'
       try clear c1
       try clear c2
       try clear p2
       try clear c3
       try clear c6
       try clear p6
       try clear c7
       try clear c11
       try clear c11b0
       try clear c12
       try clear c12b0
       try clear c14
       try clear c16
       try clear c18
       try clear c21
       try clear c22
       try clear c23
       try clear c29
       try clear c30
       try clear hcz13_0
       try clear hcz13_1
       try clear hcz13_2
       try clear hcz24_0
       try clear hcz24_1
       try clear hcz24_2
       try clear hcz26_0
       try clear hcz26_1
       try clear hcz26_2
       try clear hcz28_0
       try clear hcz28_1
       try clear hcz28_2
       try clear hcz31_0
       try clear hcz31_1
       try clear hcz34_0
       try clear hcz34_1
       try clear hcz8_0
       try clear hcz8_1
       try clear hfz13_0
       try clear hfz13_1
       try clear hfz13_2
       try clear hfz24_0
       try clear hfz24_1
       try clear hfz24_2
       try clear hfz26_0
       try clear hfz26_1
       try clear hfz26_2
       try clear hfz28_0
       try clear hfz28_1
       try clear hfz28_2
       try clear hfz31_0
       try clear hfz31_1
       try clear hfz34_0
       try clear hfz34_1
       try clear hfz8_0
       try clear hfz8_1
       try clear p2
       obtain ⟨x9_3, x152000_3, x152001_3, x152002_3, x153001_3, u153001, rfl, HA, HK3, HO_153000, HO_153001, BK150, BK152, HI151, HB⟩ := hrel
       cases gk with
       | zero => exact absurd HA.out (by simp [spec_ReadKeep.l1])
       | succ k3 =>
        have H := HA.out
        clear HA
        simp only [spec_ReadKeep.l1] at H
        have HC37 := Aside0.mk H
        clear H
        go_upto_region 13 with (fail)
        go_cut [65] (fun v65 wc => ∃ (kq : Nat) (x65_36 : Bool), v65 = .bool x65_36 ∧ Aside0 (spec_ReadKeep.j3 kq a0 t173 x9_3 x65_36 x152000_3 x152001_3 x152002_3 x153000_1 x153001_3 = some (r1, r2, r3)) ∧ Aside0 (kq ≤ k3) ∧ Aside0 (Kd.R k101 101 wc w.heap.size (fun _ => True) u153000 x153000_1) ∧ Aside0 (Kd.R k104 104 wc w.heap.size (fun _ => True) u153001 x153001_3) ∧ Aside0 (wc.heap[gb150]? = some (.cells #[(.slice none 0 0), (.slice none 0 0)] 37 (0, 0))) ∧ Aside0 (wc.heap[gb152]? = some (.cells #[u153000, u153001] 37 (0, 0))) ∧ Aside0 (IsS98 w wc gb151 x152000_3 x152001_3 x152002_3) ∧ Aside0 (Below w.heap.size w wc))
        case first =>
         have H := HC37.out
         clear HC37
         by_cases c38 : x9_3 < t173
         ·rw [if_pos c38] at H
          have c38b0 : decide (x9_3 < t173) = true := decide_eq_true c38
          clear c38
          (first | rw [c38b0] | (simp only [i64_w, i32_w]; rw [c38b0]) | skip)
          by_cases c39 : x9_3 < 50
          ·rw [if_pos c39] at H
           have c39b0 : decide (x9_3 < 50) = true := decide_eq_true c39
           clear c39
           have H' := Aside0.mk H
           clear H
           obtain ⟨HGz40, hgz40⟩ := HI151.out
           have hcz40_0 := cellS98_0 HGz40
           have hcz40_1 := cellS98_1 HGz40
           have hcz40_2 := cellS98_2 HGz40
           obtain ⟨hfz40_0, hfz40_1, hfz40_2⟩ := fr3 HGz40
           clear HGz40 hgz40
           go_wp2
           go_meet
           case rel => exact ⟨_, (!x152002_3), (be_), H', ⟨by have := HK1.out; have := HJ9.out; have := HK3.out; first | omega | exact Nat.le_refl _⟩, ⟨by (with_reducible repeat (first | apply Kd.R_alloc | apply Kd.R_drewN | apply Kd.R_drew)); exact HO_153000.out⟩, ⟨by (with_reducible repeat (first | apply Kd.R_alloc | apply Kd.R_drewN | apply Kd.R_drew)); exact HO_153001.out⟩, ⟨by (with_reducible repeat (first | refine blk_drewN ?_ _ | refine blk_drew ?_ | refine blk_alloc ?_ _)); exact BK150.out⟩, ⟨by (with_reducible repeat (first | refine blk_drewN ?_ _ | refine blk_drew ?_ | refine blk_alloc ?_ _)); exact BK152.out⟩, ⟨by repeat (first | (with_reducible first | exact HI151.out | apply IsS98.alloc | apply IsS98.drewN | apply IsS98.drew | apply IsS98.set_0 | apply IsS98.set_1 | apply IsS98.set_2 | refine IsS98.far ?_ NB151_150.out _ | refine IsS98.far ?_ NB151_152.out _) | exact HI151.out)⟩, ⟨by repeat (first | (with_reducible first | exact HB.out | apply below_alloc | apply pw_below_drewN | apply below_drew1 | refine below_set ?_ (IsS98.ge HI151.out) | refine below_set ?_ GE150.out | refine below_set ?_ GE152.out) | exact HB.out)⟩⟩
          ·rw [if_neg c39] at H
           have c39b0 : decide (x9_3 < 50) = false := decide_eq_false c39
           clear c39
           have H' := Aside0.mk H
           clear H
           go_wp2
           go_meet
           case rel => exact ⟨_, (false), (be_), H', ⟨by have := HK1.out; have := HJ9.out; have := HK3.out; first | omega | exact Nat.le_refl _⟩, ⟨by (with_reducible repeat (first | apply Kd.R_alloc | apply Kd.R_drewN | apply Kd.R_drew)); exact HO_153000.out⟩, ⟨by (with_reducible repeat (first | apply Kd.R_alloc | apply Kd.R_drewN | apply Kd.R_drew)); exact HO_153001.out⟩, ⟨by (with_reducible repeat (first | refine blk_drewN ?_ _ | refine blk_drew ?_ | refine blk_alloc ?_ _)); exact BK150.out⟩, ⟨by (with_reducible repeat (first | refine blk_drewN ?_ _ | refine blk_drew ?_ | refine blk_alloc ?_ _)); exact BK152.out⟩, ⟨by repeat (first | (with_reducible first | exact HI151.out | apply IsS98.alloc | apply IsS98.drewN | apply IsS98.drew | apply IsS98.set_0 | apply IsS98.set_1 | apply IsS98.set_2 | refine IsS98.far ?_ NB151_150.out _ | refine IsS98.far ?_ NB151_152.out _) | exact HI151.out)⟩, ⟨by repeat (first | (with_reducible first | exact HB.out | apply below_alloc | apply pw_below_drewN | apply below_drew1 | refine below_set ?_ (IsS98.ge HI151.out) | refine below_set ?_ GE150.out | refine below_set ?_ GE152.out) | exact HB.out)⟩⟩
         ·rw [if_neg c38] at H
          have c38b0 : decide (x9_3 < t173) = false := decide_eq_false c38
          clear c38
          (first | rw [c38b0] | (simp only [i64_w, i32_w]; rw [c38b0]) | skip)
          have H' := Aside0.mk H
          clear H
          go_wp2
          go_meet
          case rel => exact ⟨_, (false), (be_), H', ⟨by have := HK1.out; have := HJ9.out; have := HK3.out; first | omega | exact Nat.le_refl _⟩, ⟨by (with_reducible repeat (first | apply Kd.R_alloc | apply Kd.R_drewN | apply Kd.R_drew)); exact HO_153000.out⟩, ⟨by (with_reducible repeat (first | apply Kd.R_alloc | apply Kd.R_drewN | apply Kd.R_drew)); exact HO_153001.out⟩, ⟨by (with_reducible repeat (first | refine blk_drewN ?_ _ | refine blk_drew ?_ | refine blk_alloc ?_ _)); exact BK150.out⟩, ⟨by (with_reducible repeat (first | refine blk_drewN ?_ _ | refine blk_drew ?_ | refine blk_alloc ?_ _)); exact BK152.out⟩, ⟨by repeat (first | (with_reducible first | exact HI151.out | apply IsS98.alloc | apply IsS98.drewN | apply IsS98.drew | apply IsS98.set_0 | apply IsS98.set_1 | apply IsS98.set_2 | refine IsS98.far ?_ NB151_150.out _ | refine IsS98.far ?_ NB151_152.out _) | exact HI151.out)⟩, ⟨by repeat (first | (with_reducible first | exact HB.out | apply below_alloc | apply pw_below_drewN | apply below_drew1 | refine below_set ?_ (IsS98.ge HI151.out) | refine below_set ?_ GE150.out | refine below_set ?_ GE152.out) | exact HB.out)⟩⟩
        case rest =>
         clear HC37
         try clear c1
         try clear c2
         try clear p2
         try clear c3
         try clear c6
         try clear p6
         try clear c7
         try clear c11
         try clear c11b0
         try clear c12
         try clear c12b0
         try clear c14
         try clear c16
         try clear c18
         try clear c21
         try clear c22
         try clear c23
         try clear c29
         try clear c30
         try clear c38
         try clear c38b0
         try clear c39
         try clear c39b0
         try clear hcz13_0
         try clear hcz13_1
         try clear hcz13_2
         try clear hcz24_0
         try clear hcz24_1
         try clear hcz24_2
         try clear hcz26_0
         try clear hcz26_1
         try clear hcz26_2
         try clear hcz28_0
         try clear hcz28_1
         try clear hcz28_2
         try clear hcz31_0
         try clear hcz31_1
         try clear hcz34_0
         try clear hcz34_1
         try clear hcz40_0
         try clear hcz40_1
         try clear hcz40_2
         try clear hcz8_0
         try clear hcz8_1
         try clear hfz13_0
         try clear hfz13_1
         try clear hfz13_2
         try clear hfz24_0
         try clear hfz24_1
         try clear hfz24_2
         try clear hfz26_0
         try clear hfz26_1
         try clear hfz26_2
         try clear hfz28_0
         try clear hfz28_1
         try clear hfz28_2
         try clear hfz31_0
         try clear hfz31_1
         try clear hfz34_0
         try clear hfz34_1
         try clear hfz40_0
         try clear hfz40_1
         try clear hfz40_2
         try clear hfz8_0
         try clear hfz8_1
         try clear p2
         try clear p6
         obtain ⟨kq, x65_36, rfl, HA, HJ36, HO_153000, HO_153001, BK150, BK152, HI151, HB⟩ := hcut
         cases kq with
         | zero => exact absurd HA.out (by simp [spec_ReadKeep.j3])
         | succ kj36 =>
          have H := HA.out
          clear HA
          simp only [spec_ReadKeep.j3] at H
          by_cases c41 : x65_36 = true
          ·subst c41
           rw [if_pos rfl] at H
           replace H := Option.bind_eq_some_iff.mp H
           obtain ⟨⟨t177, t178, t179, t180⟩, A420, H⟩ := H
           (try dsimp only at H)
           have A42 := Aside0.mk A420
           clear A420
           replace H := Option.bind_eq_some_iff.mp H
           obtain ⟨⟨t182, t183, t184, t185⟩, A430, H⟩ := H
           (try dsimp only at H)
           have A43 := Aside0.mk A430
           clear A430
           replace H := Option.bind_eq_some_iff.mp H
           obtain ⟨⟨t186, t187, t188, t189⟩, A440, H⟩ := H
           (try dsimp only at H)
           have A44 := Aside0.mk A440
           clear A440
           by_cases c45 : x153001_3.length < 3518437208883
           ·rw [if_pos c45] at H
            have LMc45 := Aside0.mk c45
            clear c45
            obtain ⟨y190, hy190⟩ : ∃ y_ : List (S104), y_ = (x153001_3 ++ [(⟨t177, t182, t186⟩ : S104)]) := ⟨_, rfl⟩
            replace H : (spec_ReadKeep.l1 kj36 a0 t173 (wrap64 (x9_3 + 1)) t187 t188 t189 x153000_1 y190) = some (r1, r2, r3) := by first | (rw [hy190]; with_reducible exact H) | (have H2_ := (Option.bind_some _ _).symm.trans H; rw [hy190]; with_reducible exact H2_) | (have H2_ := (Option.bind_some _ _).symm.trans H; with_reducible exact H2_) | with_reducible exact H | (rw [hy190]; exact H) | exact H
            have Ny190 := Aside0.mk hy190
            clear hy190
            have H' := Aside0.mk H
            clear H
            go_wp2_with (first | ((with_reducible refine gate_callee (f := 76) rfl ?_); refine goesL_ (some 69) rfl rfl Try.func76 B9x20_ rfl #[.pointer (some ⟨gb151, 0, none⟩)] rfl B9x2_ ?_; (with_reducible refine (spec_l16ReadShort.calls kj36 gb151 x152000_3 x152001_3 x152002_3 t177 t178 t179 t180 w _ ?side1 ?side2 A42.out).mono ?_); (case side1 => repeat (first | (with_reducible first | exact HI151.out | apply IsS98.alloc | apply IsS98.drewN | apply IsS98.drew | apply IsS98.set_0 | apply IsS98.set_1 | apply IsS98.set_2 | refine IsS98.far ?_ NB151_150.out _ | refine IsS98.far ?_ NB151_152.out _) | exact HI151.out)); (case side2 => repeat (first | (with_reducible first | exact HB.out | apply below_alloc | apply pw_below_drewN | apply below_drew1 | refine below_set ?_ (IsS98.ge HI151.out) | refine below_set ?_ GE150.out | refine below_set ?_ GE152.out) | exact HB.out)); rintro e w46 ⟨rfl, hi, hb, hk⟩; refine ⟨_, rfl, ?_⟩; have n0_ := Aside0.mk (Kd.R_mono (Kd.R_keep (IsS98.apart (show IsS98 w _ gb151 x152000_3 x152001_3 x152002_3 from by repeat (first | (with_reducible first | exact HI151.out | apply IsS98.alloc | apply IsS98.drewN | apply IsS98.drew | apply IsS98.set_0 | apply IsS98.set_1 | apply IsS98.set_2 | refine IsS98.far ?_ NB151_150.out _ | refine IsS98.far ?_ NB151_152.out _) | exact HI151.out)) B9x6_ (by decide)) hk (fun _ h => h.2)) (fun _ h => h.1)); have n1_ := Aside0.mk (Kd.R_mono (Kd.R_keep (IsS98.apart (show IsS98 w _ gb151 x152000_3 x152001_3 x152002_3 from by repeat (first | (with_reducible first | exact HI151.out | apply IsS98.alloc | apply IsS98.drewN | apply IsS98.drew | apply IsS98.set_0 | apply IsS98.set_1 | apply IsS98.set_2 | refine IsS98.far ?_ NB151_150.out _ | refine IsS98.far ?_ NB151_152.out _) | exact HI151.out)) B9x7_ (by decide)) hk (fun _ h => h.2)) (fun _ h => h.1)); have n2_ := Aside0.mk (KeepBut.blk hk (g' := gb150) (o := .cells #[.slice none 0 0, .slice none 0 0] 37 (0, 0)) B9x1_ NB150_151.out (by simp)); have n3_ := Aside0.mk (KeepBut.blk hk (g' := gb152) (o := .cells #[u153000, u153001] 37 (0, 0)) B9x3_ NB152_151.out (by simp)); have n4_ := Aside0.mk (hb); have n5_ := Aside0.mk (hi); clear HO_153000; clear HO_153001; clear BK150; clear BK152; clear HB; clear HI151; have HO_153000 := n0_; have HO_153001 := n1_; have BK150 := n2_; have BK152 := n3_; have HB := n4_; have HI151 := n5_; clear n0_ n1_ n2_ n3_ n4_ n5_; (try clear hb); (try clear hb2); (try clear hk); (try clear hi)) | ((with_reducible refine gate_dst (N := 10) rfl ?_); refine box_event ?hg (N := 10) ?hd (cs := #[.string (⟨#[]⟩ : ByteArray), .string (⟨#[]⟩ : ByteArray), .int .i64 0]) (t := 104) ?hr ?_; (case hd => rfl); (case hg => rfl); (case hr => first | (go_simp; done) | (go_simp; rfl)); intro gb181 hg w47 hbox hb; have n0_ := Aside0.mk (Kd.R_below B9x6_ hb); have n1_ := Aside0.mk (Kd.R_below (Kd.R_elderB B9x7_ gb181 (Nat.le_of_eq hg.symm)) hb); have n2_ := Aside0.mk (blk_below (g := gb150) (o := .cells #[.slice none 0 0, .slice none 0 0] 37 (0, 0)) B9x1_ hb); have n3_ := Aside0.mk (blk_below (g := gb152) (o := .cells #[u153000, u153001] 37 (0, 0)) B9x3_ hb); have n4_ := Aside0.mk (IsS98.below B9x4_ hb); have n5_ := Aside0.mk (below_step B9x0_ hb); have n6_ := Aside0.mk (hbox); have n7_ := Aside0.mk ((by rw [hg]; exact (below_size B9x0_) : w.heap.size ≤ gb181)); have n8_ := Aside0.mk ((by rw [hg]; exact (below_size B9x0_) : w.heap.size ≤ gb181)); have n9_ := Aside0.mk ((by rw [hg]; exact Nat.ne_of_lt (blk_lt (g := gb150) (o := .cells #[.slice none 0 0, .slice none 0 0] 37 (0, 0)) B9x1_) : gb150 ≠ gb181)); have n10_ := Aside0.mk ((by rw [hg]; exact Nat.ne_of_gt (blk_lt (g := gb150) (o := .cells #[.slice none 0 0, .slice none 0 0] 37 (0, 0)) B9x1_) : gb181 ≠ gb150)); have n11_ := Aside0.mk ((by rw [hg]; exact Nat.ne_of_lt (blk_lt (g := gb152) (o := .cells #[u153000, u153001] 37 (0, 0)) B9x3_) : gb152 ≠ gb181)); have n12_ := Aside0.mk ((by rw [hg]; exact Nat.ne_of_gt (blk_lt (g := gb152) (o := .cells #[u153000, u153001] 37 (0, 0)) B9x3_) : gb181 ≠ gb152)); have n13_ := Aside0.mk ((by rw [hg]; exact Nat.ne_of_lt (IsS98.lt (show IsS98 w _ gb151 t178 t179 t180 from by repeat (first | (with_reducible first | exact HI151.out | apply IsS98.alloc | apply IsS98.drewN | apply IsS98.drew | apply IsS98.set_0 | apply IsS98.set_1 | apply IsS98.set_2 | refine IsS98.far ?_ NB151_150.out _ | refine IsS98.far ?_ NB151_152.out _) | exact HI151.out))) : gb151 ≠ gb181)); have n14_ := Aside0.mk ((by rw [hg]; exact Nat.ne_of_gt (IsS98.lt (show IsS98 w _ gb151 t178 t179 t180 from by repeat (first | (with_reducible first | exact HI151.out | apply IsS98.alloc | apply IsS98.drewN | apply IsS98.drew | apply IsS98.set_0 | apply IsS98.set_1 | apply IsS98.set_2 | refine IsS98.far ?_ NB151_150.out _ | refine IsS98.far ?_ NB151_152.out _) | exact HI151.out))) : gb181 ≠ gb151)); clear HO_153000; clear HO_153001; clear BK150; clear BK152; clear HI151; clear HB; have HO_153000 := n0_; have HO_153001 := n1_; have BK150 := n2_; have BK152 := n3_; have HI151 := n4_; have HB := n5_; have BK181 := n6_; have GW181 := n7_; have GE181 := n8_; have NB150_181 := n9_; have NB181_150 := n10_; have NB152_181 := n11_; have NB181_152 := n12_; have NB151_181 := n13_; have NB181_151 := n14_; clear n0_ n1_ n2_ n3_ n4_ n5_ n6_ n7_ n8_ n9_ n10_ n11_ n12_ n13_ n14_; clear hb hbox hg; have hnb48 := NB181_150.out; have hnc48 := NB150_181.out; have hnb49 := NB181_152.out; have hnc49 := NB152_181.out; have hnb50 := NB181_151.out; have hnc50 := NB151_181.out; obtain ⟨hcz51_0, hcz51_1, hcz51_2⟩ := cl3 BK181.out; obtain ⟨hfz51_0, hfz51_1, hfz51_2⟩ := fr3 BK181.out) | ((with_reducible refine gate_callee (f := 76) rfl ?_); refine goesL_ (some 72) rfl rfl Try.func76 B9x20_ rfl #[.pointer (some ⟨gb151, 0, none⟩)] rfl B9x2_ ?_; (with_reducible refine (spec_l16ReadShort.calls kj36 gb151 t178 t179 t180 t182 t183 t184 t185 w _ ?side1 ?side2 A43.out).mono ?_); (case side1 => repeat (first | (with_reducible first | exact HI151.out | apply IsS98.alloc | apply IsS98.drewN | apply IsS98.drew | apply IsS98.set_0 | apply IsS98.set_1 | apply IsS98.set_2 | refine IsS98.far ?_ NB151_150.out _ | refine IsS98.far ?_ NB151_152.out _ | refine IsS98.far ?_ NB151_181.out _) | exact HI151.out)); (case side2 => repeat (first | (with_reducible first | exact HB.out | apply below_alloc | apply pw_below_drewN | apply below_drew1 | refine below_set ?_ (IsS98.ge HI151.out) | refine below_set ?_ GE150.out | refine below_set ?_ GE152.out | refine below_set ?_ GE181.out) | exact HB.out)); rintro e w52 ⟨rfl, hi, hb, hk⟩; refine ⟨_, rfl, ?_⟩; have n0_ := Aside0.mk (Kd.R_mono (Kd.R_keep (IsS98.apart (show IsS98 w _ gb151 t178 t179 t180 from by repeat (first | (with_reducible first | exact HI151.out | apply IsS98.alloc | apply IsS98.drewN | apply IsS98.drew | apply IsS98.set_0 | apply IsS98.set_1 | apply IsS98.set_2 | refine IsS98.far ?_ NB151_150.out _ | refine IsS98.far ?_ NB151_152.out _ | refine IsS98.far ?_ NB151_181.out _) | exact HI151.out)) (by (with_reducible repeat (first | apply Kd.R_alloc | apply Kd.R_drewN | apply Kd.R_drew)); exact (Kd.R_mono (Kd.R_far (p := ⟨gb181, 2, none⟩) (Kd.R_far (p := ⟨gb181, 1, none⟩) (Kd.R_far (p := ⟨gb181, 0, none⟩) (Kd.R_types HO_153000.out BK181.out (by decide)) (fun _ hk => hk.2) (.string t177)) (fun _ hk => hk.2) (.string (⟨#[]⟩ : ByteArray))) (fun _ hk => hk.2) (.int .i64 0)) (fun _ h_ => h_.1))) (by decide)) hk (fun _ h => h.2)) (fun _ h => h.1)); have n1_ := Aside0.mk (Kd.R_mono (Kd.R_keep (IsS98.apart (show IsS98 w _ gb151 t178 t179 t180 from by repeat (first | (with_reducible first | exact HI151.out | apply IsS98.alloc | apply IsS98.drewN | apply IsS98.drew | apply IsS98.set_0 | apply IsS98.set_1 | apply IsS98.set_2 | refine IsS98.far ?_ NB151_150.out _ | refine IsS98.far ?_ NB151_152.out _ | refine IsS98.far ?_ NB151_181.out _) | exact HI151.out)) (by (with_reducible repeat (first | apply Kd.R_alloc | apply Kd.R_drewN | apply Kd.R_drew)); exact (Kd.R_mono (Kd.R_far (p := ⟨gb181, 2, none⟩) (Kd.R_far (p := ⟨gb181, 1, none⟩) (Kd.R_far (p := ⟨gb181, 0, none⟩) (Kd.R_mono HO_153001.out (fun k_ hk => (⟨hk, hk.2⟩ : _ ∧ k_ ≠ gb181))) (fun _ hk => hk.2) (.string t177)) (fun _ hk => hk.2) (.string (⟨#[]⟩ : ByteArray))) (fun _ hk => hk.2) (.int .i64 0)) (fun _ h_ => h_.1))) (by decide)) hk (fun _ h => h.2)) (fun _ h => h.1)); have n2_ := Aside0.mk (KeepBut.blk hk (g' := gb150) (o := .cells #[.slice none 0 0, .slice none 0 0] 37 (0, 0)) (by (with_reducible repeat (first | refine blk_drewN ?_ _ | refine blk_drew ?_ | refine blk_alloc ?_ _)); refine blk_far ?_ NB150_181.out _; (with_reducible repeat (first | refine blk_drewN ?_ _ | refine blk_drew ?_ | refine blk_alloc ?_ _)); refine blk_far ?_ NB150_181.out _; (with_reducible repeat (first | refine blk_drewN ?_ _ | refine blk_drew ?_ | refine blk_alloc ?_ _)); refine blk_far ?_ NB150_181.out _; (with_reducible repeat (first | refine blk_drewN ?_ _ | refine blk_drew ?_ | refine blk_alloc ?_ _)); exact BK150.out) NB150_151.out (by simp)); have n3_ := Aside0.mk (KeepBut.blk hk (g' := gb152) (o := .cells #[u153000, u153001] 37 (0, 0)) (by (with_reducible repeat (first | refine blk_drewN ?_ _ | refine blk_drew ?_ | refine blk_alloc ?_ _)); refine blk_far ?_ NB152_181.out _; (with_reducible repeat (first | refine blk_drewN ?_ _ | refine blk_drew ?_ | refine blk_alloc ?_ _)); refine blk_far ?_ NB152_181.out _; (with_reducible repeat (first | refine blk_drewN ?_ _ | refine blk_drew ?_ | refine blk_alloc ?_ _)); refine blk_far ?_ NB152_181.out _; (with_reducible repeat (first | refine blk_drewN ?_ _ | refine blk_drew ?_ | refine blk_alloc ?_ _)); exact BK152.out) NB152_151.out (by simp)); have n4_ := Aside0.mk (KeepBut.blk hk (g' := gb181) (o := .cells #[.string t177, .string (⟨#[]⟩ : ByteArray), .int .i64 0] 104 (0, 0)) (by (with_reducible repeat (first | refine blk_drewN ?_ _ | refine blk_drew ?_ | refine blk_alloc ?_ _)); refine blk_put (cs := #[.string t177, .string (⟨#[]⟩ : ByteArray), .int .i64 0]) ?_ 2 _ rfl; (with_reducible repeat (first | refine blk_drewN ?_ _ | refine blk_drew ?_ | refine blk_alloc ?_ _)); refine blk_put (cs := #[.string t177, .string (⟨#[]⟩ : ByteArray), .int .i64 0]) ?_ 1 _ rfl; (with_reducible repeat (first | refine blk_drewN ?_ _ | refine blk_drew ?_ | refine blk_alloc ?_ _)); refine blk_put (cs := #[.string (⟨#[]⟩ : ByteArray), .string (⟨#[]⟩ : ByteArray), .int .i64 0]) ?_ 0 _ rfl; (with_reducible repeat (first | refine blk_drewN ?_ _ | refine blk_drew ?_ | refine blk_alloc ?_ _)); exact BK181.out) NB181_151.out (by simp)); have n5_ := Aside0.mk (hb); have n6_ := Aside0.mk (hi); clear HO_153000; clear HO_153001; clear BK150; clear BK152; clear BK181; clear HB; clear HI151; have HO_153000 := n0_; have HO_153001 := n1_; have BK150 := n2_; have BK152 := n3_; have BK181 := n4_; have HB := n5_; have HI151 := n6_; clear n0_ n1_ n2_ n3_ n4_ n5_ n6_; (try clear hb); (try clear hb2); (try clear hk); (try clear hi); obtain ⟨hcz53_0, hcz53_1, hcz53_2⟩ := cl3 BK181.out; obtain ⟨hfz53_0, hfz53_1, hfz53_2⟩ := fr3 BK181.out) | ((with_reducible refine gate_callee (f := 75) rfl ?_); refine goesL_ (some 75) rfl rfl Try.func75 B9x20_ rfl #[.pointer (some ⟨gb151, 0, none⟩)] rfl B9x2_ ?_; (with_reducible refine (spec_l16Var.calls kj36 gb151 t183 t184 t185 t186 t187 t188 t189 w _ ?side1 ?side2 A44.out).mono ?_); (case side1 => repeat (first | (with_reducible first | exact HI151.out | apply IsS98.alloc | apply IsS98.drewN | apply IsS98.drew | apply IsS98.set_0 | apply IsS98.set_1 | apply IsS98.set_2 | refine IsS98.far ?_ NB151_150.out _ | refine IsS98.far ?_ NB151_152.out _ | refine IsS98.far ?_ NB151_181.out _) | exact HI151.out)); (case side2 => repeat (first | (with_reducible first | exact HB.out | apply below_alloc | apply pw_below_drewN | apply below_drew1 | refine below_set ?_ (IsS98.ge HI151.out) | refine below_set ?_ GE150.out | refine below_set ?_ GE152.out | refine below_set ?_ GE181.out) | exact HB.out)); rintro e w54 ⟨rfl, hi, hb, hk⟩; refine ⟨_, rfl, ?_⟩; have n0_ := Aside0.mk (Kd.R_mono (Kd.R_keep (IsS98.apart (show IsS98 w _ gb151 t183 t184 t185 from by repeat (first | (with_reducible first | exact HI151.out | apply IsS98.alloc | apply IsS98.drewN | apply IsS98.drew | apply IsS98.set_0 | apply IsS98.set_1 | apply IsS98.set_2 | refine IsS98.far ?_ NB151_150.out _ | refine IsS98.far ?_ NB151_152.out _ | refine IsS98.far ?_ NB151_181.out _) | exact HI151.out)) (by (with_reducible repeat (first | apply Kd.R_alloc | apply Kd.R_drewN | apply Kd.R_drew)); exact (Kd.R_mono (Kd.R_far (p := ⟨gb181, 1, none⟩) (Kd.R_types HO_153000.out BK181.out (by decide)) (fun _ hk => hk.2) (.string t182)) (fun _ h_ => h_.1))) (by decide)) hk (fun _ h => h.2)) (fun _ h => h.1)); have n1_ := Aside0.mk (Kd.R_mono (Kd.R_keep (IsS98.apart (show IsS98 w _ gb151 t183 t184 t185 from by repeat (first | (with_reducible first | exact HI151.out | apply IsS98.alloc | apply IsS98.drewN | apply IsS98.drew | apply IsS98.set_0 | apply IsS98.set_1 | apply IsS98.set_2 | refine IsS98.far ?_ NB151_150.out _ | refine IsS98.far ?_ NB151_152.out _ | refine IsS98.far ?_ NB151_181.out _) | exact HI151.out)) (by (with_reducible repeat (first | apply Kd.R_alloc | apply Kd.R_drewN | apply Kd.R_drew)); exact (Kd.R_mono (Kd.R_far (p := ⟨gb181, 1, none⟩) (Kd.R_mono HO_153001.out (fun k_ hk => (⟨hk, hk.2⟩ : _ ∧ k_ ≠ gb181))) (fun _ hk => hk.2) (.string t182)) (fun _ h_ => h_.1))) (by decide)) hk (fun _ h => h.2)) (fun _ h => h.1)); have n2_ := Aside0.mk (KeepBut.blk hk (g' := gb150) (o := .cells #[.slice none 0 0, .slice none 0 0] 37 (0, 0)) B9x16_ NB150_151.out (by simp)); have n3_ := Aside0.mk (KeepBut.blk hk (g' := gb152) (o := .cells #[u153000, u153001] 37 (0, 0)) B9x18_ NB152_151.out (by simp)); have n4_ := Aside0.mk (KeepBut.blk hk (g' := gb181) (o := .cells #[.string t177, .string t182, .int .i64 0] 104 (0, 0)) (by (with_reducible repeat (first | refine blk_drewN ?_ _ | refine blk_drew ?_ | refine blk_alloc ?_ _)); refine blk_put (cs := #[.string t177, .string (⟨#[]⟩ : ByteArray), .int .i64 0]) ?_ 1 _ rfl; (with_reducible repeat (first | refine blk_drewN ?_ _ | refine blk_drew ?_ | refine blk_alloc ?_ _)); exact BK181.out) NB181_151.out (by simp)); have n5_ := Aside0.mk (hb); have n6_ := Aside0.mk (hi); clear HO_153000; clear HO_153001; clear BK150; clear BK152; clear BK181; clear HB; clear HI151; have HO_153000 := n0_; have HO_153001 := n1_; have BK150 := n2_; have BK152 := n3_; have BK181 := n4_; have HB := n5_; have HI151 := n6_; clear n0_ n1_ n2_ n3_ n4_ n5_ n6_; (try clear hb); (try clear hb2); (try clear hk); (try clear hi); obtain ⟨hcz55_0, hcz55_1, hcz55_2⟩ := cl3 BK181.out; obtain ⟨hfz55_0, hfz55_1, hfz55_2⟩ := fr3 BK181.out; have hnb56 := NB152_150.out; have hnc56 := NB150_152.out; have hnb57 := NB152_151.out; have hnc57 := NB151_152.out; obtain ⟨hcz58_0, hcz58_1⟩ := cl2 BK152.out; obtain ⟨hfz58_0, hfz58_1⟩ := fr2 BK152.out) | ((with_reducible refine gate_builtin (b := .append) (xs := #[.tmp 78, .tmp 80]) rfl ?_); at_builtin; refine Kd.R_append k104 (w0 := w) w.heap.size rfl (.tmp 78) (.tmp 80) 35 104 (.agg #[(.string ⟨#[]⟩), (.string ⟨#[]⟩), (.int .i64 0)]) 40 rfl Try.underlying35 info104 rfl (by decide) (by omega) u153001 x153001_3 (⟨t177, t182, t186⟩ : S104) [.string t177, .string t182, .int .i64 t186] (fun k_ => k_ ≠ gb181) (fun _ => False) rfl (by first | (go_simp; done) | (go_simp; rfl)) ?aP (fun _ hk => hk.elim) ?aF ?aO ?aB ?aS ?aL ?_; (case aP => exact k104_mkM _ _ _ (⟨t177, t182, t186⟩ : S104)); (case aB => exact B9x13_); (case aF => exact (fun k_ hk => Kd.freshB (g := gb181) (o := .cells #[.string t177, .string t182, .int .i64 t186] 104 (0, 0)) B9x11_ k_ hk)); (case aO => exact (by (with_reducible repeat (first | apply Kd.R_alloc | apply Kd.R_drewN | apply Kd.R_drew)); exact Kd.R_mono (Kd.R_far (p := ⟨gb181, 2, none⟩) (Kd.R_mono HO_153001.out (fun k_ hk => (⟨hk, hk.2⟩ : _ ∧ k_ ≠ gb181))) (fun _ hk => hk.2) (.int .i64 t186)) (fun _ hk => hk.1.2))); (case aS => exact (below_size B9x13_)); (case aL => have := LMc45.out; omega); intro v191 w59 ho hb hg hat; rw [← Ny190.out] at ho; have n0_ := Aside0.mk (Kd.R_over' (by (with_reducible repeat (first | apply Kd.R_alloc | apply Kd.R_drewN | apply Kd.R_drew)); exact (Kd.R_mono (Kd.R_far (p := ⟨gb181, 2, none⟩) (Kd.R_types HO_153000.out BK181.out (by decide)) (fun _ hk => hk.2) (.int .i64 t186)) (fun _ h_ => h_.1))) (Kd.R_typed (by (with_reducible repeat (first | apply Kd.R_alloc | apply Kd.R_drewN | apply Kd.R_drew)); exact (Kd.R_mono (Kd.R_far (p := ⟨gb181, 2, none⟩) (Kd.R_mono HO_153001.out (fun k_ hk => (⟨hk, hk.2⟩ : _ ∧ k_ ≠ gb181))) (fun _ hk => hk.2) (.int .i64 t186)) (fun _ h_ => h_.1)))) (by decide) hg); have n1_ := Aside0.mk (blk_grown (g := gb150) (o := .cells #[.slice none 0 0, .slice none 0 0] 37 (0, 0)) B9x16_ hg (Kd.R_ne HO_153001.out BK150.out (by decide))); have n2_ := Aside0.mk (blk_grown (g := gb152) (o := .cells #[u153000, u153001] 37 (0, 0)) B9x18_ hg (Kd.R_ne HO_153001.out BK152.out (by decide))); have n3_ := Aside0.mk (IsS98.grown (IsS98.far HI151.out NB151_181.out _) hg (IsS98.own_ne HI151.out HO_153001.out (by decide))); have n4_ := Aside0.mk (blk_grown (g := gb181) (o := .cells #[.string t177, .string t182, .int .i64 t186] 104 (0, 0)) B9x11_ hg (Kd.R_away HO_153001.out (fun _ hk => hk.2))); have n5_ := Aside0.mk (hb); have n6_ := Aside0.mk (ho); clear HO_153000; clear BK150; clear BK152; clear HI151; clear BK181; clear HB; clear HO_153001; have HO_153000 := n0_; have BK150 := n1_; have BK152 := n2_; have HI151 := n3_; have BK181 := n4_; have HB := n5_; have HO192 := n6_; clear n0_ n1_ n2_ n3_ n4_ n5_ n6_; clear ho hb hg hat; obtain ⟨Ao60, co60, eo60⟩ := Kd.R_slice HO192.out; subst eo60; obtain ⟨hcz61_0, hcz61_1⟩ := cl2 BK152.out; obtain ⟨hfz61_0, hfz61_1⟩ := fr2 BK152.out))
            go_roundg kj36
            case measure => have := HK1.out; have := HJ9.out; have := HK3.out; have := HJ36.out; omega
            case rel => exact ⟨(wrap64 (x9_3 + 1)), (t187), (t188), (t189), (y190), (.slice Ao60 y190.length co60), (be_), H', ⟨by have := HK1.out; have := HJ9.out; have := HK3.out; have := HJ36.out; omega⟩, ⟨by (with_reducible repeat (first | apply Kd.R_alloc | apply Kd.R_drewN | apply Kd.R_drew)); exact Kd.R_mono (Kd.R_far (p := ⟨gb152, 1, none⟩) (Kd.R_types HO_153000.out BK152.out (by decide)) (fun _ hk => hk.2) (.slice Ao60 y190.length co60)) (fun _ hk => trivial)⟩, ⟨by (with_reducible repeat (first | apply Kd.R_alloc | apply Kd.R_drewN | apply Kd.R_drew)); exact Kd.R_mono (Kd.R_far (p := ⟨gb152, 1, none⟩) (Kd.R_types HO192.out BK152.out (by decide)) (fun _ hk => hk.2) (.slice Ao60 y190.length co60)) (fun _ hk => trivial)⟩, ⟨by (with_reducible repeat (first | refine blk_drewN ?_ _ | refine blk_drew ?_ | refine blk_alloc ?_ _)); refine blk_far ?_ NB150_152.out _; (with_reducible repeat (first | refine blk_drewN ?_ _ | refine blk_drew ?_ | refine blk_alloc ?_ _)); exact BK150.out⟩, ⟨by (with_reducible repeat (first | refine blk_drewN ?_ _ | refine blk_drew ?_ | refine blk_alloc ?_ _)); refine blk_put (cs := #[u153000, u153001]) ?_ 1 _ rfl; (with_reducible repeat (first | refine blk_drewN ?_ _ | refine blk_drew ?_ | refine blk_alloc ?_ _)); exact BK152.out⟩, ⟨by repeat (first | (with_reducible first | exact HI151.out | apply IsS98.alloc | apply IsS98.drewN | apply IsS98.drew | apply IsS98.set_0 | apply IsS98.set_1 | apply IsS98.set_2 | refine IsS98.far ?_ NB151_150.out _ | refine IsS98.far ?_ NB151_152.out _ | refine IsS98.far ?_ NB151_181.out _) | exact HI151.out)⟩, ⟨by repeat (first | (with_reducible first | exact HB.out | apply below_alloc | apply pw_below_drewN | apply below_drew1 | refine below_set ?_ (IsS98.ge HI151.out) | refine below_set ?_ GE150.out | refine below_set ?_ GE152.out | refine below_set ?_ GE181.out) | exact HB.out)⟩⟩
           ·rw [if_neg c45] at H
            exact absurd H (by simp)
          ·replace c41 := Bool.eq_false_iff.mpr c41
           subst c41
           rw [if_neg (show ¬ (false = true) by decide)] at H
           replace H := Option.bind_eq_some_iff.mp H
           obtain ⟨⟨t193, t194⟩, A620, H⟩ := H
           (try dsimp only at H)
           have A62 := Aside0.mk A620
           clear A620
           by_cases c63 : x152002_3 = true
           ·subst c63
            rw [if_pos rfl] at H
            simp only [Option.some.injEq, Prod.mk.injEq] at H
            obtain ⟨rfl, rfl, rfl⟩ := H
            have hnb64 := NB152_150.out
            have hnc64 := NB150_152.out
            have hnb65 := NB152_151.out
            have hnc65 := NB151_152.out
            obtain ⟨hcz66_0, hcz66_1⟩ := cl2 BK152.out
            obtain ⟨hfz66_0, hfz66_1⟩ := fr2 BK152.out
            obtain ⟨Ao67, co67, eo67⟩ := Kd.R_slice HO_153000.out
            subst eo67
            obtain ⟨Ao68, co68, eo68⟩ := Kd.R_slice HO_153001.out
            subst eo68
            go_wp2_with (first | ((with_reducible refine gate_callee (f := 23) rfl ?_); refine goesL_ (some 85) rfl rfl Try.func23 B9x20_ rfl #[.agg #[.slice Ao67 x153000_1.length co67, .slice Ao68 x153001_3.length co68]] rfl B9x2_ ?_; (with_reducible refine (spec_KeepText.calls kj36 _ _ x153000_1 _ _ x153001_3 t193 t194 _ ?side1 ?side2 ?side3 ?side4 A62.out).mono ?_); (case side1 => repeat (first | exact (Kd.R_reads' HO_153000.out).2.2 | (with_reducible refine Kd.C_alloc ?_ _) | (with_reducible refine Kd.C_drewN ?_ _) | (with_reducible refine Kd.C_drew ?_))); (case side2 => exact (Kd.R_reads' HO_153000.out).2.1); (case side3 => repeat (first | exact (Kd.R_reads' HO_153001.out).2.2 | (with_reducible refine Kd.C_alloc ?_ _) | (with_reducible refine Kd.C_drewN ?_ _) | (with_reducible refine Kd.C_drew ?_))); (case side4 => exact (Kd.R_reads' HO_153001.out).2.1); rintro e w69 ⟨rfl, hb⟩; refine ⟨_, rfl, ?_⟩; have n0_ := Aside0.mk (Kd.R_below B9x6_ hb); have n1_ := Aside0.mk (Kd.R_below B9x7_ hb); have n2_ := Aside0.mk (blk_below (g := gb150) (o := .cells #[.slice none 0 0, .slice none 0 0] 37 (0, 0)) B9x1_ hb); have n3_ := Aside0.mk (blk_below (g := gb152) (o := .cells #[.slice Ao67 x153000_1.length co67, .slice Ao68 x153001_3.length co68] 37 (0, 0)) B9x3_ hb); have n4_ := Aside0.mk (IsS98.below B9x4_ hb); have n5_ := Aside0.mk (below_step B9x0_ hb); clear HO_153000; clear HO_153001; clear BK150; clear BK152; clear HI151; clear HB; have HO_153000 := n0_; have HO_153001 := n1_; have BK150 := n2_; have BK152 := n3_; have HI151 := n4_; have HB := n5_; clear n0_ n1_ n2_ n3_ n4_ n5_; (try clear hb); (try clear hb2); (try clear hk); (try clear hi); obtain ⟨HGz70, hgz70⟩ := HI151.out; have hcz70_0 := cellS98_0 HGz70; have hcz70_1 := cellS98_1 HGz70; have hcz70_2 := cellS98_2 HGz70; obtain ⟨hfz70_0, hfz70_1, hfz70_2⟩ := fr3 HGz70; clear HGz70 hgz70; have hnb71 := NB150_151.out; have hnc71 := NB151_150.out; obtain ⟨hcz72_0, hcz72_1⟩ := cl2 BK150.out; obtain ⟨hfz72_0, hfz72_1⟩ := fr2 BK150.out))
            refine bodyPost_ret (results_ct rfl _ _ gb150 37 #[.slice none 0 0, .slice none 0 0] (0, 0) _ rfl B9x5_ Try.underlying37 rfl B9x20_) rfl ?_
            exact ⟨_, _, by first | rfl | (simp [errW_none, errW_some] <;> rfl) | (simp [*, errW_none, errW_some] <;> rfl), by first | exact Kd.R_nil _ _ _ _ _ | exact Kd.N_nil _ _ _ _ _ | exact Kd.V_nil _ _ _ _ _ | exact Kd.Q_nil _ _ _ _ _ | exact Kd.S_nil _ _ _ _ _, by first | exact Kd.R_nil _ _ _ _ _ | exact Kd.N_nil _ _ _ _ _ | exact Kd.V_nil _ _ _ _ _ | exact Kd.Q_nil _ _ _ _ _ | exact Kd.S_nil _ _ _ _ _, by repeat (first | (with_reducible first | exact HB.out | apply below_alloc | apply pw_below_drewN | apply below_drew1 | refine below_set ?_ (IsS98.ge HI151.out) | refine below_set ?_ GE150.out | refine below_set ?_ GE152.out) | exact HB.out)⟩
           ·replace c63 := Bool.eq_false_iff.mpr c63
            subst c63
            rw [if_neg (show ¬ (false = true) by decide)] at H
            by_cases c73 : t194 = true
            ·subst c73
             rw [if_pos rfl] at H
             by_cases c74 : t193.toList = a0.toList
             ·rw [if_pos c74] at H
              have c74b0 : (t193.toList == a0.toList) = true := beq_iff_eq.mpr c74
              have c74b1 : (t193.toList != a0.toList) = false := bne_eq_false_iff_eq.mpr c74
              clear c74
              simp only [Option.some.injEq, Prod.mk.injEq] at H
              obtain ⟨rfl, rfl, rfl⟩ := H
              have hnb75 := NB152_150.out
              have hnc75 := NB150_152.out
              have hnb76 := NB152_151.out
              have hnc76 := NB151_152.out
              obtain ⟨hcz77_0, hcz77_1⟩ := cl2 BK152.out
              obtain ⟨hfz77_0, hfz77_1⟩ := fr2 BK152.out
              obtain ⟨Ao78, co78, eo78⟩ := Kd.R_slice HO_153000.out
              subst eo78
              obtain ⟨Ao79, co79, eo79⟩ := Kd.R_slice HO_153001.out
              subst eo79
              go_wp2_with (first | ((with_reducible refine gate_callee (f := 23) rfl ?_); refine goesL_ (some 85) rfl rfl Try.func23 B9x20_ rfl #[.agg #[.slice Ao78 x153000_1.length co78, .slice Ao79 x153001_3.length co79]] rfl B9x2_ ?_; (with_reducible refine (spec_KeepText.calls kj36 _ _ x153000_1 _ _ x153001_3 t193 true _ ?side1 ?side2 ?side3 ?side4 A62.out).mono ?_); (case side1 => repeat (first | exact (Kd.R_reads' HO_153000.out).2.2 | (with_reducible refine Kd.C_alloc ?_ _) | (with_reducible refine Kd.C_drewN ?_ _) | (with_reducible refine Kd.C_drew ?_))); (case side2 => exact (Kd.R_reads' HO_153000.out).2.1); (case side3 => repeat (first | exact (Kd.R_reads' HO_153001.out).2.2 | (with_reducible refine Kd.C_alloc ?_ _) | (with_reducible refine Kd.C_drewN ?_ _) | (with_reducible refine Kd.C_drew ?_))); (case side4 => exact (Kd.R_reads' HO_153001.out).2.1); rintro e w80 ⟨rfl, hb⟩; refine ⟨_, rfl, ?_⟩; have n0_ := Aside0.mk (Kd.R_below B9x6_ hb); have n1_ := Aside0.mk (Kd.R_below B9x7_ hb); have n2_ := Aside0.mk (blk_below (g := gb150) (o := .cells #[.slice none 0 0, .slice none 0 0] 37 (0, 0)) B9x1_ hb); have n3_ := Aside0.mk (blk_below (g := gb152) (o := .cells #[.slice Ao78 x153000_1.length co78, .slice Ao79 x153001_3.length co79] 37 (0, 0)) B9x3_ hb); have n4_ := Aside0.mk (IsS98.below B9x4_ hb); have n5_ := Aside0.mk (below_step B9x0_ hb); clear HO_153000; clear HO_153001; clear BK150; clear BK152; clear HI151; clear HB; have HO_153000 := n0_; have HO_153001 := n1_; have BK150 := n2_; have BK152 := n3_; have HI151 := n4_; have HB := n5_; clear n0_ n1_ n2_ n3_ n4_ n5_; (try clear hb); (try clear hb2); (try clear hk); (try clear hi); obtain ⟨HGz81, hgz81⟩ := HI151.out; have hcz81_0 := cellS98_0 HGz81; have hcz81_1 := cellS98_1 HGz81; have hcz81_2 := cellS98_2 HGz81; obtain ⟨hfz81_0, hfz81_1, hfz81_2⟩ := fr3 HGz81; clear HGz81 hgz81; obtain ⟨hcz82_0, hcz82_1⟩ := cl2 BK152.out; obtain ⟨hfz82_0, hfz82_1⟩ := fr2 BK152.out; have hnb83 := NB150_151.out; have hnc83 := NB151_150.out; obtain ⟨hcz84_0, hcz84_1⟩ := cl2 BK150.out; obtain ⟨hfz84_0, hfz84_1⟩ := fr2 BK150.out))
              refine bodyPost_ret (results_ct rfl _ _ gb150 37 #[.slice Ao78 x153000_1.length co78, .slice Ao79 x153001_3.length co79] (0, 0) _ rfl (by (with_reducible repeat (first | refine blk_drewN ?_ _ | refine blk_drew ?_ | refine blk_alloc ?_ _)); refine blk_put (cs := #[.slice Ao78 x153000_1.length co78, .slice none 0 0]) ?_ 1 _ rfl; (with_reducible repeat (first | refine blk_drewN ?_ _ | refine blk_drew ?_ | refine blk_alloc ?_ _)); refine blk_put (cs := #[.slice none 0 0, .slice none 0 0]) ?_ 0 _ rfl; (with_reducible repeat (first | refine blk_drewN ?_ _ | refine blk_drew ?_ | refine blk_alloc ?_ _)); exact BK150.out) Try.underlying37 rfl B9x20_) rfl ?_
              exact ⟨_, _, by first | rfl | (simp [errW_none, errW_some] <;> rfl) | (simp [*, errW_none, errW_some] <;> rfl), by (with_reducible repeat (first | apply Kd.R_alloc | apply Kd.R_drewN | apply Kd.R_drew)); exact Kd.R_mono (Kd.R_far (p := ⟨gb150, 1, none⟩) (Kd.R_far (p := ⟨gb150, 0, none⟩) (Kd.R_types HO_153000.out BK150.out (by decide)) (fun _ hk => hk.2) (.slice Ao78 x153000_1.length co78)) (fun _ hk => hk.2) (.slice Ao79 x153001_3.length co79)) (fun _ hk => trivial), by (with_reducible repeat (first | apply Kd.R_alloc | apply Kd.R_drewN | apply Kd.R_drew)); exact Kd.R_mono (Kd.R_far (p := ⟨gb150, 1, none⟩) (Kd.R_far (p := ⟨gb150, 0, none⟩) (Kd.R_types HO_153001.out BK150.out (by decide)) (fun _ hk => hk.2) (.slice Ao78 x153000_1.length co78)) (fun _ hk => hk.2) (.slice Ao79 x153001_3.length co79)) (fun _ hk => trivial), by repeat (first | (with_reducible first | exact HB.out | apply below_alloc | apply pw_below_drewN | apply below_drew1 | refine below_set ?_ (IsS98.ge HI151.out) | refine below_set ?_ GE150.out | refine below_set ?_ GE152.out) | exact HB.out)⟩
             ·rw [if_neg c74] at H
              have c74b0 : (t193.toList == a0.toList) = false := beq_eq_false_iff_ne.mpr c74
              have c74b1 : (t193.toList != a0.toList) = true := bne_iff_ne.mpr c74
              simp only [Option.some.injEq, Prod.mk.injEq] at H
              obtain ⟨rfl, rfl, rfl⟩ := H
              have hnb85 := NB152_150.out
              have hnc85 := NB150_152.out
              have hnb86 := NB152_151.out
              have hnc86 := NB151_152.out
              obtain ⟨hcz87_0, hcz87_1⟩ := cl2 BK152.out
              obtain ⟨hfz87_0, hfz87_1⟩ := fr2 BK152.out
              obtain ⟨Ao88, co88, eo88⟩ := Kd.R_slice HO_153000.out
              subst eo88
              obtain ⟨Ao89, co89, eo89⟩ := Kd.R_slice HO_153001.out
              subst eo89
              go_wp2_with (first | ((with_reducible refine gate_callee (f := 23) rfl ?_); refine goesL_ (some 85) rfl rfl Try.func23 B9x20_ rfl #[.agg #[.slice Ao88 x153000_1.length co88, .slice Ao89 x153001_3.length co89]] rfl B9x2_ ?_; (with_reducible refine (spec_KeepText.calls kj36 _ _ x153000_1 _ _ x153001_3 t193 true _ ?side1 ?side2 ?side3 ?side4 A62.out).mono ?_); (case side1 => repeat (first | exact (Kd.R_reads' HO_153000.out).2.2 | (with_reducible refine Kd.C_alloc ?_ _) | (with_reducible refine Kd.C_drewN ?_ _) | (with_reducible refine Kd.C_drew ?_))); (case side2 => exact (Kd.R_reads' HO_153000.out).2.1); (case side3 => repeat (first | exact (Kd.R_reads' HO_153001.out).2.2 | (with_reducible refine Kd.C_alloc ?_ _) | (with_reducible refine Kd.C_drewN ?_ _) | (with_reducible refine Kd.C_drew ?_))); (case side4 => exact (Kd.R_reads' HO_153001.out).2.1); rintro e w90 ⟨rfl, hb⟩; refine ⟨_, rfl, ?_⟩; have n0_ := Aside0.mk (Kd.R_below B9x6_ hb); have n1_ := Aside0.mk (Kd.R_below B9x7_ hb); have n2_ := Aside0.mk (blk_below (g := gb150) (o := .cells #[.slice none 0 0, .slice none 0 0] 37 (0, 0)) B9x1_ hb); have n3_ := Aside0.mk (blk_below (g := gb152) (o := .cells #[.slice Ao88 x153000_1.length co88, .slice Ao89 x153001_3.length co89] 37 (0, 0)) B9x3_ hb); have n4_ := Aside0.mk (IsS98.below B9x4_ hb); have n5_ := Aside0.mk (below_step B9x0_ hb); clear HO_153000; clear HO_153001; clear BK150; clear BK152; clear HI151; clear HB; have HO_153000 := n0_; have HO_153001 := n1_; have BK150 := n2_; have BK152 := n3_; have HI151 := n4_; have HB := n5_; clear n0_ n1_ n2_ n3_ n4_ n5_; (try clear hb); (try clear hb2); (try clear hk); (try clear hi); obtain ⟨HGz91, hgz91⟩ := HI151.out; have hcz91_0 := cellS98_0 HGz91; have hcz91_1 := cellS98_1 HGz91; have hcz91_2 := cellS98_2 HGz91; obtain ⟨hfz91_0, hfz91_1, hfz91_2⟩ := fr3 HGz91; clear HGz91 hgz91; have hnb92 := NB150_151.out; have hnc92 := NB151_150.out; obtain ⟨hcz93_0, hcz93_1⟩ := cl2 BK150.out; obtain ⟨hfz93_0, hfz93_1⟩ := fr2 BK150.out))
              refine bodyPost_ret (results_ct rfl _ _ gb150 37 #[.slice none 0 0, .slice none 0 0] (0, 0) _ rfl B9x5_ Try.underlying37 rfl B9x20_) rfl ?_
              exact ⟨_, _, by first | rfl | (simp [errW_none, errW_some] <;> rfl) | (simp [*, errW_none, errW_some] <;> rfl), by first | exact Kd.R_nil _ _ _ _ _ | exact Kd.N_nil _ _ _ _ _ | exact Kd.V_nil _ _ _ _ _ | exact Kd.Q_nil _ _ _ _ _ | exact Kd.S_nil _ _ _ _ _, by first | exact Kd.R_nil _ _ _ _ _ | exact Kd.N_nil _ _ _ _ _ | exact Kd.V_nil _ _ _ _ _ | exact Kd.Q_nil _ _ _ _ _ | exact Kd.S_nil _ _ _ _ _, by repeat (first | (with_reducible first | exact HB.out | apply below_alloc | apply pw_below_drewN | apply below_drew1 | refine below_set ?_ (IsS98.ge HI151.out) | refine below_set ?_ GE150.out | refine below_set ?_ GE152.out) | exact HB.out)⟩
            ·replace c73 := Bool.eq_false_iff.mpr c73
             subst c73
             rw [if_neg (show ¬ (false = true) by decide)] at H
             simp only [Option.some.injEq, Prod.mk.injEq] at H
             obtain ⟨rfl, rfl, rfl⟩ := H
             have hnb94 := NB152_150.out
             have hnc94 := NB150_152.out
             have hnb95 := NB152_151.out
             have hnc95 := NB151_152.out
             obtain ⟨hcz96_0, hcz96_1⟩ := cl2 BK152.out
             obtain ⟨hfz96_0, hfz96_1⟩ := fr2 BK152.out
             obtain ⟨Ao97, co97, eo97⟩ := Kd.R_slice HO_153000.out
             subst eo97
             obtain ⟨Ao98, co98, eo98⟩ := Kd.R_slice HO_153001.out
             subst eo98
             go_wp2_with (first | ((with_reducible refine gate_callee (f := 23) rfl ?_); refine goesL_ (some 85) rfl rfl Try.func23 B9x20_ rfl #[.agg #[.slice Ao97 x153000_1.length co97, .slice Ao98 x153001_3.length co98]] rfl B9x2_ ?_; (with_reducible refine (spec_KeepText.calls kj36 _ _ x153000_1 _ _ x153001_3 t193 false _ ?side1 ?side2 ?side3 ?side4 A62.out).mono ?_); (case side1 => repeat (first | exact (Kd.R_reads' HO_153000.out).2.2 | (with_reducible refine Kd.C_alloc ?_ _) | (with_reducible refine Kd.C_drewN ?_ _) | (with_reducible refine Kd.C_drew ?_))); (case side2 => exact (Kd.R_reads' HO_153000.out).2.1); (case side3 => repeat (first | exact (Kd.R_reads' HO_153001.out).2.2 | (with_reducible refine Kd.C_alloc ?_ _) | (with_reducible refine Kd.C_drewN ?_ _) | (with_reducible refine Kd.C_drew ?_))); (case side4 => exact (Kd.R_reads' HO_153001.out).2.1); rintro e w99 ⟨rfl, hb⟩; refine ⟨_, rfl, ?_⟩; have n0_ := Aside0.mk (Kd.R_below B9x6_ hb); have n1_ := Aside0.mk (Kd.R_below B9x7_ hb); have n2_ := Aside0.mk (blk_below (g := gb150) (o := .cells #[.slice none 0 0, .slice none 0 0] 37 (0, 0)) B9x1_ hb); have n3_ := Aside0.mk (blk_below (g := gb152) (o := .cells #[.slice Ao97 x153000_1.length co97, .slice Ao98 x153001_3.length co98] 37 (0, 0)) B9x3_ hb); have n4_ := Aside0.mk (IsS98.below B9x4_ hb); have n5_ := Aside0.mk (below_step B9x0_ hb); clear HO_153000; clear HO_153001; clear BK150; clear BK152; clear HI151; clear HB; have HO_153000 := n0_; have HO_153001 := n1_; have BK150 := n2_; have BK152 := n3_; have HI151 := n4_; have HB := n5_; clear n0_ n1_ n2_ n3_ n4_ n5_; (try clear hb); (try clear hb2); (try clear hk); (try clear hi); obtain ⟨HGz100, hgz100⟩ := HI151.out; have hcz100_0 := cellS98_0 HGz100; have hcz100_1 := cellS98_1 HGz100; have hcz100_2 := cellS98_2 HGz100; obtain ⟨hfz100_0, hfz100_1, hfz100_2⟩ := fr3 HGz100; clear HGz100 hgz100; have hnb101 := NB150_151.out; have hnc101 := NB151_150.out; obtain ⟨hcz102_0, hcz102_1⟩ := cl2 BK150.out; obtain ⟨hfz102_0, hfz102_1⟩ := fr2 BK150.out))
             refine bodyPost_ret (results_ct rfl _ _ gb150 37 #[.slice none 0 0, .slice none 0 0] (0, 0) _ rfl B9x5_ Try.underlying37 rfl B9x20_) rfl ?_
             exact ⟨_, _, by first | rfl | (simp [errW_none, errW_some] <;> rfl) | (simp [*, errW_none, errW_some] <;> rfl), by first | exact Kd.R_nil _ _ _ _ _ | exact Kd.N_nil _ _ _ _ _ | exact Kd.V_nil _ _ _ _ _ | exact Kd.Q_nil _ _ _ _ _ | exact Kd.S_nil _ _ _ _ _, by first | exact Kd.R_nil _ _ _ _ _ | exact Kd.N_nil _ _ _ _ _ | exact Kd.V_nil _ _ _ _ _ | exact Kd.Q_nil _ _ _ _ _ | exact Kd.S_nil _ _ _ _ _, by repeat (first | (with_reducible first | exact HB.out | apply below_alloc | apply pw_below_drewN | apply below_drew1 | refine below_set ?_ (IsS98.ge HI151.out) | refine below_set ?_ GE150.out | refine below_set ?_ GE152.out) | exact HB.out)⟩

/-! ### impl_within: function 68 -/
def impl_within.f (a0 : Int) (a1 : Int) (a2 : Int) : Option (Bool) := if a0 ≥ a1 then (some (decide (a0 ≤ a2))) else (some false)
set_option maxHeartbeats 8000000 in
set_option maxRecDepth 100000 in
theorem impl_within.calls (a0 : Int) (a1 : Int) (a2 : Int) (r : Bool) (w : World) (h : impl_within.f a0 a1 a2 = some r) :
  Calls Try.prog 68 #[.int .i64 a0, .int .i64 a1, .int .i64 a2] w fun e w' => e = .returned (.bool r) ∧ Drawn0 w w' := by
 have H : (if a0 ≥ a1 then (some (decide (a0 ≤ a2))) else (some false)) = some r := h
 clear h
 by_cases c4 : a0 ≥ a1
 ·rw [if_pos c4] at H
  have c4b0 : decide (a1 ≤ a0) = true := decide_eq_true c4
  clear c4
  obtain rfl := Option.some.inj H
  go_enter Try.func68, Try.ntmps68
  go_wp2
  go_ret
  exact ⟨by first | rfl | (simp; done) | (simp [*]; done), by repeat (first | exact Drawn0.refl _ | apply Drawn0.step)⟩
 ·rw [if_neg c4] at H
  have c4b0 : decide (a1 ≤ a0) = false := decide_eq_false c4
  clear c4
  obtain rfl := Option.some.inj H
  go_enter Try.func68, Try.ntmps68
  go_wp2
  go_ret
  exact ⟨by first | rfl | (simp; done) | (simp [*]; done), by repeat (first | exact Drawn0.refl _ | apply Drawn0.step)⟩

end Go.Proofs.Ythgjcijcmacpmaa.QFnExactReadKeep
