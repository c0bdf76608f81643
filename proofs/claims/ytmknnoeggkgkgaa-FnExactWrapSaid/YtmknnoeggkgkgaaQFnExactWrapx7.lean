/- Functions that a law reaches, as functions of Lean, and the walks that show that the calls come to their answers: written by a program of this project out of the translation. No condition. -/
import Derived.Test.YtmknnoeggkgkgaaQFnExactWrapx0
import Derived.Test.YtmknnoeggkgkgaaQFnExactWrapx6
import Derived.Test.YtmknnoeggkgkgaaVFnExactWraphort3
import Derived.Test.YtmknnoeggkgkgaaVFnExactWrapShort2
import Derived.Test.YtmknnoeggkgkgaaVFnExactWrapShort
namespace Go.Proofs.Ytmknnoeggkgkgaa.QFnExactWrap
open Go.RowKit Go.Proofs.YtmknnoeggkgkgaaW.PrintWords Go.Proofs.YtmknnoeggkgkgaaW.PrintLast Go.Proofs.YtmknnoeggkgkgaaW.PrintMore Go.Proofs.Ytmknnoeggkgkgaa.Short
attribute [local go_sem] max2_int min2_int max_two min_two max_three min_three max_four min_four   -- for this text's walks alone
set_option linter.unusedVariables false
set_option linter.unusedSimpArgs false

theorem B7x0_ {p : Prop} (h : p := by repeat (first | (with_reducible first | exact HB.out | apply below_alloc | apply pw_below_drewN | apply below_drew1) | exact HB.out)) : p := h
theorem B7x1_ {p : Prop} (h : p := by repeat (first | (with_reducible first | exact HB.out | apply below_alloc | apply pw_below_drewN | apply below_drew1 | refine below_set ?_ GE221.out) | exact HB.out)) : p := h
theorem B7x2_ {p : Prop} (h : p := by (with_reducible repeat (first | refine blk_drewN ?_ _ | refine blk_drew ?_ | refine blk_alloc ?_ _)); exact BK221.out) : p := h
theorem B7x3_ {p : Prop} (h : p := by (with_reducible repeat (first | refine blk_drewN ?_ _ | refine blk_drew ?_ | refine blk_alloc ?_ _)); refine blk_far ?_ NB221_227.out _; (with_reducible repeat (first | refine blk_drewN ?_ _ | refine blk_drew ?_ | refine blk_alloc ?_ _)); refine blk_far ?_ NB221_227.out _; (with_reducible repeat (first | refine blk_drewN ?_ _ | refine blk_drew ?_ | refine blk_alloc ?_ _)); refine blk_far ?_ NB221_227.out _; (with_reducible repeat (first | refine blk_drewN ?_ _ | refine blk_drew ?_ | refine blk_alloc ?_ _)); exact BK221.out) : p := h
theorem B7x4_ {p : Prop} (h : p := by (try simp only [List.map_toArray, List.map_cons, List.map_nil]); first | done | rfl | (simp only [List.length_drop, List.length_take]; rfl)) : p := h
theorem B7x5_ {p : Prop} (h : p := by repeat (first | (with_reducible first | exact HB.out | apply below_alloc | apply pw_below_drewN | apply below_drew1 | refine below_set ?_ GE221.out | refine below_set ?_ GE227.out) | exact HB.out)) : p := h
theorem B7x6_ {p : Prop} (h : p := by repeat (first | (with_reducible first | exact HB.out | apply below_alloc | apply pw_below_drewN | apply below_drew1 | refine below_set ?_ GE234.out) | exact HB.out)) : p := h
theorem B7x7_ {p : Prop} (h : p := by rw [hw]; exact (by (with_reducible repeat (first | refine blk_drewN ?_ _ | refine blk_drew ?_ | refine blk_alloc ?_ _)); refine blk_far ?_ NB221_227.out _; (with_reducible repeat (first | refine blk_drewN ?_ _ | refine blk_drew ?_ | refine blk_alloc ?_ _)); refine blk_far ?_ NB221_227.out _; (with_reducible repeat (first | refine blk_drewN ?_ _ | refine blk_drew ?_ | refine blk_alloc ?_ _)); refine blk_far ?_ NB221_227.out _; (with_reducible repeat (first | refine blk_drewN ?_ _ | refine blk_drew ?_ | refine blk_alloc ?_ _)); refine blk_far ?_ NB221_227.out _; (with_reducible repeat (first | refine blk_drewN ?_ _ | refine blk_drew ?_ | refine blk_alloc ?_ _)); refine blk_far ?_ NB221_227.out _; (with_reducible repeat (first | refine blk_drewN ?_ _ | refine blk_drew ?_ | refine blk_alloc ?_ _)); refine blk_far ?_ NB221_227.out _; (with_reducible repeat (first | refine blk_drewN ?_ _ | refine blk_drew ?_ | refine blk_alloc ?_ _)); exact BK221.out)) : p := h
theorem B7x8_ {p : Prop} (h : p := by (with_reducible repeat (first | refine blk_drewN ?_ _ | refine blk_drew ?_ | refine blk_alloc ?_ _)); refine blk_put (cs := #[.int .i64 a0_0, .int .i64 a0_1, .int .i64 a0_2, .int .i64 (wrap64 (a0_3 + x7_2)), .bool false, .string (a0_5.extract (x7_2 : Int).toNat ((ji16) : Int).toNat)]) ?_ 4 _ rfl; (with_reducible repeat (first | refine blk_drewN ?_ _ | refine blk_drew ?_ | refine blk_alloc ?_ _)); refine blk_put (cs := #[.int .i64 a0_0, .int .i64 a0_1, .int .i64 a0_2, .int .i64 (wrap64 (a0_3 + x7_2)), .bool false, .string a0_5]) ?_ 5 _ rfl; (with_reducible repeat (first | refine blk_drewN ?_ _ | refine blk_drew ?_ | refine blk_alloc ?_ _)); refine blk_put (cs := #[.int .i64 a0_0, .int .i64 a0_1, .int .i64 a0_2, .int .i64 a0_3, .bool false, .string a0_5]) ?_ 3 _ rfl; (with_reducible repeat (first | refine blk_drewN ?_ _ | refine blk_drew ?_ | refine blk_alloc ?_ _)); exact BK227.out) : p := h
theorem B7x9_ {p : Prop} (h : p := by (with_reducible repeat (first | refine blk_drewN ?_ _ | refine blk_drew ?_ | refine blk_alloc ?_ _)); refine blk_put (cs := #[.int .i64 a0_0, .int .i64 a0_1, .int .i64 a0_2, .int .i64 (wrap64 (a0_3 + x7_2)), .bool true, .string (a0_5.extract (x7_2 : Int).toNat ((ji16) : Int).toNat)]) ?_ 4 _ rfl; (with_reducible repeat (first | refine blk_drewN ?_ _ | refine blk_drew ?_ | refine blk_alloc ?_ _)); refine blk_put (cs := #[.int .i64 a0_0, .int .i64 a0_1, .int .i64 a0_2, .int .i64 (wrap64 (a0_3 + x7_2)), .bool true, .string a0_5]) ?_ 5 _ rfl; (with_reducible repeat (first | refine blk_drewN ?_ _ | refine blk_drew ?_ | refine blk_alloc ?_ _)); refine blk_put (cs := #[.int .i64 a0_0, .int .i64 a0_1, .int .i64 a0_2, .int .i64 a0_3, .bool true, .string a0_5]) ?_ 3 _ rfl; (with_reducible repeat (first | refine blk_drewN ?_ _ | refine blk_drew ?_ | refine blk_alloc ?_ _)); exact BK227.out) : p := h
theorem B7x10_ {p : Prop} (h : p := by first | rfl | (simp [errW_none, errW_some] <;> rfl) | (simp [*, errW_none, errW_some] <;> rfl)) : p := h
theorem B7x11_ {p : Prop} (h : p := by first | (go_simp; done) | (go_simp; rfl)) : p := h
theorem B7x12_ {p : Prop} (h : p := by kernel_rfl) : p := h
theorem B7x13_ {p : Prop} (h : p := by (with_reducible repeat (first | apply Kd.R_alloc | apply Kd.R_drewN | apply Kd.R_drew)); exact HO_6.out) : p := h
/-! ### impl_CutDgram: function 36 -/
mutual
def impl_CutDgram.j0 : Nat → Int → Bool → Int → Int → Int → Int → Bool → ByteArray → Option ((List (S62)) × Bool)
 | 0, _, _, _, _, _, _, _, _ => none
 | k + 1, x1, x17, x222000, x222001, x222002, x222003, x222004, x222005 => if x17 = true then (some (([] : List (S62)), false)) else (impl_CutDgram.l0 k (wrap64 ((wrap64 (Int.tdiv x1 8)) * 8)) (([] : List (S62))) 0 x222000 x222001 x222002 x222003 x222004 x222005)
def impl_CutDgram.l0 : Nat → Int → List (S62) → Int → Int → Int → Int → Int → Bool → ByteArray → Option ((List (S62)) × Bool)
 | 0, _, _, _, _, _, _, _, _, _ => none
 | k + 1, x1, x6, x7, x222000, x222001, x222002, x222003, x222004, x222005 => if x7 < (x222005.size : Int) then (if 0 ≤ x7 then (if x7 ≤ (mn (wrap64 (x7 + x1)) (x222005.size : Int)) then (if (mn (wrap64 (x7 + x1)) (x222005.size : Int)) ≤ (x222005.size : Int) then (if x222004 = true then (if x6.length < 2513169434916 then (impl_CutDgram.l0 k x1 (x6 ++ [(⟨x222000, x222001, x222002, wrap64 (x222003 + x7), true, x222005.extract (x7 : Int).toNat ((mn (wrap64 (x7 + x1)) (x222005.size : Int)) : Int).toNat⟩ : S62)]) (wrap64 (x7 + x1)) x222000 x222001 x222002 x222003 x222004 x222005) else (none)) else (if x6.length < 2513169434916 then (impl_CutDgram.l0 k x1 (x6 ++ [(⟨x222000, x222001, x222002, wrap64 (x222003 + x7), decide ((mn (wrap64 (x7 + x1)) (x222005.size : Int)) < (x222005.size : Int)), x222005.extract (x7 : Int).toNat ((mn (wrap64 (x7 + x1)) (x222005.size : Int)) : Int).toNat⟩ : S62)]) (wrap64 (x7 + x1)) x222000 x222001 x222002 x222003 x222004 x222005) else (none))) else (none)) else (none)) else (none)) else (some (x6, true))
end
def impl_CutDgram.f (k : Nat) (a0_0 : Int) (a0_1 : Int) (a0_2 : Int) (a0_3 : Int) (a0_4 : Bool) (a0_5 : ByteArray) (a1 : Int) : Option ((List (S62)) × Bool) := (impl_DgramOk.f a0_0 a0_1 a0_2 a0_3 a0_4 a0_5).bind fun t222 => (if t222 = true then ((impl_within.f a1 8 160).bind fun t223 => (impl_CutDgram.j0 k a1 (!t223) a0_0 a0_1 a0_2 a0_3 a0_4 a0_5)) else (impl_CutDgram.j0 k a1 true a0_0 a0_1 a0_2 a0_3 a0_4 a0_5))
theorem impl_CutDgram.mono_l : ∀ k, (∀ y0 y1 y2 y3 y4 y5 y6 y7, LeO (impl_CutDgram.j0 k y0 y1 y2 y3 y4 y5 y6 y7) (impl_CutDgram.j0 (k + 1) y0 y1 y2 y3 y4 y5 y6 y7)) ∧ (∀ y0 y1 y2 y3 y4 y5 y6 y7 y8, LeO (impl_CutDgram.l0 k y0 y1 y2 y3 y4 y5 y6 y7 y8) (impl_CutDgram.l0 (k + 1) y0 y1 y2 y3 y4 y5 y6 y7 y8))
 | 0 => ⟨fun _ _ _ _ _ _ _ _ r h => by simp [impl_CutDgram.j0] at h, fun _ _ _ _ _ _ _ _ _ r h => by simp [impl_CutDgram.l0] at h⟩
 | k + 1 => by
  obtain ⟨ih0, ih1⟩ := impl_CutDgram.mono_l k
  refine ⟨?_, ?_⟩
  ·intro y0 y1 y2 y3 y4 y5 y6 y7
   unfold impl_CutDgram.j0
   repeat' first
   | (with_reducible exact ih0 _ _ _ _ _ _ _ _)
   | (with_reducible exact ih1 _ _ _ _ _ _ _ _ _)
   | (with_reducible exact LeO.refl _)
   | (with_reducible exact LeO.none _)
   | (with_reducible refine LeO.ite ?_ ?_)
   | (with_reducible refine LeO.bind ?_ (fun _ => ?_))
   | exact ih0 _ _ _ _ _ _ _ _
   | exact ih1 _ _ _ _ _ _ _ _ _
   | exact LeO.none _
   | refine LeO.ite ?_ ?_
   | refine LeO.bind ?_ (fun _ => ?_)
  ·intro y0 y1 y2 y3 y4 y5 y6 y7 y8
   unfold impl_CutDgram.l0
   repeat' first
   | (with_reducible exact ih0 _ _ _ _ _ _ _ _)
   | (with_reducible exact ih1 _ _ _ _ _ _ _ _ _)
   | (with_reducible exact LeO.refl _)
   | (with_reducible exact LeO.none _)
   | (with_reducible refine LeO.ite ?_ ?_)
   | (with_reducible refine LeO.bind ?_ (fun _ => ?_))
   | exact ih0 _ _ _ _ _ _ _ _
   | exact ih1 _ _ _ _ _ _ _ _ _
   | exact LeO.none _
   | refine LeO.ite ?_ ?_
   | refine LeO.bind ?_ (fun _ => ?_)
theorem impl_CutDgram.mono : ∀ a0 a1 a2 a3 a4 a5 a6 k, LeO (impl_CutDgram.f k a0 a1 a2 a3 a4 a5 a6) (impl_CutDgram.f (k + 1) a0 a1 a2 a3 a4 a5 a6) := by
 intro a0 a1 a2 a3 a4 a5 a6 k
 obtain ⟨ih0, ih1⟩ := impl_CutDgram.mono_l k
 unfold impl_CutDgram.f
 repeat' first
   | (with_reducible exact ih0 _ _ _ _ _ _ _ _)
   | (with_reducible exact ih1 _ _ _ _ _ _ _ _ _)
   | (with_reducible exact LeO.refl _)
   | (with_reducible exact LeO.none _)
   | (with_reducible refine LeO.ite ?_ ?_)
   | (with_reducible refine LeO.bind ?_ (fun _ => ?_))
   | exact ih0 _ _ _ _ _ _ _ _
   | exact ih1 _ _ _ _ _ _ _ _ _
   | exact LeO.none _
   | refine LeO.ite ?_ ?_
   | refine LeO.bind ?_ (fun _ => ?_)
def impl_CutDgram.T10 : Bool × List (List Nat × List Nat) := (true, [([], []), ([0], [0]), ([], []), ([1, 2], [1, 2]), ([], []), ([4], [4]), ([], []), ([], []), ([5, 6, 7], [5, 6, 7]), ([0, 1, 2, 3], []), ([9, 3, 0, 1, 2, 3], [3, 9]), ([0, 1, 2, 3, 4, 5, 6, 7, 8, 9, 10], []), ([11, 8, 10, 0, 1, 2, 3, 4, 5, 6, 7, 8, 9, 10], [8, 11])])
def impl_CutDgram.B10 : List Nat := [0, 1, 0, 7, 0, 16, 0, 0, 240, 15, 527, 2047, 4095]
theorem impl_CutDgram.tab10 : rtab .any (opsOf Try.f36 10) = impl_CutDgram.T10 := by kernel_rfl
theorem impl_CutDgram.bits10 : waitsOk impl_CutDgram.T10.2 impl_CutDgram.B10 = true := by kernel_rfl
set_option maxHeartbeats 8000000 in
set_option maxRecDepth 100000 in
theorem impl_CutDgram.calls (k : Nat) (a0_0 : Int) (a0_1 : Int) (a0_2 : Int) (a0_3 : Int) (a0_4 : Bool) (a0_5 : ByteArray) (a1 : Int) (r1 : List (S62)) (r2 : Bool) (w : World) (h : impl_CutDgram.f k a0_0 a0_1 a0_2 a0_3 a0_4 a0_5 a1 = some (r1, r2)) :
  Calls Try.prog 36 #[.agg #[.int .i64 a0_0, .int .i64 a0_1, .int .i64 a0_2, .int .i64 a0_3, .bool a0_4, .string a0_5], .int .i64 a1] w fun e w' => ∃ v0_ : Value, e = .returned (.tuple #[v0_, .bool r2]) ∧ Kd.R k62 62 w' w.heap.size (fun _ => True) v0_ r1 ∧ Below w.heap.size w w' := by
 have hu62 := Try.underlying62
 have HB := Aside0.mk (Below.refl w.heap.size w)
 have H : ((impl_DgramOk.f a0_0 a0_1 a0_2 a0_3 a0_4 a0_5).bind fun t222 => (if t222 = true then ((impl_within.f a1 8 160).bind fun t223 => (impl_CutDgram.j0 k a1 (!t223) a0_0 a0_1 a0_2 a0_3 a0_4 a0_5)) else (impl_CutDgram.j0 k a1 true a0_0 a0_1 a0_2 a0_3 a0_4 a0_5))) = some (r1, r2) := h
 clear h
 have HC3 := Aside0.mk H
 clear H
 go_enter Try.func36, Try.ntmps36
 go_upto_region 1 with (first | ((with_reducible refine gate_dst (N := 2) rfl ?_); (try (refine gate_guard (by rfl) ?_; dsimp only)); refine box_event ?hg (N := 2) ?hd (cs := #[.int .i64 a0_0, .int .i64 a0_1, .int .i64 a0_2, .int .i64 a0_3, .bool a0_4, .string a0_5]) (t := 62) ?hr ?_; (case hd => rfl); (case hg => rfl); (case hr => exact B7x11_); intro gb221 hg w4 hbox hb; have BK221 := Aside0.mk (hbox); have GW221 := Aside0.mk ((by rw [hg]; exact (below_size B7x0_) : w.heap.size ≤ gb221)); have GE221 := Aside0.mk ((by rw [hg]; exact (below_size B7x0_) : w.heap.size ≤ gb221)); replace HB := Aside0.mk (below_step B7x0_ hb); clear hb hbox hg))
 (try simp only [Act.put, List.setIfInBounds_toArray, List.set_cons_zero, List.set_cons_succ])
 go_cut [17] (fun v17 wc => ∃ (kq : Nat) (x17_2 : Bool), v17 = .bool x17_2 ∧ Aside0 (impl_CutDgram.j0 kq a1 x17_2 a0_0 a0_1 a0_2 a0_3 a0_4 a0_5 = some (r1, r2)) ∧ Aside0 (kq ≤ k) ∧ Aside0 (wc.heap[gb221]? = some (.cells #[.int .i64 a0_0, .int .i64 a0_1, .int .i64 a0_2, .int .i64 a0_3, .bool a0_4, .string a0_5] 62 (0, 0))) ∧ Aside0 (Below w.heap.size w wc))
 case first =>
  have H := HC3.out
  clear HC3
  replace H := Option.bind_eq_some_iff.mp H
  obtain ⟨t222, A50, H⟩ := H
  (try dsimp only at H)
  have A5 := Aside0.mk A50
  clear A50
  by_cases c6 : t222 = true
  ·subst c6
   rw [if_pos rfl] at H
   replace H := Option.bind_eq_some_iff.mp H
   obtain ⟨t223, A70, H⟩ := H
   (try dsimp only at H)
   have A7 := Aside0.mk A70
   clear A70
   have H' := Aside0.mk H
   clear H
   obtain ⟨hcz8_0, hcz8_1, hcz8_2, hcz8_3, hcz8_4, hcz8_5⟩ := cl6 BK221.out
   obtain ⟨hfz8_0, hfz8_1, hfz8_2, hfz8_3, hfz8_4, hfz8_5⟩ := fr6 BK221.out
   go_wp2_with (first | ((with_reducible refine gate_callee (f := 38) rfl ?_); refine goesL_ (some 11) rfl rfl Try.func38 B7x12_ rfl #[.agg #[.int .i64 a0_0, .int .i64 a0_1, .int .i64 a0_2, .int .i64 a0_3, .bool a0_4, .string a0_5]] rfl B7x4_ ?_; (with_reducible refine (impl_DgramOk.calls a0_0 a0_1 a0_2 a0_3 a0_4 a0_5 true _ A5.out).mono ?_); rintro e w9 ⟨rfl, hb⟩; refine ⟨_, rfl, ?_⟩; replace BK221 := Aside0.mk (blk_below (g := gb221) (o := .cells #[.int .i64 a0_0, .int .i64 a0_1, .int .i64 a0_2, .int .i64 a0_3, .bool a0_4, .string a0_5] 62 (0, 0)) B7x2_ hb); replace HB := Aside0.mk (below_step B7x1_ hb); (try clear hb); (try clear hb2); (try clear hk); (try clear hi)) | (go_at_call 74; (with_reducible refine (impl_within.calls a1 8 160 t223 _ A7.out).mono ?_); rintro e w' ⟨rfl, ⟨nd, rfl⟩⟩))
   go_meet
   case rel => exact ⟨_, (!t223), (be_), H', ⟨(by first | omega | exact Nat.le_refl _)⟩, ⟨B7x2_⟩, ⟨B7x1_⟩⟩
  ·replace c6 := Bool.eq_false_iff.mpr c6
   subst c6
   rw [if_neg (show ¬ (false = true) by decide)] at H
   have H' := Aside0.mk H
   clear H
   obtain ⟨hcz10_0, hcz10_1, hcz10_2, hcz10_3, hcz10_4, hcz10_5⟩ := cl6 BK221.out
   obtain ⟨hfz10_0, hfz10_1, hfz10_2, hfz10_3, hfz10_4, hfz10_5⟩ := fr6 BK221.out
   go_wp2_with (first | ((with_reducible refine gate_callee (f := 38) rfl ?_); refine goesL_ (some 11) rfl rfl Try.func38 B7x12_ rfl #[.agg #[.int .i64 a0_0, .int .i64 a0_1, .int .i64 a0_2, .int .i64 a0_3, .bool a0_4, .string a0_5]] rfl B7x4_ ?_; (with_reducible refine (impl_DgramOk.calls a0_0 a0_1 a0_2 a0_3 a0_4 a0_5 false _ A5.out).mono ?_); rintro e w11 ⟨rfl, hb⟩; refine ⟨_, rfl, ?_⟩; replace BK221 := Aside0.mk (blk_below (g := gb221) (o := .cells #[.int .i64 a0_0, .int .i64 a0_1, .int .i64 a0_2, .int .i64 a0_3, .bool a0_4, .string a0_5] 62 (0, 0)) B7x2_ hb); replace HB := Aside0.mk (below_step B7x1_ hb); (try clear hb); (try clear hb2); (try clear hk); (try clear hi)))
   go_meet
   case rel => exact ⟨_, (true), (be_), H', ⟨(by first | omega | exact Nat.le_refl _)⟩, ⟨B7x2_⟩, ⟨B7x1_⟩⟩
 case rest =>
  clear HC3
  try clear p2
  try clear c3
  try clear c6
  try clear hcz10_0
  try clear hcz10_1
  try clear hcz10_2
  try clear hcz10_3
  try clear hcz10_4
  try clear hcz10_5
  try clear hcz8_0
  try clear hcz8_1
  try clear hcz8_2
  try clear hcz8_3
  try clear hcz8_4
  try clear hcz8_5
  try clear hfz10_0
  try clear hfz10_1
  try clear hfz10_2
  try clear hfz10_3
  try clear hfz10_4
  try clear hfz10_5
  try clear hfz8_0
  try clear hfz8_1
  try clear hfz8_2
  try clear hfz8_3
  try clear hfz8_4
  try clear hfz8_5
  obtain ⟨kq, x17_2, rfl, HA, HJ2, BK221, HB⟩ := hcut
  cases kq with
  | zero => exact absurd HA.out (by simp [impl_CutDgram.j0])
  | succ kj2 =>
   have H := HA.out
   clear HA
   simp only [impl_CutDgram.j0] at H
   by_cases c12 : x17_2 = true
   ·subst c12
    rw [if_pos rfl] at H
    simp only [Option.some.injEq, Prod.mk.injEq] at H
    obtain ⟨rfl, rfl⟩ := H
    go_wp2
    go_ret2
    exact ⟨_, by first | rfl | (simp [errW_none, errW_some] <;> rfl) | (simp [*, errW_none, errW_some] <;> rfl), by first | exact Kd.R_nil _ _ _ _ _ | exact Kd.N_nil _ _ _ _ _ | exact Kd.V_nil _ _ _ _ _ | exact Kd.Q_nil _ _ _ _ _ | exact Kd.S_nil _ _ _ _ _, by repeat (first | (with_reducible first | exact HB.out | apply below_alloc | apply pw_below_drewN | apply below_drew1 | refine below_set ?_ GE221.out) | exact HB.out)⟩
   ·replace c12 := Bool.eq_false_iff.mpr c12
    subst c12
    rw [if_neg (show ¬ (false = true) by decide)] at H
    obtain ⟨y224, hy224⟩ : ∃ y_ : List (S62), y_ = (([] : List (S62))) := ⟨_, rfl⟩
    replace H : (impl_CutDgram.l0 kj2 (wrap64 ((wrap64 (Int.tdiv a1 8)) * 8)) y224 0 a0_0 a0_1 a0_2 a0_3 a0_4 a0_5) = some (r1, r2) := by first | (rw [hy224]; with_reducible exact H) | (have H2_ := (Option.bind_some _ _).symm.trans H; rw [hy224]; with_reducible exact H2_) | (have H2_ := (Option.bind_some _ _).symm.trans H; with_reducible exact H2_) | with_reducible exact H | (rw [hy224]; exact H) | exact H
    have Ny224 := Aside0.mk hy224
    clear hy224
    have H' := Aside0.mk H
    clear H
    go_wp2_with (first | ((with_reducible refine gate_dst (N := 21) rfl ?_); (try (refine gate_guard (by rfl) ?_; dsimp only)); refine Kd.R_lit k62 _ 62 ?hg (N := 21) ?hd (xs := ([] : List (S62))) (inner := []) (ok := fun _ => True) (okp := fun _ => True) ?hr ?hp (fun _ hk => hk) trivial (Below.refl _ _) (Nat.le_refl _) (by simp) ?_; (case hd => rfl); (case hg => rfl); (case hr => exact B7x11_); (case hp => exact (Reps.none _ _)); intro v225 w13 ho14 hb hg_ hnew_; clear hg_ hnew_; (first | rw [← Ny224.out] at ho14 | (simp only [Int.reduceToNat] at ho14; rw [← Ny224.out] at ho14)); have HO226 := Aside0.mk (Kd.R_lower (Kd.R_newB ho14 (g := gb221) (o := .cells #[.int .i64 a0_0, .int .i64 a0_1, .int .i64 a0_2, .int .i64 a0_3, .bool a0_4, .string a0_5] 62 (0, 0)) B7x2_) (below_size B7x1_)); replace BK221 := Aside0.mk (blk_below (g := gb221) (o := .cells #[.int .i64 a0_0, .int .i64 a0_1, .int .i64 a0_2, .int .i64 a0_3, .bool a0_4, .string a0_5] 62 (0, 0)) B7x2_ hb); replace HB := Aside0.mk (below_step B7x1_ hb); clear hb ho14))
    go_loopg [6, 7] kj2 (fun kq v6 v7 w' => ∃ (x6_2 : List (S62)) (x7_2 : Int), v7 = .int .i64 x7_2 ∧ Aside0 (impl_CutDgram.l0 kq (wrap64 ((wrap64 (Int.tdiv a1 8)) * 8)) x6_2 x7_2 a0_0 a0_1 a0_2 a0_3 a0_4 a0_5 = some (r1, r2)) ∧ Aside0 (kq ≤ kj2) ∧ Aside0 (Kd.R k62 62 w' w.heap.size (fun k_ => k_ ≠ gb221) v6 x6_2) ∧ Aside0 (w'.heap[gb221]? = some (.cells #[.int .i64 a0_0, .int .i64 a0_1, .int .i64 a0_2, .int .i64 a0_3, .bool a0_4, .string a0_5] 62 (0, 0))) ∧ Aside0 (Below w.heap.size w w'))
    case atStart => exact ⟨(y224), (0), (be_), H', ⟨Nat.le_refl _⟩, ⟨(by (with_reducible repeat (first | apply Kd.R_alloc | apply Kd.R_drewN | apply Kd.R_drew)); exact Kd.R_mono HO226.out (fun _ hk => hk.2))⟩, ⟨B7x2_⟩, ⟨B7x1_⟩⟩
    case round =>
     clear H'
     try clear c1
     try clear p2
     try clear c3
     try clear c6
     try clear p6
     try clear c12
     try clear hcz10_0
     try clear hcz10_1
     try clear hcz10_2
     try clear hcz10_3
     try clear hcz10_4
     try clear hcz10_5
     try clear hcz8_0
     try clear hcz8_1
     try clear hcz8_2
     try clear hcz8_3
     try clear hcz8_4
     try clear hcz8_5
     try clear hfz10_0
     try clear hfz10_1
     try clear hfz10_2
     try clear hfz10_3
     try clear hfz10_4
     try clear hfz10_5
     try clear hfz8_0
     try clear hfz8_1
     try clear hfz8_2
     try clear hfz8_3
     try clear hfz8_4
     try clear hfz8_5
     try clear p2
     obtain ⟨x6_2, x7_2, rfl, HA, HK2, HO_6, BK221, HB⟩ := hrel
     cases gk with
     | zero => exact absurd HA.out (by simp [impl_CutDgram.l0])
     | succ k2 =>
      have H := HA.out
      clear HA
      simp only [impl_CutDgram.l0] at H
      by_cases c15 : x7_2 < (a0_5.size : Int)
      ·rw [if_pos c15] at H
       have c15b0 : decide (x7_2 < (a0_5.size : Int)) = true := decide_eq_true c15
       clear c15
       obtain ⟨ji16, hji16⟩ : ∃ j_ : Int, (mn (wrap64 (x7_2 + (wrap64 ((wrap64 (Int.tdiv a1 8)) * 8)))) (a0_5.size : Int)) = j_ := ⟨_, rfl⟩
       replace H : (if 0 ≤ x7_2 then (if x7_2 ≤ (ji16) then (if (ji16) ≤ (a0_5.size : Int) then (if a0_4 = true then (if x6_2.length < 2513169434916 then (impl_CutDgram.l0 k2 (wrap64 ((wrap64 (Int.tdiv a1 8)) * 8)) (x6_2 ++ [(⟨a0_0, a0_1, a0_2, wrap64 (a0_3 + x7_2), true, a0_5.extract (x7_2 : Int).toNat ((ji16) : Int).toNat⟩ : S62)]) (wrap64 (x7_2 + (wrap64 ((wrap64 (Int.tdiv a1 8)) * 8)))) a0_0 a0_1 a0_2 a0_3 a0_4 a0_5) else (none)) else (if x6_2.length < 2513169434916 then (impl_CutDgram.l0 k2 (wrap64 ((wrap64 (Int.tdiv a1 8)) * 8)) (x6_2 ++ [(⟨a0_0, a0_1, a0_2, wrap64 (a0_3 + x7_2), decide ((ji16) < (a0_5.size : Int)), a0_5.extract (x7_2 : Int).toNat ((ji16) : Int).toNat⟩ : S62)]) (wrap64 (x7_2 + (wrap64 ((wrap64 (Int.tdiv a1 8)) * 8)))) a0_0 a0_1 a0_2 a0_3 a0_4 a0_5) else (none))) else (none)) else (none)) else (none)) = some (r1, r2) := by first | (rw [hji16] at H; exact H) | (simp only [hji16] at H ⊢; exact H)
       have hji16_ : (if (a0_5.size : Int) < (wrap64 (x7_2 + (wrap64 ((wrap64 (Int.tdiv a1 8)) * 8)))) then (a0_5.size : Int) else (wrap64 (x7_2 + (wrap64 ((wrap64 (Int.tdiv a1 8)) * 8))))) = ji16 := hji16
       by_cases c17 : 0 ≤ x7_2
       rotate_left
       ·rw [if_neg c17] at H
        exact absurd H (by simp)
       rw [if_pos c17] at H
       have c17b0 := eq_true c17
       have c17b1 : decide (0 ≤ x7_2) = true := decide_eq_true c17
       clear c17
       by_cases c18 : x7_2 ≤ (ji16)
       rotate_left
       ·rw [if_neg c18] at H
        exact absurd H (by simp)
       rw [if_pos c18] at H
       have c18b0 := eq_true c18
       have c18b1 : decide (x7_2 ≤ (ji16)) = true := decide_eq_true c18
       clear c18
       by_cases c19 : (ji16) ≤ (a0_5.size : Int)
       rotate_left
       ·rw [if_neg c19] at H
        exact absurd H (by simp)
       rw [if_pos c19] at H
       have c19b0 := eq_true c19
       have c19b1 : decide ((ji16) ≤ (a0_5.size : Int)) = true := decide_eq_true c19
       clear c19
       by_cases c20 : a0_4 = true
       ·subst c20
        rw [if_pos rfl] at H
        by_cases c21 : x6_2.length < 2513169434916
        rotate_left
        ·rw [if_neg c21] at H
         exact absurd H (by simp)
        rw [if_pos c21] at H
        have LMc21 := Aside0.mk c21
        clear c21
        obtain ⟨y228, hy228⟩ : ∃ y_ : List (S62), y_ = (x6_2 ++ [(⟨a0_0, a0_1, a0_2, wrap64 (a0_3 + x7_2), true, a0_5.extract (x7_2 : Int).toNat ((ji16) : Int).toNat⟩ : S62)]) := ⟨_, rfl⟩
        replace H : (impl_CutDgram.l0 k2 (wrap64 ((wrap64 (Int.tdiv a1 8)) * 8)) y228 (wrap64 (x7_2 + (wrap64 ((wrap64 (Int.tdiv a1 8)) * 8)))) a0_0 a0_1 a0_2 a0_3 true a0_5) = some (r1, r2) := by first | (rw [hy228]; with_reducible exact H) | (have H2_ := (Option.bind_some _ _).symm.trans H; rw [hy228]; with_reducible exact H2_) | (have H2_ := (Option.bind_some _ _).symm.trans H; with_reducible exact H2_) | with_reducible exact H | (rw [hy228]; exact H) | exact H
        have Ny228 := Aside0.mk hy228
        clear hy228
        have H' := Aside0.mk H
        clear H
        obtain ⟨hcz22_0, hcz22_1, hcz22_2, hcz22_3, hcz22_4, hcz22_5⟩ := cl6 BK221.out
        obtain ⟨hfz22_0, hfz22_1, hfz22_2, hfz22_3, hfz22_4, hfz22_5⟩ := fr6 BK221.out
        try go_wp2_with (first | ((with_reducible refine gate_dst (N := 9) rfl ?_); (try (refine gate_guard (by rfl) ?_; dsimp only)); refine box_event ?hg (N := 9) ?hd (cs := #[.int .i64 0, .int .i64 0, .int .i64 0, .int .i64 0, .bool false, .string (⟨#[]⟩ : ByteArray)]) (t := 62) ?hr ?_; (case hd => rfl); (case hg => rfl); (case hr => exact B7x11_); intro gb227 hg w23 hbox hb; replace HO_6 := Aside0.mk (Kd.R_below (Kd.R_elderB B7x13_ gb227 (Nat.le_of_eq hg.symm)) hb); have BK227 := Aside0.mk (hbox); have GW227 := Aside0.mk ((by rw [hg]; exact (below_size B7x1_) : w.heap.size ≤ gb227)); have GE227 := Aside0.mk ((by rw [hg]; exact (below_size B7x1_) : w.heap.size ≤ gb227)); replace HB := Aside0.mk (below_step B7x1_ hb); have NB221_227 := Aside0.mk ((by rw [hg]; exact Nat.ne_of_lt (blk_lt (g := gb221) (o := .cells #[.int .i64 a0_0, .int .i64 a0_1, .int .i64 a0_2, .int .i64 a0_3, .bool true, .string a0_5] 62 (0, 0)) B7x2_) : gb221 ≠ gb227)); have NB227_221 := Aside0.mk ((by rw [hg]; exact Nat.ne_of_gt (blk_lt (g := gb221) (o := .cells #[.int .i64 a0_0, .int .i64 a0_1, .int .i64 a0_2, .int .i64 a0_3, .bool true, .string a0_5] 62 (0, 0)) B7x2_) : gb227 ≠ gb221)); replace BK221 := Aside0.mk (blk_below (g := gb221) (o := .cells #[.int .i64 a0_0, .int .i64 a0_1, .int .i64 a0_2, .int .i64 a0_3, .bool true, .string a0_5] 62 (0, 0)) B7x2_ hb); clear hb hbox hg; have hnb24 := NB227_221.out; have hnc24 := NB221_227.out; obtain ⟨hcz25_0, hcz25_1, hcz25_2, hcz25_3, hcz25_4, hcz25_5⟩ := cl6 BK227.out; obtain ⟨hfz25_0, hfz25_1, hfz25_2, hfz25_3, hfz25_4, hfz25_5⟩ := fr6 BK227.out) | ((with_reducible refine gate_store (t := 62) (p := 9) rfl ?_); refine store_event (t := 62) (p := 9) (v := ?vo_w26) (w1 := ((((((w23.setCell ⟨gb227, 0, none⟩ (.int .i64 a0_0)).setCell ⟨gb227, 1, none⟩ (.int .i64 a0_1)).setCell ⟨gb227, 2, none⟩ (.int .i64 a0_2)).setCell ⟨gb227, 3, none⟩ (.int .i64 a0_3)).setCell ⟨gb227, 4, none⟩ (.bool true)).setCell ⟨gb227, 5, none⟩ (.string a0_5))) ?hg ?ho ?hn ?hr ?_; (case ho => rfl); (case hg => rfl); (case hn => rfl); (case hr => exact B7x11_); intro w26 hw; replace HO_6 : Aside0 (Kd.R k62 62 w26 w.heap.size (fun k_ => k_ ≠ gb221 ∧ k_ ≠ gb227) u6 x6_2) := ⟨(by rw [hw]; exact (by (with_reducible repeat (first | apply Kd.R_alloc | apply Kd.R_drewN | apply Kd.R_drew)); exact Kd.R_mono (Kd.R_far (p := ⟨gb227, 5, none⟩) (Kd.R_far (p := ⟨gb227, 4, none⟩) (Kd.R_far (p := ⟨gb227, 3, none⟩) (Kd.R_far (p := ⟨gb227, 2, none⟩) (Kd.R_far (p := ⟨gb227, 1, none⟩) (Kd.R_far (p := ⟨gb227, 0, none⟩) (Kd.R_mono HO_6.out (fun k_ hk => (⟨hk, hk.2⟩ : _ ∧ k_ ≠ gb227))) (fun _ hk => hk.2) (.int .i64 a0_0)) (fun _ hk => hk.2) (.int .i64 a0_1)) (fun _ hk => hk.2) (.int .i64 a0_2)) (fun _ hk => hk.2) (.int .i64 a0_3)) (fun _ hk => hk.2) (.bool true)) (fun _ hk => hk.2) (.string a0_5)) (fun _ hk => ⟨hk.1.1, hk.1.2⟩)))⟩; replace BK221 : Aside0 (w26.heap[gb221]? = some (.cells #[.int .i64 a0_0, .int .i64 a0_1, .int .i64 a0_2, .int .i64 a0_3, .bool true, .string a0_5] 62 (0, 0))) := ⟨B7x7_⟩; replace BK227 : Aside0 (w26.heap[gb227]? = some (.cells #[.int .i64 a0_0, .int .i64 a0_1, .int .i64 a0_2, .int .i64 a0_3, .bool true, .string a0_5] 62 (0, 0))) := ⟨(by rw [hw]; exact (by (with_reducible repeat (first | refine blk_drewN ?_ _ | refine blk_drew ?_ | refine blk_alloc ?_ _)); refine blk_put (cs := #[.int .i64 a0_0, .int .i64 a0_1, .int .i64 a0_2, .int .i64 a0_3, .bool true, .string (⟨#[]⟩ : ByteArray)]) ?_ 5 _ rfl; (with_reducible repeat (first | refine blk_drewN ?_ _ | refine blk_drew ?_ | refine blk_alloc ?_ _)); refine blk_put (cs := #[.int .i64 a0_0, .int .i64 a0_1, .int .i64 a0_2, .int .i64 a0_3, .bool false, .string (⟨#[]⟩ : ByteArray)]) ?_ 4 _ rfl; (with_reducible repeat (first | refine blk_drewN ?_ _ | refine blk_drew ?_ | refine blk_alloc ?_ _)); refine blk_put (cs := #[.int .i64 a0_0, .int .i64 a0_1, .int .i64 a0_2, .int .i64 0, .bool false, .string (⟨#[]⟩ : ByteArray)]) ?_ 3 _ rfl; (with_reducible repeat (first | refine blk_drewN ?_ _ | refine blk_drew ?_ | refine blk_alloc ?_ _)); refine blk_put (cs := #[.int .i64 a0_0, .int .i64 a0_1, .int .i64 0, .int .i64 0, .bool false, .string (⟨#[]⟩ : ByteArray)]) ?_ 2 _ rfl; (with_reducible repeat (first | refine blk_drewN ?_ _ | refine blk_drew ?_ | refine blk_alloc ?_ _)); refine blk_put (cs := #[.int .i64 a0_0, .int .i64 0, .int .i64 0, .int .i64 0, .bool false, .string (⟨#[]⟩ : ByteArray)]) ?_ 1 _ rfl; (with_reducible repeat (first | refine blk_drewN ?_ _ | refine blk_drew ?_ | refine blk_alloc ?_ _)); refine blk_put (cs := #[.int .i64 0, .int .i64 0, .int .i64 0, .int .i64 0, .bool false, .string (⟨#[]⟩ : ByteArray)]) ?_ 0 _ rfl; (with_reducible repeat (first | refine blk_drewN ?_ _ | refine blk_drew ?_ | refine blk_alloc ?_ _)); exact BK227.out))⟩; replace HB : Aside0 (Below w.heap.size w w26) := ⟨(by rw [hw]; exact B7x5_)⟩; clear hw))
        replace HO_6 := Aside0.mk (Kd.R_drew HO_6.out)
        replace BK221 := Aside0.mk (blk_drew BK221.out)
        replace BK227 := Aside0.mk (blk_drew BK227.out)
        replace HB := Aside0.mk (below_drew1 HB.out)
        refine start_ (n := 13) (S := fun w' => w'.cell? ⟨gb221, 0, none⟩ = some (.int .i64 a0_0) ∧ w'.cell? ⟨gb221, 1, none⟩ = some (.int .i64 a0_1) ∧ w'.cell? ⟨gb221, 2, none⟩ = some (.int .i64 a0_2) ∧ w'.cell? ⟨gb221, 3, none⟩ = some (.int .i64 a0_3) ∧ w'.cell? ⟨gb221, 4, none⟩ = some (.bool true) ∧ w'.cell? ⟨gb221, 5, none⟩ = some (.string a0_5)) (ds := []) #[false, false, false, false, false, false, false, false, false, false, false, false, false] B7x12_ rfl rfl ⟨(blk_cell BK221.out 0).trans rfl, (blk_cell BK221.out 1).trans rfl, (blk_cell BK221.out 2).trans rfl, (blk_cell BK221.out 3).trans rfl, (blk_cell BK221.out 4).trans rfl, (blk_cell BK221.out 5).trans rfl⟩ (fun hHeld => ?_); refine with_tabW impl_CutDgram.tab10 impl_CutDgram.bits10 (fun HT_ HW_ => ?_)
        generalize w26.drew = w27 at HO_6 BK221 BK227 HB hHeld ⊢
        refine pu_ 0 38 HT_ ?_
        refine pu_ 2 40 HT_ ?_
        refine pu_ 4 42 HT_ ?_
        refine pu_ 6 44 HT_ ?_
        refine pu_ 7 45 HT_ ?_
        refine ta_ 1 39 HT_ HW_ hHeld ?_
        refine pu_ 3 41 HT_ ?_
        refine pu_ 9 47 HT_ ?_
        refine ta_ 5 43 HT_ HW_ hHeld ?_
        refine pu_ 8 46 HT_ ?_
        refine one_ (i := 10) (N := none) #[true, true, true, true, true, true, true, true, true, true, true, false, false] rfl rfl (one_of HT_.out B7x12_) (by decide) (fun K hK => ?_)
        have hs28 : w27.cell? ⟨gb227, 3, none⟩ = some (.int .i64 a0_3) := (blk_cell BK227.out 3).trans rfl
        have hfs28 := blk_frozen BK227.out 3
        have hns28_0 := NB221_227.out
        have hms28_0 := NB227_221.out
        refine skip_ (w1 := ?_) (by rfl) rfl ?_ ?_
        rotate_left
        ·go_simp
         rfl
        refine hK.out _ _ ⟨((cell_far (p := ⟨gb227, _, none⟩) NB221_227.out _).trans (hHeld.1)), ((cell_far (p := ⟨gb227, _, none⟩) NB221_227.out _).trans (hHeld.2.1)), ((cell_far (p := ⟨gb227, _, none⟩) NB221_227.out _).trans (hHeld.2.2.1)), ((cell_far (p := ⟨gb227, _, none⟩) NB221_227.out _).trans (hHeld.2.2.2.1)), ((cell_far (p := ⟨gb227, _, none⟩) NB221_227.out _).trans (hHeld.2.2.2.2.1)), ((cell_far (p := ⟨gb227, _, none⟩) NB221_227.out _).trans (hHeld.2.2.2.2.2))⟩ (fun hHeld => ?_)
        clear hK K
        refine pu_ 11 48 HT_ ?_
        refine one_ (i := 12) (N := none) #[true, true, true, true, true, true, true, true, true, true, true, true, true] rfl rfl (one_of HT_.out B7x12_) (by decide) (fun K hK => ?_)
        have hs29 : w27.cell? ⟨gb227, 5, none⟩ = some (.string a0_5) := (blk_cell BK227.out 5).trans rfl
        have hfs29 := blk_frozen BK227.out 5
        have hns29_0 := NB221_227.out
        have hms29_0 := NB227_221.out
        refine skip_ (w1 := ?_) (by rfl) rfl ?_ ?_
        rotate_left
        ·go_simp
         rfl
        refine hK.out _ _ ⟨((cell_far (p := ⟨gb227, _, none⟩) NB221_227.out _).trans (hHeld.1)), ((cell_far (p := ⟨gb227, _, none⟩) NB221_227.out _).trans (hHeld.2.1)), ((cell_far (p := ⟨gb227, _, none⟩) NB221_227.out _).trans (hHeld.2.2.1)), ((cell_far (p := ⟨gb227, _, none⟩) NB221_227.out _).trans (hHeld.2.2.2.1)), ((cell_far (p := ⟨gb227, _, none⟩) NB221_227.out _).trans (hHeld.2.2.2.2.1)), ((cell_far (p := ⟨gb227, _, none⟩) NB221_227.out _).trans (hHeld.2.2.2.2.2))⟩ (fun hHeld => ?_)
        clear hK K
        refine done_ (done_of HT_.out B7x12_) ?_
        obtain ⟨hcz30_0, hcz30_1, hcz30_2, hcz30_3, hcz30_4, hcz30_5⟩ := cl6 BK221.out
        obtain ⟨hfz30_0, hfz30_1, hfz30_2, hfz30_3, hfz30_4, hfz30_5⟩ := fr6 BK221.out
        obtain ⟨hcz31_0, hcz31_1, hcz31_2, hcz31_3, hcz31_4, hcz31_5⟩ := cl6 BK227.out
        obtain ⟨hfz31_0, hfz31_1, hfz31_2, hfz31_3, hfz31_4, hfz31_5⟩ := fr6 BK227.out
        try go_wp2_with (first | ((with_reducible refine gate_builtin (b := .append) (xs := #[.tmp 59, .tmp 61]) rfl ?_); (try (refine gate_guard (by rfl) ?_; dsimp only)); at_builtin; refine Kd.R_append k62 (w0 := w) w.heap.size rfl (.tmp 59) (.tmp 61) 65 62 (.agg #[(.int .i64 0), (.int .i64 0), (.int .i64 0), (.int .i64 0), (.bool false), (.string ⟨#[]⟩)]) 56 rfl Try.underlying65 info62 rfl (by decide) (by omega) u6 x6_2 (⟨a0_0, a0_1, a0_2, wrap64 (a0_3 + x7_2), true, a0_5.extract (x7_2 : Int).toNat ((ji16) : Int).toNat⟩ : S62) [.int .i64 a0_0, .int .i64 a0_1, .int .i64 a0_2, .int .i64 (wrap64 (a0_3 + x7_2)), .bool true, .string (a0_5.extract (x7_2 : Int).toNat ((ji16) : Int).toNat)] (fun k_ => k_ ≠ gb221 ∧ k_ ≠ gb227) (fun _ => False) rfl B7x11_ ?aP (fun _ hk => hk.elim) ?aF ?aO ?aB ?aS ?aL ?_; (case aP => exact k62_mkM _ _ _ (⟨a0_0, a0_1, a0_2, wrap64 (a0_3 + x7_2), true, a0_5.extract (x7_2 : Int).toNat ((ji16) : Int).toNat⟩ : S62)); (case aB => exact B7x5_); (case aF => exact (fun k_ hk => ⟨Kd.freshB (g := gb221) (o := .cells #[.int .i64 a0_0, .int .i64 a0_1, .int .i64 a0_2, .int .i64 a0_3, .bool true, .string a0_5] 62 (0, 0)) B7x3_ k_ hk, Kd.freshB (g := gb227) (o := .cells #[.int .i64 a0_0, .int .i64 a0_1, .int .i64 a0_2, .int .i64 (wrap64 (a0_3 + x7_2)), .bool true, .string (a0_5.extract (x7_2 : Int).toNat ((ji16) : Int).toNat)] 62 (0, 0)) B7x9_ k_ hk⟩)); (case aO => (with_reducible repeat (first | apply Kd.R_alloc | apply Kd.R_drewN | apply Kd.R_drew)); exact Kd.R_mono (Kd.R_far (p := ⟨gb227, 4, none⟩) (Kd.R_far (p := ⟨gb227, 5, none⟩) (Kd.R_far (p := ⟨gb227, 3, none⟩) (Kd.R_mono HO_6.out (fun k_ hk => (⟨hk, hk.2⟩ : _ ∧ k_ ≠ gb227))) (fun _ hk => hk.2) (.int .i64 (wrap64 (a0_3 + x7_2)))) (fun _ hk => hk.2) (.string (a0_5.extract (x7_2 : Int).toNat ((ji16) : Int).toNat))) (fun _ hk => hk.2) (.bool true)) (fun _ hk => ⟨hk.1.1, hk.1.2⟩)); (case aS => exact (below_size B7x5_)); (case aL => have := LMc21.out; omega); intro v229 w32 ho hb hg hat; rw [← Ny228.out] at ho; replace BK221 := Aside0.mk (blk_grown (g := gb221) (o := .cells #[.int .i64 a0_0, .int .i64 a0_1, .int .i64 a0_2, .int .i64 a0_3, .bool true, .string a0_5] 62 (0, 0)) B7x3_ hg (Kd.R_away HO_6.out (fun _ hk => hk.1))); replace BK227 := Aside0.mk (blk_grown (g := gb227) (o := .cells #[.int .i64 a0_0, .int .i64 a0_1, .int .i64 a0_2, .int .i64 (wrap64 (a0_3 + x7_2)), .bool true, .string (a0_5.extract (x7_2 : Int).toNat ((ji16) : Int).toNat)] 62 (0, 0)) B7x9_ hg (Kd.R_away HO_6.out (fun _ hk => hk.2))); replace HB := Aside0.mk (hb); have HO230 := Aside0.mk (ho); clear HO_6; clear ho hb hg hat))
        go_roundg k2
        case measure => have := HJ2.out; have := HK2.out; omega
        case rel => exact ⟨(y228), (wrap64 (x7_2 + (wrap64 ((wrap64 (Int.tdiv a1 8)) * 8)))), (be_), H', ⟨(by have := HJ2.out; have := HK2.out; omega)⟩, ⟨(by (with_reducible repeat (first | apply Kd.R_alloc | apply Kd.R_drewN | apply Kd.R_drew)); exact Kd.R_mono HO230.out (fun _ hk => hk.1))⟩, ⟨B7x2_⟩, ⟨B7x5_⟩⟩
       ·replace c20 := Bool.eq_false_iff.mpr c20
        subst c20
        rw [if_neg (show ¬ (false = true) by decide)] at H
        by_cases c33 : x6_2.length < 2513169434916
        rotate_left
        ·rw [if_neg c33] at H
         exact absurd H (by simp)
        rw [if_pos c33] at H
        have LMc33 := Aside0.mk c33
        clear c33
        obtain ⟨y231, hy231⟩ : ∃ y_ : List (S62), y_ = (x6_2 ++ [(⟨a0_0, a0_1, a0_2, wrap64 (a0_3 + x7_2), decide ((ji16) < (a0_5.size : Int)), a0_5.extract (x7_2 : Int).toNat ((ji16) : Int).toNat⟩ : S62)]) := ⟨_, rfl⟩
        replace H : (impl_CutDgram.l0 k2 (wrap64 ((wrap64 (Int.tdiv a1 8)) * 8)) y231 (wrap64 (x7_2 + (wrap64 ((wrap64 (Int.tdiv a1 8)) * 8)))) a0_0 a0_1 a0_2 a0_3 false a0_5) = some (r1, r2) := by first | (rw [hy231]; with_reducible exact H) | (have H2_ := (Option.bind_some _ _).symm.trans H; rw [hy231]; with_reducible exact H2_) | (have H2_ := (Option.bind_some _ _).symm.trans H; with_reducible exact H2_) | with_reducible exact H | (rw [hy231]; exact H) | exact H
        have Ny231 := Aside0.mk hy231
        clear hy231
        have H' := Aside0.mk H
        clear H
        obtain ⟨hcz34_0, hcz34_1, hcz34_2, hcz34_3, hcz34_4, hcz34_5⟩ := cl6 BK221.out
        obtain ⟨hfz34_0, hfz34_1, hfz34_2, hfz34_3, hfz34_4, hfz34_5⟩ := fr6 BK221.out
        try go_wp2_with (first | ((with_reducible refine gate_dst (N := 9) rfl ?_); (try (refine gate_guard (by rfl) ?_; dsimp only)); refine box_event ?hg (N := 9) ?hd (cs := #[.int .i64 0, .int .i64 0, .int .i64 0, .int .i64 0, .bool false, .string (⟨#[]⟩ : ByteArray)]) (t := 62) ?hr ?_; (case hd => rfl); (case hg => rfl); (case hr => exact B7x11_); intro gb227 hg w35 hbox hb; replace HO_6 := Aside0.mk (Kd.R_below (Kd.R_elderB B7x13_ gb227 (Nat.le_of_eq hg.symm)) hb); have BK227 := Aside0.mk (hbox); have GW227 := Aside0.mk ((by rw [hg]; exact (below_size B7x1_) : w.heap.size ≤ gb227)); have GE227 := Aside0.mk ((by rw [hg]; exact (below_size B7x1_) : w.heap.size ≤ gb227)); replace HB := Aside0.mk (below_step B7x1_ hb); have NB221_227 := Aside0.mk ((by rw [hg]; exact Nat.ne_of_lt (blk_lt (g := gb221) (o := .cells #[.int .i64 a0_0, .int .i64 a0_1, .int .i64 a0_2, .int .i64 a0_3, .bool false, .string a0_5] 62 (0, 0)) B7x2_) : gb221 ≠ gb227)); have NB227_221 := Aside0.mk ((by rw [hg]; exact Nat.ne_of_gt (blk_lt (g := gb221) (o := .cells #[.int .i64 a0_0, .int .i64 a0_1, .int .i64 a0_2, .int .i64 a0_3, .bool false, .string a0_5] 62 (0, 0)) B7x2_) : gb227 ≠ gb221)); replace BK221 := Aside0.mk (blk_below (g := gb221) (o := .cells #[.int .i64 a0_0, .int .i64 a0_1, .int .i64 a0_2, .int .i64 a0_3, .bool false, .string a0_5] 62 (0, 0)) B7x2_ hb); clear hb hbox hg; have hnb36 := NB227_221.out; have hnc36 := NB221_227.out; obtain ⟨hcz37_0, hcz37_1, hcz37_2, hcz37_3, hcz37_4, hcz37_5⟩ := cl6 BK227.out; obtain ⟨hfz37_0, hfz37_1, hfz37_2, hfz37_3, hfz37_4, hfz37_5⟩ := fr6 BK227.out) | ((with_reducible refine gate_store (t := 62) (p := 9) rfl ?_); refine store_event (t := 62) (p := 9) (v := ?vo_w38) (w1 := ((((((w35.setCell ⟨gb227, 0, none⟩ (.int .i64 a0_0)).setCell ⟨gb227, 1, none⟩ (.int .i64 a0_1)).setCell ⟨gb227, 2, none⟩ (.int .i64 a0_2)).setCell ⟨gb227, 3, none⟩ (.int .i64 a0_3)).setCell ⟨gb227, 4, none⟩ (.bool false)).setCell ⟨gb227, 5, none⟩ (.string a0_5))) ?hg ?ho ?hn ?hr ?_; (case ho => rfl); (case hg => rfl); (case hn => rfl); (case hr => exact B7x11_); intro w38 hw; replace HO_6 : Aside0 (Kd.R k62 62 w38 w.heap.size (fun k_ => k_ ≠ gb221 ∧ k_ ≠ gb227) u6 x6_2) := ⟨(by rw [hw]; exact (by (with_reducible repeat (first | apply Kd.R_alloc | apply Kd.R_drewN | apply Kd.R_drew)); exact Kd.R_mono (Kd.R_far (p := ⟨gb227, 5, none⟩) (Kd.R_far (p := ⟨gb227, 4, none⟩) (Kd.R_far (p := ⟨gb227, 3, none⟩) (Kd.R_far (p := ⟨gb227, 2, none⟩) (Kd.R_far (p := ⟨gb227, 1, none⟩) (Kd.R_far (p := ⟨gb227, 0, none⟩) (Kd.R_mono HO_6.out (fun k_ hk => (⟨hk, hk.2⟩ : _ ∧ k_ ≠ gb227))) (fun _ hk => hk.2) (.int .i64 a0_0)) (fun _ hk => hk.2) (.int .i64 a0_1)) (fun _ hk => hk.2) (.int .i64 a0_2)) (fun _ hk => hk.2) (.int .i64 a0_3)) (fun _ hk => hk.2) (.bool false)) (fun _ hk => hk.2) (.string a0_5)) (fun _ hk => ⟨hk.1.1, hk.1.2⟩)))⟩; replace BK221 : Aside0 (w38.heap[gb221]? = some (.cells #[.int .i64 a0_0, .int .i64 a0_1, .int .i64 a0_2, .int .i64 a0_3, .bool false, .string a0_5] 62 (0, 0))) := ⟨B7x7_⟩; replace BK227 : Aside0 (w38.heap[gb227]? = some (.cells #[.int .i64 a0_0, .int .i64 a0_1, .int .i64 a0_2, .int .i64 a0_3, .bool false, .string a0_5] 62 (0, 0))) := ⟨(by rw [hw]; exact (by (with_reducible repeat (first | refine blk_drewN ?_ _ | refine blk_drew ?_ | refine blk_alloc ?_ _)); refine blk_put (cs := #[.int .i64 a0_0, .int .i64 a0_1, .int .i64 a0_2, .int .i64 a0_3, .bool false, .string (⟨#[]⟩ : ByteArray)]) ?_ 5 _ rfl; (with_reducible repeat (first | refine blk_drewN ?_ _ | refine blk_drew ?_ | refine blk_alloc ?_ _)); refine blk_put (cs := #[.int .i64 a0_0, .int .i64 a0_1, .int .i64 a0_2, .int .i64 a0_3, .bool false, .string (⟨#[]⟩ : ByteArray)]) ?_ 4 _ rfl; (with_reducible repeat (first | refine blk_drewN ?_ _ | refine blk_drew ?_ | refine blk_alloc ?_ _)); refine blk_put (cs := #[.int .i64 a0_0, .int .i64 a0_1, .int .i64 a0_2, .int .i64 0, .bool false, .string (⟨#[]⟩ : ByteArray)]) ?_ 3 _ rfl; (with_reducible repeat (first | refine blk_drewN ?_ _ | refine blk_drew ?_ | refine blk_alloc ?_ _)); refine blk_put (cs := #[.int .i64 a0_0, .int .i64 a0_1, .int .i64 0, .int .i64 0, .bool false, .string (⟨#[]⟩ : ByteArray)]) ?_ 2 _ rfl; (with_reducible repeat (first | refine blk_drewN ?_ _ | refine blk_drew ?_ | refine blk_alloc ?_ _)); refine blk_put (cs := #[.int .i64 a0_0, .int .i64 0, .int .i64 0, .int .i64 0, .bool false, .string (⟨#[]⟩ : ByteArray)]) ?_ 1 _ rfl; (with_reducible repeat (first | refine blk_drewN ?_ _ | refine blk_drew ?_ | refine blk_alloc ?_ _)); refine blk_put (cs := #[.int .i64 0, .int .i64 0, .int .i64 0, .int .i64 0, .bool false, .string (⟨#[]⟩ : ByteArray)]) ?_ 0 _ rfl; (with_reducible repeat (first | refine blk_drewN ?_ _ | refine blk_drew ?_ | refine blk_alloc ?_ _)); exact BK227.out))⟩; replace HB : Aside0 (Below w.heap.size w w38) := ⟨(by rw [hw]; exact B7x5_)⟩; clear hw))
        replace HO_6 := Aside0.mk (Kd.R_drew HO_6.out)
        replace BK221 := Aside0.mk (blk_drew BK221.out)
        replace BK227 := Aside0.mk (blk_drew BK227.out)
        replace HB := Aside0.mk (below_drew1 HB.out)
        refine start_ (n := 13) (S := fun w' => w'.cell? ⟨gb221, 0, none⟩ = some (.int .i64 a0_0) ∧ w'.cell? ⟨gb221, 1, none⟩ = some (.int .i64 a0_1) ∧ w'.cell? ⟨gb221, 2, none⟩ = some (.int .i64 a0_2) ∧ w'.cell? ⟨gb221, 3, none⟩ = some (.int .i64 a0_3) ∧ w'.cell? ⟨gb221, 4, none⟩ = some (.bool false) ∧ w'.cell? ⟨gb221, 5, none⟩ = some (.string a0_5)) (ds := []) #[false, false, false, false, false, false, false, false, false, false, false, false, false] B7x12_ rfl rfl ⟨(blk_cell BK221.out 0).trans rfl, (blk_cell BK221.out 1).trans rfl, (blk_cell BK221.out 2).trans rfl, (blk_cell BK221.out 3).trans rfl, (blk_cell BK221.out 4).trans rfl, (blk_cell BK221.out 5).trans rfl⟩ (fun hHeld => ?_); refine with_tabW impl_CutDgram.tab10 impl_CutDgram.bits10 (fun HT_ HW_ => ?_)
        generalize w38.drew = w39 at HO_6 BK221 BK227 HB hHeld ⊢
        refine pu_ 0 38 HT_ ?_
        refine pu_ 2 40 HT_ ?_
        refine pu_ 4 42 HT_ ?_
        refine pu_ 6 44 HT_ ?_
        refine pu_ 7 45 HT_ ?_
        refine ta_ 1 39 HT_ HW_ hHeld ?_
        refine pu_ 3 41 HT_ ?_
        refine pu_ 9 47 HT_ ?_
        refine ta_ 5 43 HT_ HW_ hHeld ?_
        refine pu_ 8 46 HT_ ?_
        refine one_ (i := 10) (N := none) #[true, true, true, true, true, true, true, true, true, true, true, false, false] rfl rfl (one_of HT_.out B7x12_) (by decide) (fun K hK => ?_)
        have hs40 : w39.cell? ⟨gb227, 3, none⟩ = some (.int .i64 a0_3) := (blk_cell BK227.out 3).trans rfl
        have hfs40 := blk_frozen BK227.out 3
        have hns40_0 := NB221_227.out
        have hms40_0 := NB227_221.out
        refine skip_ (w1 := ?_) (by rfl) rfl ?_ ?_
        rotate_left
        ·go_simp
         rfl
        refine hK.out _ _ ⟨((cell_far (p := ⟨gb227, _, none⟩) NB221_227.out _).trans (hHeld.1)), ((cell_far (p := ⟨gb227, _, none⟩) NB221_227.out _).trans (hHeld.2.1)), ((cell_far (p := ⟨gb227, _, none⟩) NB221_227.out _).trans (hHeld.2.2.1)), ((cell_far (p := ⟨gb227, _, none⟩) NB221_227.out _).trans (hHeld.2.2.2.1)), ((cell_far (p := ⟨gb227, _, none⟩) NB221_227.out _).trans (hHeld.2.2.2.2.1)), ((cell_far (p := ⟨gb227, _, none⟩) NB221_227.out _).trans (hHeld.2.2.2.2.2))⟩ (fun hHeld => ?_)
        clear hK K
        refine pu_ 11 48 HT_ ?_
        refine one_ (i := 12) (N := none) #[true, true, true, true, true, true, true, true, true, true, true, true, true] rfl rfl (one_of HT_.out B7x12_) (by decide) (fun K hK => ?_)
        have hs41 : w39.cell? ⟨gb227, 5, none⟩ = some (.string a0_5) := (blk_cell BK227.out 5).trans rfl
        have hfs41 := blk_frozen BK227.out 5
        have hns41_0 := NB221_227.out
        have hms41_0 := NB227_221.out
        refine skip_ (w1 := ?_) (by rfl) rfl ?_ ?_
        rotate_left
        ·go_simp
         rfl
        refine hK.out _ _ ⟨((cell_far (p := ⟨gb227, _, none⟩) NB221_227.out _).trans (hHeld.1)), ((cell_far (p := ⟨gb227, _, none⟩) NB221_227.out _).trans (hHeld.2.1)), ((cell_far (p := ⟨gb227, _, none⟩) NB221_227.out _).trans (hHeld.2.2.1)), ((cell_far (p := ⟨gb227, _, none⟩) NB221_227.out _).trans (hHeld.2.2.2.1)), ((cell_far (p := ⟨gb227, _, none⟩) NB221_227.out _).trans (hHeld.2.2.2.2.1)), ((cell_far (p := ⟨gb227, _, none⟩) NB221_227.out _).trans (hHeld.2.2.2.2.2))⟩ (fun hHeld => ?_)
        clear hK K
        refine done_ (done_of HT_.out B7x12_) ?_
        obtain ⟨hcz42_0, hcz42_1, hcz42_2, hcz42_3, hcz42_4, hcz42_5⟩ := cl6 BK221.out
        obtain ⟨hfz42_0, hfz42_1, hfz42_2, hfz42_3, hfz42_4, hfz42_5⟩ := fr6 BK221.out
        obtain ⟨hcz43_0, hcz43_1, hcz43_2, hcz43_3, hcz43_4, hcz43_5⟩ := cl6 BK227.out
        obtain ⟨hfz43_0, hfz43_1, hfz43_2, hfz43_3, hfz43_4, hfz43_5⟩ := fr6 BK227.out
        try go_wp2_with (first | ((with_reducible refine gate_builtin (b := .append) (xs := #[.tmp 59, .tmp 61]) rfl ?_); (try (refine gate_guard (by rfl) ?_; dsimp only)); at_builtin; refine Kd.R_append k62 (w0 := w) w.heap.size rfl (.tmp 59) (.tmp 61) 65 62 (.agg #[(.int .i64 0), (.int .i64 0), (.int .i64 0), (.int .i64 0), (.bool false), (.string ⟨#[]⟩)]) 56 rfl Try.underlying65 info62 rfl (by decide) (by omega) u6 x6_2 (⟨a0_0, a0_1, a0_2, wrap64 (a0_3 + x7_2), decide ((ji16) < (a0_5.size : Int)), a0_5.extract (x7_2 : Int).toNat ((ji16) : Int).toNat⟩ : S62) [.int .i64 a0_0, .int .i64 a0_1, .int .i64 a0_2, .int .i64 (wrap64 (a0_3 + x7_2)), .bool (decide ((ji16) < (a0_5.size : Int))), .string (a0_5.extract (x7_2 : Int).toNat ((ji16) : Int).toNat)] (fun k_ => k_ ≠ gb221 ∧ k_ ≠ gb227) (fun _ => False) rfl B7x11_ ?aP (fun _ hk => hk.elim) ?aF ?aO ?aB ?aS ?aL ?_; (case aP => exact k62_mkM _ _ _ (⟨a0_0, a0_1, a0_2, wrap64 (a0_3 + x7_2), decide ((ji16) < (a0_5.size : Int)), a0_5.extract (x7_2 : Int).toNat ((ji16) : Int).toNat⟩ : S62)); (case aB => exact B7x5_); (case aF => exact (fun k_ hk => ⟨Kd.freshB (g := gb221) (o := .cells #[.int .i64 a0_0, .int .i64 a0_1, .int .i64 a0_2, .int .i64 a0_3, .bool false, .string a0_5] 62 (0, 0)) B7x3_ k_ hk, Kd.freshB (g := gb227) (o := .cells #[.int .i64 a0_0, .int .i64 a0_1, .int .i64 a0_2, .int .i64 (wrap64 (a0_3 + x7_2)), .bool (decide ((ji16) < (a0_5.size : Int))), .string (a0_5.extract (x7_2 : Int).toNat ((ji16) : Int).toNat)] 62 (0, 0)) B7x8_ k_ hk⟩)); (case aO => (with_reducible repeat (first | apply Kd.R_alloc | apply Kd.R_drewN | apply Kd.R_drew)); exact Kd.R_mono (Kd.R_far (p := ⟨gb227, 4, none⟩) (Kd.R_far (p := ⟨gb227, 5, none⟩) (Kd.R_far (p := ⟨gb227, 3, none⟩) (Kd.R_mono HO_6.out (fun k_ hk => (⟨hk, hk.2⟩ : _ ∧ k_ ≠ gb227))) (fun _ hk => hk.2) (.int .i64 (wrap64 (a0_3 + x7_2)))) (fun _ hk => hk.2) (.string (a0_5.extract (x7_2 : Int).toNat ((ji16) : Int).toNat))) (fun _ hk => hk.2) (.bool (decide ((ji16) < (a0_5.size : Int))))) (fun _ hk => ⟨hk.1.1, hk.1.2⟩)); (case aS => exact (below_size B7x5_)); (case aL => have := LMc33.out; omega); intro v232 w44 ho hb hg hat; rw [← Ny231.out] at ho; replace BK221 := Aside0.mk (blk_grown (g := gb221) (o := .cells #[.int .i64 a0_0, .int .i64 a0_1, .int .i64 a0_2, .int .i64 a0_3, .bool false, .string a0_5] 62 (0, 0)) B7x3_ hg (Kd.R_away HO_6.out (fun _ hk => hk.1))); replace BK227 := Aside0.mk (blk_grown (g := gb227) (o := .cells #[.int .i64 a0_0, .int .i64 a0_1, .int .i64 a0_2, .int .i64 (wrap64 (a0_3 + x7_2)), .bool (decide ((ji16) < (a0_5.size : Int))), .string (a0_5.extract (x7_2 : Int).toNat ((ji16) : Int).toNat)] 62 (0, 0)) B7x8_ hg (Kd.R_away HO_6.out (fun _ hk => hk.2))); replace HB := Aside0.mk (hb); have HO233 := Aside0.mk (ho); clear HO_6; clear ho hb hg hat))
        go_roundg k2
        case measure => have := HJ2.out; have := HK2.out; omega
        case rel => exact ⟨(y231), (wrap64 (x7_2 + (wrap64 ((wrap64 (Int.tdiv a1 8)) * 8)))), (be_), H', ⟨(by have := HJ2.out; have := HK2.out; omega)⟩, ⟨(by (with_reducible repeat (first | apply Kd.R_alloc | apply Kd.R_drewN | apply Kd.R_drew)); exact Kd.R_mono HO233.out (fun _ hk => hk.1))⟩, ⟨B7x2_⟩, ⟨B7x5_⟩⟩
      ·rw [if_neg c15] at H
       have c15b0 : decide (x7_2 < (a0_5.size : Int)) = false := decide_eq_false c15
       clear c15
       simp only [Option.some.injEq, Prod.mk.injEq] at H
       obtain ⟨rfl, rfl⟩ := H
       obtain ⟨hcz45_0, hcz45_1, hcz45_2, hcz45_3, hcz45_4, hcz45_5⟩ := cl6 BK221.out
       obtain ⟨hfz45_0, hfz45_1, hfz45_2, hfz45_3, hfz45_4, hfz45_5⟩ := fr6 BK221.out
       go_wp2
       go_ret2
       exact ⟨_, by first | rfl | (simp [errW_none, errW_some] <;> rfl) | (simp [*, errW_none, errW_some] <;> rfl), by (with_reducible repeat (first | apply Kd.R_alloc | apply Kd.R_drewN | apply Kd.R_drew)); exact Kd.R_mono HO_6.out (fun _ hk => trivial), by repeat (first | (with_reducible first | exact HB.out | apply below_alloc | apply pw_below_drewN | apply below_drew1 | refine below_set ?_ GE221.out) | exact HB.out)⟩

/-! ### impl_SegOk: function 123 -/
def impl_SegOk.f (a0_0 : Int) (a0_1 : Int) (a0_2 : Int) (a0_3 : ByteArray) : Option (Bool) := (impl_isWord.f a0_0).bind fun t235 => (if t235 = true then ((impl_isWord.f a0_1).bind fun t236 => (if t236 = true then ((impl_within.f a0_2 0 7).bind fun t237 => (if t237 = true then (if (a0_3.size : Int) > 8 then (some false) else (if a0_3.toList = ([] : List UInt8) then (if a0_1 = 0 then (some true) else (some ((Go.bits .and .i64 a0_2 2) != 0))) else (if (Go.bits .and .i64 a0_2 1) = 0 then (if a0_1 = 0 then (some true) else (some ((Go.bits .and .i64 a0_2 2) != 0))) else (some false)))) else (some false))) else (some false))) else (some false))
set_option maxHeartbeats 8000000 in
set_option maxRecDepth 100000 in
theorem impl_SegOk.calls (a0_0 : Int) (a0_1 : Int) (a0_2 : Int) (a0_3 : ByteArray) (r : Bool) (w : World) (h : impl_SegOk.f a0_0 a0_1 a0_2 a0_3 = some r) :
  Calls Try.prog 123 #[.agg #[.int .i64 a0_0, .int .i64 a0_1, .int .i64 a0_2, .string a0_3]] w fun e w' => e = .returned (.bool r) ∧ Below w.heap.size w w' := by
 have hu28 := Try.underlying28
 have HB := Aside0.mk (Below.refl w.heap.size w)
 have H : ((impl_isWord.f a0_0).bind fun t235 => (if t235 = true then ((impl_isWord.f a0_1).bind fun t236 => (if t236 = true then ((impl_within.f a0_2 0 7).bind fun t237 => (if t237 = true then (if (a0_3.size : Int) > 8 then (some false) else (if a0_3.toList = ([] : List UInt8) then (if a0_1 = 0 then (some true) else (some ((Go.bits .and .i64 a0_2 2) != 0))) else (if (Go.bits .and .i64 a0_2 1) = 0 then (if a0_1 = 0 then (some true) else (some ((Go.bits .and .i64 a0_2 2) != 0))) else (some false)))) else (some false))) else (some false))) else (some false))) = some r := h
 clear h
 replace H := Option.bind_eq_some_iff.mp H
 obtain ⟨t235, A20, H⟩ := H
 (try dsimp only at H)
 have A2 := Aside0.mk A20
 clear A20
 by_cases c3 : t235 = true
 ·subst c3
  rw [if_pos rfl] at H
  replace H := Option.bind_eq_some_iff.mp H
  obtain ⟨t236, A40, H⟩ := H
  (try dsimp only at H)
  have A4 := Aside0.mk A40
  clear A40
  by_cases c5 : t236 = true
  ·subst c5
   rw [if_pos rfl] at H
   replace H := Option.bind_eq_some_iff.mp H
   obtain ⟨t237, A60, H⟩ := H
   (try dsimp only at H)
   have A6 := Aside0.mk A60
   clear A60
   by_cases c7 : t237 = true
   ·subst c7
    rw [if_pos rfl] at H
    by_cases c8 : (a0_3.size : Int) > 8
    ·rw [if_pos c8] at H
     have c8b0 : decide (8 < (a0_3.size : Int)) = true := decide_eq_true c8
     have c8b1 : decide (8 < a0_3.size) = true := decide_eq_true (by omega)
     clear c8
     obtain rfl := Option.some.inj H
     go_enter Try.func123, Try.ntmps123
     go_wp2_with (first | ((with_reducible refine gate_dst (N := 1) rfl ?_); (try (refine gate_guard (by rfl) ?_; dsimp only)); refine box_event ?hg (N := 1) ?hd (cs := #[.int .i64 a0_0, .int .i64 a0_1, .int .i64 a0_2, .string a0_3]) (t := 28) ?hr ?_; (case hd => rfl); (case hg => rfl); (case hr => exact B7x11_); intro gb234 hg w9 hbox hb; have BK234 := Aside0.mk (hbox); have GW234 := Aside0.mk ((by rw [hg]; exact (below_size B7x0_) : w.heap.size ≤ gb234)); have GE234 := Aside0.mk ((by rw [hg]; exact (below_size B7x0_) : w.heap.size ≤ gb234)); replace HB := Aside0.mk (below_step B7x0_ hb); clear hb hbox hg; obtain ⟨hcz10_0, hcz10_1, hcz10_2, hcz10_3⟩ := cl4 BK234.out; obtain ⟨hfz10_0, hfz10_1, hfz10_2, hfz10_3⟩ := fr4 BK234.out) | ((with_reducible refine gate_callee (f := 97) rfl ?_); refine goesL_ (some 5) rfl rfl Try.func97 B7x12_ rfl #[.int .i64 a0_0] rfl B7x4_ ?_; (with_reducible refine (impl_isWord.calls a0_0 true _ A2.out).mono ?_); rintro e w' ⟨rfl, ⟨nd, rfl⟩⟩; refine ⟨_, rfl, ?_⟩) | (go_at_call 97; (with_reducible refine (impl_isWord.calls a0_1 true _ A4.out).mono ?_); rintro e w' ⟨rfl, ⟨nd, rfl⟩⟩) | (go_at_call 74; (with_reducible refine (impl_within.calls a0_2 0 7 true _ A6.out).mono ?_); rintro e w' ⟨rfl, ⟨nd, rfl⟩⟩))
     go_ret
     exact ⟨B7x10_, B7x6_⟩
    ·rw [if_neg c8] at H
     have c8b0 : decide (8 < (a0_3.size : Int)) = false := decide_eq_false c8
     have c8b1 : decide (8 < a0_3.size) = false := decide_eq_false (by omega)
     clear c8
     by_cases c11 : a0_3.toList = ([] : List UInt8)
     ·rw [if_pos c11] at H
      have c11b0 : (a0_3.toList == ([] : List UInt8)) = true := beq_iff_eq.mpr c11
      have c11b1 : (a0_3.toList != ([] : List UInt8)) = false := bne_eq_false_iff_eq.mpr c11
      clear c11
      by_cases c12 : a0_1 = 0
      ·rw [if_pos c12] at H
       have c12b0 : (a0_1 == 0) = true := beq_iff_eq.mpr c12
       have c12b1 : (a0_1 != 0) = false := bne_eq_false_iff_eq.mpr c12
       clear c12
       obtain rfl := Option.some.inj H
       go_enter Try.func123, Try.ntmps123
       go_wp2_with (first | ((with_reducible refine gate_dst (N := 1) rfl ?_); (try (refine gate_guard (by rfl) ?_; dsimp only)); refine box_event ?hg (N := 1) ?hd (cs := #[.int .i64 a0_0, .int .i64 a0_1, .int .i64 a0_2, .string a0_3]) (t := 28) ?hr ?_; (case hd => rfl); (case hg => rfl); (case hr => exact B7x11_); intro gb234 hg w13 hbox hb; have BK234 := Aside0.mk (hbox); have GW234 := Aside0.mk ((by rw [hg]; exact (below_size B7x0_) : w.heap.size ≤ gb234)); have GE234 := Aside0.mk ((by rw [hg]; exact (below_size B7x0_) : w.heap.size ≤ gb234)); replace HB := Aside0.mk (below_step B7x0_ hb); clear hb hbox hg; obtain ⟨hcz14_0, hcz14_1, hcz14_2, hcz14_3⟩ := cl4 BK234.out; obtain ⟨hfz14_0, hfz14_1, hfz14_2, hfz14_3⟩ := fr4 BK234.out) | ((with_reducible refine gate_callee (f := 97) rfl ?_); refine goesL_ (some 5) rfl rfl Try.func97 B7x12_ rfl #[.int .i64 a0_0] rfl B7x4_ ?_; (with_reducible refine (impl_isWord.calls a0_0 true _ A2.out).mono ?_); rintro e w' ⟨rfl, ⟨nd, rfl⟩⟩; refine ⟨_, rfl, ?_⟩) | (go_at_call 97; (with_reducible refine (impl_isWord.calls a0_1 true _ A4.out).mono ?_); rintro e w' ⟨rfl, ⟨nd, rfl⟩⟩) | (go_at_call 74; (with_reducible refine (impl_within.calls a0_2 0 7 true _ A6.out).mono ?_); rintro e w' ⟨rfl, ⟨nd, rfl⟩⟩))
       go_ret
       exact ⟨B7x10_, B7x6_⟩
      ·rw [if_neg c12] at H
       have c12b0 : (a0_1 == 0) = false := beq_eq_false_iff_ne.mpr c12
       have c12b1 : (a0_1 != 0) = true := bne_iff_ne.mpr c12
       obtain rfl := Option.some.inj H
       go_enter Try.func123, Try.ntmps123
       go_wp2_with (first | ((with_reducible refine gate_dst (N := 1) rfl ?_); (try (refine gate_guard (by rfl) ?_; dsimp only)); refine box_event ?hg (N := 1) ?hd (cs := #[.int .i64 a0_0, .int .i64 a0_1, .int .i64 a0_2, .string a0_3]) (t := 28) ?hr ?_; (case hd => rfl); (case hg => rfl); (case hr => exact B7x11_); intro gb234 hg w15 hbox hb; have BK234 := Aside0.mk (hbox); have GW234 := Aside0.mk ((by rw [hg]; exact (below_size B7x0_) : w.heap.size ≤ gb234)); have GE234 := Aside0.mk ((by rw [hg]; exact (below_size B7x0_) : w.heap.size ≤ gb234)); replace HB := Aside0.mk (below_step B7x0_ hb); clear hb hbox hg; obtain ⟨hcz16_0, hcz16_1, hcz16_2, hcz16_3⟩ := cl4 BK234.out; obtain ⟨hfz16_0, hfz16_1, hfz16_2, hfz16_3⟩ := fr4 BK234.out) | ((with_reducible refine gate_callee (f := 97) rfl ?_); refine goesL_ (some 5) rfl rfl Try.func97 B7x12_ rfl #[.int .i64 a0_0] rfl B7x4_ ?_; (with_reducible refine (impl_isWord.calls a0_0 true _ A2.out).mono ?_); rintro e w' ⟨rfl, ⟨nd, rfl⟩⟩; refine ⟨_, rfl, ?_⟩) | (go_at_call 97; (with_reducible refine (impl_isWord.calls a0_1 true _ A4.out).mono ?_); rintro e w' ⟨rfl, ⟨nd, rfl⟩⟩) | (go_at_call 74; (with_reducible refine (impl_within.calls a0_2 0 7 true _ A6.out).mono ?_); rintro e w' ⟨rfl, ⟨nd, rfl⟩⟩))
       go_ret
       exact ⟨B7x10_, B7x6_⟩
     ·rw [if_neg c11] at H
      have c11b0 : (a0_3.toList == ([] : List UInt8)) = false := beq_eq_false_iff_ne.mpr c11
      have c11b1 : (a0_3.toList != ([] : List UInt8)) = true := bne_iff_ne.mpr c11
      by_cases c17 : (Go.bits .and .i64 a0_2 1) = 0
      ·rw [if_pos c17] at H
       have c17b0 : ((Go.bits .and .i64 a0_2 1) == 0) = true := beq_iff_eq.mpr c17
       have c17b1 : ((Go.bits .and .i64 a0_2 1) != 0) = false := bne_eq_false_iff_eq.mpr c17
       clear c17
       by_cases c18 : a0_1 = 0
       ·rw [if_pos c18] at H
        have c18b0 : (a0_1 == 0) = true := beq_iff_eq.mpr c18
        have c18b1 : (a0_1 != 0) = false := bne_eq_false_iff_eq.mpr c18
        clear c18
        obtain rfl := Option.some.inj H
        go_enter Try.func123, Try.ntmps123
        go_wp2_with (first | ((with_reducible refine gate_dst (N := 1) rfl ?_); (try (refine gate_guard (by rfl) ?_; dsimp only)); refine box_event ?hg (N := 1) ?hd (cs := #[.int .i64 a0_0, .int .i64 a0_1, .int .i64 a0_2, .string a0_3]) (t := 28) ?hr ?_; (case hd => rfl); (case hg => rfl); (case hr => exact B7x11_); intro gb234 hg w19 hbox hb; have BK234 := Aside0.mk (hbox); have GW234 := Aside0.mk ((by rw [hg]; exact (below_size B7x0_) : w.heap.size ≤ gb234)); have GE234 := Aside0.mk ((by rw [hg]; exact (below_size B7x0_) : w.heap.size ≤ gb234)); replace HB := Aside0.mk (below_step B7x0_ hb); clear hb hbox hg; obtain ⟨hcz20_0, hcz20_1, hcz20_2, hcz20_3⟩ := cl4 BK234.out; obtain ⟨hfz20_0, hfz20_1, hfz20_2, hfz20_3⟩ := fr4 BK234.out) | ((with_reducible refine gate_callee (f := 97) rfl ?_); refine goesL_ (some 5) rfl rfl Try.func97 B7x12_ rfl #[.int .i64 a0_0] rfl B7x4_ ?_; (with_reducible refine (impl_isWord.calls a0_0 true _ A2.out).mono ?_); rintro e w' ⟨rfl, ⟨nd, rfl⟩⟩; refine ⟨_, rfl, ?_⟩) | (go_at_call 97; (with_reducible refine (impl_isWord.calls a0_1 true _ A4.out).mono ?_); rintro e w' ⟨rfl, ⟨nd, rfl⟩⟩) | (go_at_call 74; (with_reducible refine (impl_within.calls a0_2 0 7 true _ A6.out).mono ?_); rintro e w' ⟨rfl, ⟨nd, rfl⟩⟩))
        go_ret
        exact ⟨B7x10_, B7x6_⟩
       ·rw [if_neg c18] at H
        have c18b0 : (a0_1 == 0) = false := beq_eq_false_iff_ne.mpr c18
        have c18b1 : (a0_1 != 0) = true := bne_iff_ne.mpr c18
        obtain rfl := Option.some.inj H
        go_enter Try.func123, Try.ntmps123
        go_wp2_with (first | ((with_reducible refine gate_dst (N := 1) rfl ?_); (try (refine gate_guard (by rfl) ?_; dsimp only)); refine box_event ?hg (N := 1) ?hd (cs := #[.int .i64 a0_0, .int .i64 a0_1, .int .i64 a0_2, .string a0_3]) (t := 28) ?hr ?_; (case hd => rfl); (case hg => rfl); (case hr => exact B7x11_); intro gb234 hg w21 hbox hb; have BK234 := Aside0.mk (hbox); have GW234 := Aside0.mk ((by rw [hg]; exact (below_size B7x0_) : w.heap.size ≤ gb234)); have GE234 := Aside0.mk ((by rw [hg]; exact (below_size B7x0_) : w.heap.size ≤ gb234)); replace HB := Aside0.mk (below_step B7x0_ hb); clear hb hbox hg; obtain ⟨hcz22_0, hcz22_1, hcz22_2, hcz22_3⟩ := cl4 BK234.out; obtain ⟨hfz22_0, hfz22_1, hfz22_2, hfz22_3⟩ := fr4 BK234.out) | ((with_reducible refine gate_callee (f := 97) rfl ?_); refine goesL_ (some 5) rfl rfl Try.func97 B7x12_ rfl #[.int .i64 a0_0] rfl B7x4_ ?_; (with_reducible refine (impl_isWord.calls a0_0 true _ A2.out).mono ?_); rintro e w' ⟨rfl, ⟨nd, rfl⟩⟩; refine ⟨_, rfl, ?_⟩) | (go_at_call 97; (with_reducible refine (impl_isWord.calls a0_1 true _ A4.out).mono ?_); rintro e w' ⟨rfl, ⟨nd, rfl⟩⟩) | (go_at_call 74; (with_reducible refine (impl_within.calls a0_2 0 7 true _ A6.out).mono ?_); rintro e w' ⟨rfl, ⟨nd, rfl⟩⟩))
        go_ret
        exact ⟨B7x10_, B7x6_⟩
      ·rw [if_neg c17] at H
       have c17b0 : ((Go.bits .and .i64 a0_2 1) == 0) = false := beq_eq_false_iff_ne.mpr c17
       have c17b1 : ((Go.bits .and .i64 a0_2 1) != 0) = true := bne_iff_ne.mpr c17
       obtain rfl := Option.some.inj H
       go_enter Try.func123, Try.ntmps123
       go_wp2_with (first | ((with_reducible refine gate_dst (N := 1) rfl ?_); (try (refine gate_guard (by rfl) ?_; dsimp only)); refine box_event ?hg (N := 1) ?hd (cs := #[.int .i64 a0_0, .int .i64 a0_1, .int .i64 a0_2, .string a0_3]) (t := 28) ?hr ?_; (case hd => rfl); (case hg => rfl); (case hr => exact B7x11_); intro gb234 hg w23 hbox hb; have BK234 := Aside0.mk (hbox); have GW234 := Aside0.mk ((by rw [hg]; exact (below_size B7x0_) : w.heap.size ≤ gb234)); have GE234 := Aside0.mk ((by rw [hg]; exact (below_size B7x0_) : w.heap.size ≤ gb234)); replace HB := Aside0.mk (below_step B7x0_ hb); clear hb hbox hg; obtain ⟨hcz24_0, hcz24_1, hcz24_2, hcz24_3⟩ := cl4 BK234.out; obtain ⟨hfz24_0, hfz24_1, hfz24_2, hfz24_3⟩ := fr4 BK234.out) | ((with_reducible refine gate_callee (f := 97) rfl ?_); refine goesL_ (some 5) rfl rfl Try.func97 B7x12_ rfl #[.int .i64 a0_0] rfl B7x4_ ?_; (with_reducible refine (impl_isWord.calls a0_0 true _ A2.out).mono ?_); rintro e w' ⟨rfl, ⟨nd, rfl⟩⟩; refine ⟨_, rfl, ?_⟩) | (go_at_call 97; (with_reducible refine (impl_isWord.calls a0_1 true _ A4.out).mono ?_); rintro e w' ⟨rfl, ⟨nd, rfl⟩⟩) | (go_at_call 74; (with_reducible refine (impl_within.calls a0_2 0 7 true _ A6.out).mono ?_); rintro e w' ⟨rfl, ⟨nd, rfl⟩⟩))
       go_ret
       exact ⟨B7x10_, B7x6_⟩
   ·replace c7 := Bool.eq_false_iff.mpr c7
    subst c7
    rw [if_neg (show ¬ (false = true) by decide)] at H
    obtain rfl := Option.some.inj H
    go_enter Try.func123, Try.ntmps123
    go_wp2_with (first | ((with_reducible refine gate_dst (N := 1) rfl ?_); (try (refine gate_guard (by rfl) ?_; dsimp only)); refine box_event ?hg (N := 1) ?hd (cs := #[.int .i64 a0_0, .int .i64 a0_1, .int .i64 a0_2, .string a0_3]) (t := 28) ?hr ?_; (case hd => rfl); (case hg => rfl); (case hr => exact B7x11_); intro gb234 hg w25 hbox hb; have BK234 := Aside0.mk (hbox); have GW234 := Aside0.mk ((by rw [hg]; exact (below_size B7x0_) : w.heap.size ≤ gb234)); have GE234 := Aside0.mk ((by rw [hg]; exact (below_size B7x0_) : w.heap.size ≤ gb234)); replace HB := Aside0.mk (below_step B7x0_ hb); clear hb hbox hg; obtain ⟨hcz26_0, hcz26_1, hcz26_2, hcz26_3⟩ := cl4 BK234.out; obtain ⟨hfz26_0, hfz26_1, hfz26_2, hfz26_3⟩ := fr4 BK234.out) | ((with_reducible refine gate_callee (f := 97) rfl ?_); refine goesL_ (some 5) rfl rfl Try.func97 B7x12_ rfl #[.int .i64 a0_0] rfl B7x4_ ?_; (with_reducible refine (impl_isWord.calls a0_0 true _ A2.out).mono ?_); rintro e w' ⟨rfl, ⟨nd, rfl⟩⟩; refine ⟨_, rfl, ?_⟩) | (go_at_call 97; (with_reducible refine (impl_isWord.calls a0_1 true _ A4.out).mono ?_); rintro e w' ⟨rfl, ⟨nd, rfl⟩⟩) | (go_at_call 74; (with_reducible refine (impl_within.calls a0_2 0 7 false _ A6.out).mono ?_); rintro e w' ⟨rfl, ⟨nd, rfl⟩⟩))
    go_ret
    exact ⟨B7x10_, B7x6_⟩
  ·replace c5 := Bool.eq_false_iff.mpr c5
   subst c5
   rw [if_neg (show ¬ (false = true) by decide)] at H
   obtain rfl := Option.some.inj H
   go_enter Try.func123, Try.ntmps123
   go_wp2_with (first | ((with_reducible refine gate_dst (N := 1) rfl ?_); (try (refine gate_guard (by rfl) ?_; dsimp only)); refine box_event ?hg (N := 1) ?hd (cs := #[.int .i64 a0_0, .int .i64 a0_1, .int .i64 a0_2, .string a0_3]) (t := 28) ?hr ?_; (case hd => rfl); (case hg => rfl); (case hr => exact B7x11_); intro gb234 hg w27 hbox hb; have BK234 := Aside0.mk (hbox); have GW234 := Aside0.mk ((by rw [hg]; exact (below_size B7x0_) : w.heap.size ≤ gb234)); have GE234 := Aside0.mk ((by rw [hg]; exact (below_size B7x0_) : w.heap.size ≤ gb234)); replace HB := Aside0.mk (below_step B7x0_ hb); clear hb hbox hg; obtain ⟨hcz28_0, hcz28_1, hcz28_2, hcz28_3⟩ := cl4 BK234.out; obtain ⟨hfz28_0, hfz28_1, hfz28_2, hfz28_3⟩ := fr4 BK234.out) | ((with_reducible refine gate_callee (f := 97) rfl ?_); refine goesL_ (some 5) rfl rfl Try.func97 B7x12_ rfl #[.int .i64 a0_0] rfl B7x4_ ?_; (with_reducible refine (impl_isWord.calls a0_0 true _ A2.out).mono ?_); rintro e w' ⟨rfl, ⟨nd, rfl⟩⟩; refine ⟨_, rfl, ?_⟩) | (go_at_call 97; (with_reducible refine (impl_isWord.calls a0_1 false _ A4.out).mono ?_); rintro e w' ⟨rfl, ⟨nd, rfl⟩⟩))
   go_ret
   exact ⟨B7x10_, B7x6_⟩
 ·replace c3 := Bool.eq_false_iff.mpr c3
  subst c3
  rw [if_neg (show ¬ (false = true) by decide)] at H
  obtain rfl := Option.some.inj H
  go_enter Try.func123, Try.ntmps123
  go_wp2_with (first | ((with_reducible refine gate_dst (N := 1) rfl ?_); (try (refine gate_guard (by rfl) ?_; dsimp only)); refine box_event ?hg (N := 1) ?hd (cs := #[.int .i64 a0_0, .int .i64 a0_1, .int .i64 a0_2, .string a0_3]) (t := 28) ?hr ?_; (case hd => rfl); (case hg => rfl); (case hr => exact B7x11_); intro gb234 hg w29 hbox hb; have BK234 := Aside0.mk (hbox); have GW234 := Aside0.mk ((by rw [hg]; exact (below_size B7x0_) : w.heap.size ≤ gb234)); have GE234 := Aside0.mk ((by rw [hg]; exact (below_size B7x0_) : w.heap.size ≤ gb234)); replace HB := Aside0.mk (below_step B7x0_ hb); clear hb hbox hg; obtain ⟨hcz30_0, hcz30_1, hcz30_2, hcz30_3⟩ := cl4 BK234.out; obtain ⟨hfz30_0, hfz30_1, hfz30_2, hfz30_3⟩ := fr4 BK234.out) | ((with_reducible refine gate_callee (f := 97) rfl ?_); refine goesL_ (some 5) rfl rfl Try.func97 B7x12_ rfl #[.int .i64 a0_0] rfl B7x4_ ?_; (with_reducible refine (impl_isWord.calls a0_0 false _ A2.out).mono ?_); rintro e w' ⟨rfl, ⟨nd, rfl⟩⟩; refine ⟨_, rfl, ?_⟩))
  go_ret
  exact ⟨B7x10_, B7x6_⟩

end Go.Proofs.Ytmknnoeggkgkgaa.QFnExactWrap
