/- Functions that a law reaches, as functions of Lean, and the walks that show that the calls come to their answers: written by a program of this project out of the translation. No condition. -/
import Derived.Test.YtgffdijodnpolaaQFnPutsx0
import Derived.Test.YtgffdijodnpolaaQFnPutsx2
import Derived.Test.YtgffdijodnpolaaQFnPutsx13
import Derived.Test.YtgffdijodnpolaaVFnPutsShort4
import Derived.Test.YtgffdijodnpolaaVFnPutshort3
import Derived.Test.YtgffdijodnpolaaVFnPutsShort2
import Derived.Test.YtgffdijodnpolaaVFnPutsShort
namespace Go.Proofs.Ytgffdijodnpolaa.QFnPuts
open Go.RowKit Go.Proofs.YtgffdijodnpolaaW.PrintWords Go.Proofs.YtgffdijodnpolaaW.PrintLast Go.Proofs.YtgffdijodnpolaaW.PrintMore Go.Proofs.Ytgffdijodnpolaa.Short
attribute [local go_sem] max2_int min2_int max_two min_two max_three min_three max_four min_four   -- for this text's walks alone
set_option linter.unusedVariables false
set_option linter.unusedSimpArgs false

theorem B14x0_ {p : Prop} (h : p := by repeat (first | (with_reducible first | exact HB.out | apply below_alloc | apply pw_below_drewN | apply below_drew1 | refine below_set ?_ GE570.out | refine below_set ?_ GE571.out | refine below_set ?_ GE572.out | refine below_set ?_ GE592.out) | exact HB.out)) : p := h
theorem B14x1_ {p : Prop} (h : p := by repeat (first | (with_reducible first | exact HB.out | apply below_alloc | apply pw_below_drewN | apply below_drew1 | refine below_set ?_ GE570.out | refine below_set ?_ GE571.out | refine below_set ?_ GE572.out) | exact HB.out)) : p := h
theorem B14x2_ {p : Prop} (h : p := by (with_reducible repeat (first | refine blk_drewN ?_ _ | refine blk_drew ?_ | refine blk_alloc ?_ _)); exact BK571.out) : p := h
theorem B14x3_ {p : Prop} (h : p := by first | (simp only [putAll, Act.put, List.setIfInBounds_toArray, List.set_cons_zero, List.set_cons_succ]; done) | (simp only [putAll, Act.put, List.setIfInBounds_toArray, List.set_cons_zero, List.set_cons_succ]; rfl)) : p := h
theorem B14x4_ {p : Prop} (h : p := by (with_reducible repeat (first | refine blk_drewN ?_ _ | refine blk_drew ?_ | refine blk_alloc ?_ _)); exact BK570.out) : p := h
theorem B14x5_ {p : Prop} (h : p := by (with_reducible repeat (first | refine blk_drewN ?_ _ | refine blk_drew ?_ | refine blk_alloc ?_ _)); exact BK572.out) : p := h
theorem B14x6_ {p : Prop} (h : p := by (with_reducible repeat (first | refine blk_drewN ?_ _ | refine blk_drew ?_ | refine blk_alloc ?_ _)); exact BK592.out) : p := h
theorem B14x7_ {p : Prop} (h : p := by (with_reducible repeat (first | apply Kd.R_alloc | apply Kd.R_drewN | apply Kd.R_drew)); exact HO588.out) : p := h
theorem B14x8_ {p : Prop} (h : p := by (with_reducible repeat (first | apply Kd.R_alloc | apply Kd.R_drewN | apply Kd.R_drew)); exact HO585.out) : p := h
theorem B14x9_ {p : Prop} (h : p := by (with_reducible repeat (first | apply Kd.R_alloc | apply Kd.R_drewN | apply Kd.R_drew)); exact Kd.R_mono HO588.out (fun _ hk => ⟨hk.2, hk.1⟩)) : p := h
theorem B14x10_ {p : Prop} (h : p := by (with_reducible repeat (first | apply Kd.R_alloc | apply Kd.R_drewN | apply Kd.R_drew)); exact (Kd.R_mono (Kd.R_far (p := ⟨gb592, 2, none⟩) (Kd.R_far (p := ⟨gb592, 1, none⟩) (Kd.R_far (p := ⟨gb592, 0, none⟩) (Kd.R_types HO591.out BK592.out (by decide)) (fun _ hk => hk.2) (.int .i64 a0_0)) (fun _ hk => hk.2) (.int .i64 a0_1)) (fun _ hk => hk.2) (.slice Ao40 y589.length co40)) (fun _ h_ => h_.1))) : p := h
theorem B14x11_ {p : Prop} (h : p := by (with_reducible repeat (first | apply Kd.R_alloc | apply Kd.R_drewN | apply Kd.R_drew)); exact HO578.out) : p := h
theorem B14x12_ {p : Prop} (h : p := by exact (Reps.c3 (show Kd.M k28 _ _ _ (⟨a2_0, a2_1, a2_2⟩ : S28) [.int .i64 a2_0, .int .i64 a2_1, .string a2_2] from (k28_mkM _ _ _ (⟨a2_0, a2_1, a2_2⟩ : S28) )) (Reps.none _ _))) : p := h
theorem B14x13_ {p : Prop} (h : p := by first | (go_simp; done) | (go_simp; rfl)) : p := h
theorem B14x14_ {p : Prop} (h : p := by (try simp only [List.map_toArray, List.map_cons, List.map_nil]); first | done | rfl | (simp only [List.length_drop, List.length_take]; rfl)) : p := h
theorem B14x15_ {p : Prop} (h : p := by (repeat (with_reducible (first | exact BK572.out | apply blk_drewN | apply blk_drew | apply blk_alloc | apply blk_put))); repeat (first | exact BK572.out | (simp only [List.setIfInBounds_toArray, List.set_cons_zero, List.set_cons_succ]; with_reducible rfl) | rfl)) : p := h
theorem B14x16_ {p : Prop} (h : p := by repeat (first | exact (Kd.C_below HR582.out HB.out) | (with_reducible refine Kd.C_alloc ?_ _) | (with_reducible refine Kd.C_drewN ?_ _) | (with_reducible refine Kd.C_drew ?_))) : p := h
theorem B14x17_ {p : Prop} (h : p := by exact (fun k_ hk => ⟨Kd.fresh' (Kd.R_lt B14x7_) k_ hk, Kd.freshB (g := gb571) (o := .cells #[.int .i64 a2_0, .int .i64 a2_1, .string a2_2] 28 (0, 0)) B14x2_ k_ hk⟩)) : p := h
theorem B14x18_ {p : Prop} (h : p := by (with_reducible repeat (first | apply Kd.R_alloc | apply Kd.R_drewN | apply Kd.R_drew)); exact Kd.R_mono HO588.out (fun _ hk => ⟨hk.1.2, hk.2⟩)) : p := h
theorem B14x19_ {p : Prop} (h : p := by (with_reducible repeat (first | apply Kd.R_alloc | apply Kd.R_drewN | apply Kd.R_drew)); exact (Kd.R_mono (Kd.R_far (p := ⟨gb592, 2, none⟩) (Kd.R_far (p := ⟨gb592, 1, none⟩) (Kd.R_far (p := ⟨gb592, 0, none⟩) (Kd.R_types HO588.out BK592.out (by decide)) (fun _ hk => hk.2) (.int .i64 a0_0)) (fun _ hk => hk.2) (.int .i64 a0_1)) (fun _ hk => hk.2) (.slice Ao40 y589.length co40)) (fun _ h_ => h_.1))) : p := h
theorem B14x20_ {p : Prop} (h : p := by kernel_rfl) : p := h
theorem B14x21_ {p : Prop} (h : p := by repeat (first | exact (Kd.C_below HR0_2.out HB.out) | (with_reducible refine Kd.C_alloc ?_ _) | (with_reducible refine Kd.C_drewN ?_ _) | (with_reducible refine Kd.C_drew ?_))) : p := h
theorem B14x22_ {p : Prop} (h : p := by (with_reducible repeat (first | apply Kd.R_alloc | apply Kd.R_drewN | apply Kd.R_drew)); exact HO591.out) : p := h
theorem B14x23_ {p : Prop} (h : p := by (repeat (with_reducible (first | exact BK570.out | apply blk_drewN | apply blk_drew | apply blk_alloc | apply blk_put | apply bf NB570_592.out))); repeat (first | exact BK570.out | (simp only [List.setIfInBounds_toArray, List.set_cons_zero, List.set_cons_succ]; with_reducible rfl) | rfl)) : p := h
theorem B14x24_ {p : Prop} (h : p := by (repeat (with_reducible (first | exact BK571.out | apply blk_drewN | apply blk_drew | apply blk_alloc | apply blk_put | apply bf NB571_592.out))); repeat (first | exact BK571.out | (simp only [List.setIfInBounds_toArray, List.set_cons_zero, List.set_cons_succ]; with_reducible rfl) | rfl)) : p := h
theorem B14x25_ {p : Prop} (h : p := by (repeat (with_reducible (first | exact BK572.out | apply blk_drewN | apply blk_drew | apply blk_alloc | apply blk_put | apply bf NB572_592.out))); repeat (first | exact BK572.out | (simp only [List.setIfInBounds_toArray, List.set_cons_zero, List.set_cons_succ]; with_reducible rfl) | rfl)) : p := h
theorem B14x26_ {p : Prop} (h : p := by (repeat (with_reducible (first | exact BK592.out | apply blk_drewN | apply blk_drew | apply blk_alloc | apply blk_put))); repeat (first | exact BK592.out | (simp only [List.setIfInBounds_toArray, List.set_cons_zero, List.set_cons_succ]; with_reducible rfl) | rfl)) : p := h
theorem B14x27_ {p : Prop} (h : p := by refine (Kd.R_reads' (e := 28) (base := w.heap.size) (ok := fun k_ => (some k_ ≠ (v587 : Value).ownBlock ∧ k_ ≠ gb571)) (n := y589.length) (c := co40) ?_).2.2; exact B14x10_) : p := h
theorem B14x28_ {p : Prop} (h : p := by repeat (first | exact (Kd.R_reads' HO588.out).2.2 | (with_reducible refine Kd.C_alloc ?_ _) | (with_reducible refine Kd.C_drewN ?_ _) | (with_reducible refine Kd.C_drew ?_))) : p := h
theorem B14x29_ {p : Prop} (h : p := by (with_reducible repeat (first | apply Kd.R_alloc | apply Kd.R_drewN | apply Kd.R_drew)); exact Kd.R_mono HO578.out (fun _ hk => ⟨hk.1.2, hk.2⟩)) : p := h
theorem B14x30_ {p : Prop} (h : p := by (with_reducible repeat (first | apply Kd.R_alloc | apply Kd.R_drewN | apply Kd.R_drew)); exact Kd.R_mono HO578.out (fun _ hk => ⟨hk.2, hk.1⟩)) : p := h
theorem B14x31_ {p : Prop} (h : p := by (with_reducible repeat (first | apply Kd.R_alloc | apply Kd.R_drewN | apply Kd.R_drew)); exact Kd.R_mono HO585.out (fun _ hk => ⟨hk.2, hk.1⟩)) : p := h
theorem B14x32_ {p : Prop} (h : p := by (with_reducible repeat (first | apply Kd.R_alloc | apply Kd.R_drewN | apply Kd.R_drew)); exact Kd.R_mono HO578.out (fun _ hk => hk.2)) : p := h
theorem B14x33_ {p : Prop} (h : p := by (with_reducible repeat (first | apply Kd.R_alloc | apply Kd.R_drewN | apply Kd.R_drew)); exact Kd.R_mono HO588.out (fun _ hk => hk.2)) : p := h
theorem B14x34_ {p : Prop} (h : p := by exact (fun k_ hk => Kd.freshB (g := gb571) (o := .cells #[.int .i64 a2_0, .int .i64 a2_1, .string a2_2] 28 (0, 0)) B14x2_ k_ hk)) : p := h
theorem B14x35_ {p : Prop} (h : p := by exact (below_size B14x0_)) : p := h
theorem B14x36_ {p : Prop} (h : p := by exact (below_size B14x1_)) : p := h
theorem B14x37_ {p : Prop} (h : p := by first | (with_reducible assumption) | assumption) : p := h
/-! ### spec_LogPut: function 10 -/
def spec_LogPut.j0 : Nat → Int → Bool → Int → Int → List (S28) → Int → Int → ByteArray → Option (Int × Int × (List (S28)) × Bool)
 | 0, _, _, _, _, _, _, _, _ => none
 | k + 1, x1, x22, x571000, x571001, x571002, x572000, x572001, x572002 => if x22 = true then (some (0, 0, ([] : List (S28)), false)) else ((some (([] : List (S28)) : List (S28))).bind fun y576 => (if 0 ≤ (wrap64 ((wrap64 (x1 - x571000)) - 1)) then (if (wrap64 ((wrap64 (x1 - x571000)) - 1)) ≤ (x571002.length : Int) then ((some (x571002.take ((wrap64 ((wrap64 (x1 - x571000)) - 1)) : Int).toNat : List (S28))).bind fun y579 => (if y576.length + y579.length < 4398046511104 then ((some (y576 ++ y579 : List (S28))).bind fun y583 => ((some (([(⟨x572000, x572001, x572002⟩ : S28)] : List (S28)) : List (S28))).bind fun y586 => (if y583.length + y586.length < 4398046511104 then ((some (y583 ++ y586 : List (S28))).bind fun y589 => ((spec_LogOk.f k x571000 x571001 y589).bind fun t593 => (if t593 = true then (some (x571000, x571001, y589, true)) else (some (0, 0, ([] : List (S28)), false))))) else (none)))) else (none))) else (none)) else (none)))
def spec_LogPut.f (k : Nat) (a0_0 : Int) (a0_1 : Int) (l0_2 : List (S28)) (a1 : Int) (a2_0 : Int) (a2_1 : Int) (a2_2 : ByteArray) : Option (Int × Int × (List (S28)) × Bool) := (spec_LogOk.f k a0_0 a0_1 l0_2).bind fun t573 => (if t573 = true then ((spec_l06Last.f a0_0 a0_1 l0_2).bind fun t574 => ((spec_l01In.f a1 (wrap64 (a0_0 + 1)) (wrap64 (t574 + 1))).bind fun t575 => (spec_LogPut.j0 k a1 (!t575) a0_0 a0_1 l0_2 a2_0 a2_1 a2_2))) else (spec_LogPut.j0 k a1 true a0_0 a0_1 l0_2 a2_0 a2_1 a2_2))
theorem spec_LogPut.mono_l : ∀ k, (∀ y0 y1 y2 y3 y4 y5 y6 y7, LeO (spec_LogPut.j0 k y0 y1 y2 y3 y4 y5 y6 y7) (spec_LogPut.j0 (k + 1) y0 y1 y2 y3 y4 y5 y6 y7))
 | 0 => fun _ _ _ _ _ _ _ _ r h => by simp [spec_LogPut.j0] at h
 | k + 1 => by
  have ih0 := spec_LogPut.mono_l k
  ·intro y0 y1 y2 y3 y4 y5 y6 y7
   unfold spec_LogPut.j0
   repeat' first
   | (with_reducible exact ih0 _ _ _ _ _ _ _ _)
   | (with_reducible exact spec_LogOk.mono _ _ _ _)
   | (with_reducible first | exact LeO.refl _ | exact LeO.none _ | refine LeO.ite ?_ ?_ | refine LeO.bind ?_ (fun _ => ?_))
   | exact ih0 _ _ _ _ _ _ _ _
   | exact spec_LogOk.mono _ _ _ _
theorem spec_LogPut.mono : ∀ a0 a1 a2 a3 a4 a5 a6 k, LeO (spec_LogPut.f k a0 a1 a2 a3 a4 a5 a6) (spec_LogPut.f (k + 1) a0 a1 a2 a3 a4 a5 a6) := by
 intro a0 a1 a2 a3 a4 a5 a6 k
 have ih0 := spec_LogPut.mono_l k
 unfold spec_LogPut.f
 repeat' first
   | (with_reducible exact ih0 _ _ _ _ _ _ _ _)
   | (with_reducible exact spec_LogOk.mono _ _ _ _)
   | (with_reducible first | exact LeO.refl _ | exact LeO.none _ | refine LeO.ite ?_ ?_ | refine LeO.bind ?_ (fun _ => ?_))
   | exact ih0 _ _ _ _ _ _ _ _
   | exact spec_LogOk.mono _ _ _ _
def spec_LogPut.T1 : Bool × List (List Nat × List Nat) := (true, [([], []), ([0], [0]), ([1], [1]), ([2, 1], [2]), ([3], [3]), ([3], [3]), ([5, 3], [3, 5]), ([6, 3], [3, 6]), ([3], [3]), ([8, 3, 3], [3, 8]), ([9, 3], [3, 9]), ([4, 7, 10, 9, 3], [3, 4, 7, 10]), ([11, 3], [3, 11]), ([3, 12], [3, 12])])
def spec_LogPut.B1 : List Nat := [0, 1, 3, 7, 15, 15, 47, 111, 15, 271, 783, 2047, 4095, 8191]
theorem spec_LogPut.tab1 : rtab .any (opsOf Try.f10 1) = spec_LogPut.T1 := by kernel_rfl
theorem spec_LogPut.bits1 : waitsOk spec_LogPut.T1.2 spec_LogPut.B1 = true := by kernel_rfl
def spec_LogPut.T3 : Bool × List (List Nat × List Nat) := (true, [([], []), ([0], [0]), ([], []), ([2], [2]), ([], []), ([], []), ([5], [5]), ([], []), ([], []), ([8], [8]), ([7, 9], [7, 9]), ([10], [10]), ([6, 11], [6, 11]), ([4, 12], [4, 12]), ([], []), ([14], [14]), ([13, 15, 13], [13, 15]), ([1, 3, 16], [1, 3, 16]), ([], []), ([18, 17, 16, 0, 1, 2, 3, 4, 5, 6, 7, 8, 9, 10, 11, 12, 13, 14, 15, 16, 17, 18], [17, 18])])
def spec_LogPut.B3 : List Nat := [0, 1, 0, 4, 0, 0, 32, 0, 0, 256, 896, 1920, 4064, 8176, 0, 16384, 65520, 131071, 0, 524287]
theorem spec_LogPut.tab3 : rtab .any (opsOf Try.f10 3) = spec_LogPut.T3 := by kernel_rfl
theorem spec_LogPut.bits3 : waitsOk spec_LogPut.T3.2 spec_LogPut.B3 = true := by kernel_rfl
set_option maxHeartbeats 8000000 in
set_option maxRecDepth 100000 in
theorem spec_LogPut.calls (k : Nat) (a0_0 : Int) (a0_1 : Int) (A0_2 : Option Addr) (c0_2 : Nat) (l0_2 : List (S28)) (a1 : Int) (a2_0 : Int) (a2_1 : Int) (a2_2 : ByteArray) (r1 : Int) (r2 : Int) (r3 : List (S28)) (r4 : Bool) (w : World) (hr0_2 : Kd.C k28 w A0_2 l0_2.length l0_2) (hc0_2 : l0_2.length ≤ c0_2) (h : spec_LogPut.f k a0_0 a0_1 l0_2 a1 a2_0 a2_1 a2_2 = some (r1, r2, r3, r4)) :
  Calls Try.prog 10 #[.agg #[.int .i64 a0_0, .int .i64 a0_1, .slice A0_2 l0_2.length c0_2], .int .i64 a1, .agg #[.int .i64 a2_0, .int .i64 a2_1, .string a2_2]] w fun e w' => ∃ v2_ : Value, e = .returned (.tuple #[.agg #[.int .i64 r1, .int .i64 r2, v2_], .bool r4]) ∧ Kd.R k28 28 w' w.heap.size (fun _ => True) v2_ r3 ∧ Below w.heap.size w w' := by
 have hu26 := Try.underlying26
 have hu28 := Try.underlying28
 have HR0_2 := Aside0.mk hr0_2
 have HC0_2 := Aside0.mk hc0_2
 clear hr0_2 hc0_2
 have HB := Aside0.mk (Below.refl w.heap.size w)
 have H : ((spec_LogOk.f k a0_0 a0_1 l0_2).bind fun t573 => (if t573 = true then ((spec_l06Last.f a0_0 a0_1 l0_2).bind fun t574 => ((spec_l01In.f a1 (wrap64 (a0_0 + 1)) (wrap64 (t574 + 1))).bind fun t575 => (spec_LogPut.j0 k a1 (!t575) a0_0 a0_1 l0_2 a2_0 a2_1 a2_2))) else (spec_LogPut.j0 k a1 true a0_0 a0_1 l0_2 a2_0 a2_1 a2_2))) = some (r1, r2, r3, r4) := h
 clear h
 have HC4 := Aside0.mk H
 clear H
 go_enter Try.func10, Try.ntmps10
 go_upto_region 1 with (first | ((with_reducible refine gate_dst (N := 3) rfl ?_); refine box_event ?hg (N := 3) ?hd (cs := #[.int .i64 a0_0, .int .i64 a0_1, .slice A0_2 l0_2.length c0_2]) (t := 26) ?hr ?_; (case hd => rfl); (case hg => rfl); (case hr => exact B14x13_); intro gb570 hg w5 hbox hb; have BK570 := Aside0.mk (hbox); have GW570 := Aside0.mk ((bs hg (below_size HB.out))); have GE570 := Aside0.mk ((bs hg (below_size HB.out))); replace HB := Aside0.mk (below_step (by repeat (first | (with_reducible first | exact HB.out | apply below_alloc | apply pw_below_drewN | apply below_drew1) | exact HB.out)) hb); clear hb hbox hg) | ((with_reducible refine gate_dst (N := 5) rfl ?_); refine box_event ?hg (N := 5) ?hd (cs := #[.int .i64 a2_0, .int .i64 a2_1, .string a2_2]) (t := 28) ?hr ?_; (case hd => rfl); (case hg => rfl); (case hr => exact B14x13_); intro gb571 hg w6 hbox hb; have BK571 := Aside0.mk (hbox); have GW571 := Aside0.mk ((bs hg (below_size HB.out))); have GE571 := Aside0.mk ((bs hg (below_size HB.out))); replace HB := Aside0.mk (below_step (by repeat (first | (with_reducible first | exact HB.out | apply below_alloc | apply pw_below_drewN | apply below_drew1 | refine below_set ?_ GE570.out) | exact HB.out)) hb); have NB570_571 := Aside0.mk ((nl hg (blk_lt BK570.out))); have NB571_570 := Aside0.mk ((ng hg (blk_lt BK570.out))); replace BK570 := Aside0.mk (bb BK570.out hb); clear hb hbox hg) | ((with_reducible refine gate_dst (N := 6) rfl ?_); refine box_event ?hg (N := 6) ?hd (cs := #[.int .i64 0, .int .i64 0, .slice none 0 0]) (t := 26) ?hr ?_; (case hd => rfl); (case hg => rfl); (case hr => exact B14x13_); intro gb572 hg w7 hbox hb; have BK572 := Aside0.mk (hbox); have GW572 := Aside0.mk ((bs hg (below_size HB.out))); have GE572 := Aside0.mk ((bs hg (below_size HB.out))); replace HB := Aside0.mk (below_step (by repeat (first | (with_reducible first | exact HB.out | apply below_alloc | apply pw_below_drewN | apply below_drew1 | refine below_set ?_ GE570.out | refine below_set ?_ GE571.out) | exact HB.out)) hb); have NB570_572 := Aside0.mk ((nl hg (blk_lt BK570.out))); have NB572_570 := Aside0.mk ((ng hg (blk_lt BK570.out))); replace BK570 := Aside0.mk (bb BK570.out hb); have NB571_572 := Aside0.mk ((nl hg (blk_lt BK571.out))); have NB572_571 := Aside0.mk ((ng hg (blk_lt BK571.out))); replace BK571 := Aside0.mk (bb BK571.out hb); clear hb hbox hg))
 (try simp only [Act.put, List.setIfInBounds_toArray, List.set_cons_zero, List.set_cons_succ])
 go_cut [22] (fun v22 wc => ∃ (kq : Nat) (x22_3 : Bool), v22 = .bool x22_3 ∧ Aside0 (spec_LogPut.j0 kq a1 x22_3 a0_0 a0_1 l0_2 a2_0 a2_1 a2_2 = some (r1, r2, r3, r4)) ∧ Aside0 (kq ≤ k) ∧ Aside0 (wc.heap[gb570]? = some (.cells #[.int .i64 a0_0, .int .i64 a0_1, (.slice A0_2 l0_2.length c0_2)] 26 (0, 0))) ∧ Aside0 (wc.heap[gb571]? = some (.cells #[.int .i64 a2_0, .int .i64 a2_1, .string a2_2] 28 (0, 0))) ∧ Aside0 (wc.heap[gb572]? = some (.cells #[.int .i64 0, .int .i64 0, (.slice none 0 0)] 26 (0, 0))) ∧ Aside0 (Below w.heap.size w wc))
 case first =>
  have H := HC4.out
  clear HC4
  replace H := bsi H
  obtain ⟨t573, A8, H⟩ := H
  (try dsimp only at H)
  by_cases c9 : t573 = true
  ·subst c9
   rw [if_pos rfl] at H
   replace H := bsi H
   obtain ⟨t574, A10, H⟩ := H
   (try dsimp only at H)
   replace H := bsi H
   obtain ⟨t575, A11, H⟩ := H
   (try dsimp only at H)
   have H' := Aside0.mk H
   clear H
   try go_wp2
   replace BK570 := Aside0.mk (blk_drew BK570.out)
   replace BK571 := Aside0.mk (blk_drew BK571.out)
   replace BK572 := Aside0.mk (blk_drew BK572.out)
   replace HB := Aside0.mk (below_drew1 HB.out)
   refine start_ (n := 14) (S := fun w' => w'.cell? ⟨gb570, 0, none⟩ = some (.int .i64 a0_0) ∧ w'.cell? ⟨gb570, 1, none⟩ = some (.int .i64 a0_1) ∧ w'.cell? ⟨gb570, 2, none⟩ = some (.slice A0_2 l0_2.length c0_2)) (ds := []) #[false, false, false, false, false, false, false, false, false, false, false, false, false, false] B14x20_ rfl rfl ⟨(blk_cell BK570.out 0).trans rfl, (blk_cell BK570.out 1).trans rfl, (blk_cell BK570.out 2).trans rfl⟩ (fun hHeld => ?_); refine with_tabW spec_LogPut.tab1 spec_LogPut.bits1 (fun HT_ HW_ => ?_)
   generalize w7.drew = w12 at BK570 BK571 BK572 HB hHeld ⊢
   refine ta_ 0 9 HT_ HW_ hHeld ?_
   refine one_ (i := 1) (N := some 10) #[true, true, false, false, false, false, false, false, false, false, false, false, false, false] rfl rfl (one_of HT_.out B14x20_) (by decide) (fun K hK => ?_)
   refine goes_ Try.func12 B14x20_ rfl #[.agg #[.int .i64 a0_0, .int .i64 a0_1, .slice A0_2 l0_2.length c0_2]] (by rfl) rfl rfl B14x14_ ?_
   with_reducible refine (spec_LogOk.calls k a0_0 a0_1 _ _ l0_2 true _ ?side1 ?side2 A8.out).mono ?_
   (case side1 => exact B14x21_)
   (case side2 => exact HC0_2.out)
   rintro e w13 ⟨rfl, hb⟩
   refine ⟨_, rfl, ?_⟩
   replace BK570 := Aside0.mk (bb BK570.out hb)
   replace BK571 := Aside0.mk (bb BK571.out hb)
   replace BK572 := Aside0.mk (bb BK572.out hb)
   replace HB := Aside0.mk (below_step B14x1_ hb)
   (try clear hb)
   (try clear hb2)
   (try clear hk)
   (try clear hi)
   refine hK.out _ _ ⟨(blk_cell BK570.out 0).trans rfl, (blk_cell BK570.out 1).trans rfl, (blk_cell BK570.out 2).trans rfl⟩ (fun hHeld => ?_)
   clear hK K
   refine norm_ (a' := ?_) ?_ ?_
   rotate_left
   ·show Act.put _ (some 10) _ = _
    simp only [Act.put, List.setIfInBounds_toArray, List.set_cons_zero, List.set_cons_succ, i64_w, i32_w]
    rfl
   refine pu_ 2 11 HT_ ?_
   refine pu_ 3 12 HT_ ?_
   refine pu_ 4 13 HT_ ?_
   refine pu_ 5 14 HT_ ?_
   refine ta_ 6 15 HT_ HW_ hHeld ?_
   refine pu_ 7 16 HT_ ?_
   refine ta_ 8 17 HT_ HW_ hHeld ?_
   refine one_ (i := 9) (N := some 18) #[true, true, true, true, true, true, true, true, true, true, false, false, false, false] rfl rfl (one_of HT_.out B14x20_) (by decide) (fun K hK => ?_)
   refine goes_ Try.func48 B14x20_ rfl #[.agg #[.int .i64 a0_0, .int .i64 a0_1, .slice A0_2 l0_2.length c0_2]] (by rfl) rfl rfl B14x14_ ?_
   with_reducible refine (spec_l06Last.calls a0_0 a0_1 _ _ l0_2 t574 _ ?side1 ?side2 A10.out).mono ?_
   (case side1 => exact B14x21_)
   (case side2 => exact HC0_2.out)
   rintro e w14 ⟨rfl, hb⟩
   refine ⟨_, rfl, ?_⟩
   replace BK570 := Aside0.mk (bb BK570.out hb)
   replace BK571 := Aside0.mk (bb BK571.out hb)
   replace BK572 := Aside0.mk (bb BK572.out hb)
   replace HB := Aside0.mk (below_step B14x1_ hb)
   (try clear hb)
   (try clear hb2)
   (try clear hk)
   (try clear hi)
   refine hK.out _ _ ⟨(blk_cell BK570.out 0).trans rfl, (blk_cell BK570.out 1).trans rfl, (blk_cell BK570.out 2).trans rfl⟩ (fun hHeld => ?_)
   clear hK K
   refine norm_ (a' := ?_) ?_ ?_
   rotate_left
   ·show Act.put _ (some 18) _ = _
    simp only [Act.put, List.setIfInBounds_toArray, List.set_cons_zero, List.set_cons_succ, i64_w, i32_w]
    rfl
   refine pu_ 10 19 HT_ ?_
   refine one_ (i := 11) (N := some 20) #[true, true, true, true, true, true, true, true, true, true, true, true, false, false] rfl rfl (one_of HT_.out B14x20_) (by decide) (fun K hK => ?_)
   refine goes_ Try.func47 B14x20_ rfl #[.int .i64 a1, .int .i64 (wrap64 (a0_0 + 1)), .int .i64 (wrap64 (t574 + 1))] (by rfl) rfl rfl B14x14_ ?_
   with_reducible refine (spec_l01In.calls a1 (wrap64 (a0_0 + 1)) (wrap64 (t574 + 1)) t575 _ A11.out).mono ?_
   rintro e w' ⟨rfl, ⟨nd, rfl⟩⟩
   refine ⟨_, rfl, ?_⟩
   refine hK.out _ _ ⟨(blk_cell BK570.out 0).trans rfl, (blk_cell BK570.out 1).trans rfl, (blk_cell BK570.out 2).trans rfl⟩ (fun hHeld => ?_)
   clear hK K
   refine norm_ (a' := ?_) ?_ ?_
   rotate_left
   ·show Act.put _ (some 20) _ = _
    simp only [Act.put, List.setIfInBounds_toArray, List.set_cons_zero, List.set_cons_succ, i64_w, i32_w]
    rfl
   refine pu_ 12 21 HT_ ?_
   refine pu_ 13 22 HT_ ?_
   refine done_ (done_of HT_.out B14x20_) ?_
   try go_wp2
   go_meet
   case rel => exact ⟨_, (!t575), (be_), H', ⟨(by first | omega | exact Nat.le_refl _)⟩, ⟨B14x4_⟩, ⟨B14x2_⟩, ⟨B14x5_⟩, ⟨B14x1_⟩⟩
  ·replace c9 := Bool.eq_false_iff.mpr c9
   subst c9
   rw [if_neg (show ¬ (false = true) by decide)] at H
   have H' := Aside0.mk H
   clear H
   try go_wp2
   replace BK570 := Aside0.mk (blk_drew BK570.out)
   replace BK571 := Aside0.mk (blk_drew BK571.out)
   replace BK572 := Aside0.mk (blk_drew BK572.out)
   replace HB := Aside0.mk (below_drew1 HB.out)
   refine start_ (n := 14) (S := fun w' => w'.cell? ⟨gb570, 0, none⟩ = some (.int .i64 a0_0) ∧ w'.cell? ⟨gb570, 1, none⟩ = some (.int .i64 a0_1) ∧ w'.cell? ⟨gb570, 2, none⟩ = some (.slice A0_2 l0_2.length c0_2)) (ds := []) #[false, false, false, false, false, false, false, false, false, false, false, false, false, false] B14x20_ rfl rfl ⟨(blk_cell BK570.out 0).trans rfl, (blk_cell BK570.out 1).trans rfl, (blk_cell BK570.out 2).trans rfl⟩ (fun hHeld => ?_); refine with_tabW spec_LogPut.tab1 spec_LogPut.bits1 (fun HT_ HW_ => ?_)
   generalize w7.drew = w15 at BK570 BK571 BK572 HB hHeld ⊢
   refine ta_ 0 9 HT_ HW_ hHeld ?_
   refine one_ (i := 1) (N := some 10) #[true, true, false, false, false, false, false, false, false, false, false, false, false, false] rfl rfl (one_of HT_.out B14x20_) (by decide) (fun K hK => ?_)
   refine goes_ Try.func12 B14x20_ rfl #[.agg #[.int .i64 a0_0, .int .i64 a0_1, .slice A0_2 l0_2.length c0_2]] (by rfl) rfl rfl B14x14_ ?_
   with_reducible refine (spec_LogOk.calls k a0_0 a0_1 _ _ l0_2 false _ ?side1 ?side2 A8.out).mono ?_
   (case side1 => exact B14x21_)
   (case side2 => exact HC0_2.out)
   rintro e w16 ⟨rfl, hb⟩
   refine ⟨_, rfl, ?_⟩
   replace BK570 := Aside0.mk (bb BK570.out hb)
   replace BK571 := Aside0.mk (bb BK571.out hb)
   replace BK572 := Aside0.mk (bb BK572.out hb)
   replace HB := Aside0.mk (below_step B14x1_ hb)
   (try clear hb)
   (try clear hb2)
   (try clear hk)
   (try clear hi)
   refine hK.out _ _ ⟨(blk_cell BK570.out 0).trans rfl, (blk_cell BK570.out 1).trans rfl, (blk_cell BK570.out 2).trans rfl⟩ (fun hHeld => ?_)
   clear hK K
   refine norm_ (a' := ?_) ?_ ?_
   rotate_left
   ·show Act.put _ (some 10) _ = _
    simp only [Act.put, List.setIfInBounds_toArray, List.set_cons_zero, List.set_cons_succ, i64_w, i32_w]
    rfl
   refine pu_ 2 11 HT_ ?_
   refine pu_ 3 12 HT_ ?_
   refine of_ 4 13 HT_ ?_
   refine of_ 5 14 HT_ ?_
   refine of_ 6 15 HT_ ?_
   refine of_ 7 16 HT_ ?_
   refine of_ 8 17 HT_ ?_
   refine of_ 9 18 HT_ ?_
   refine of_ 10 19 HT_ ?_
   refine of_ 11 20 HT_ ?_
   refine of_ 12 21 HT_ ?_
   refine pu_ 13 22 HT_ ?_
   refine done_ (done_of HT_.out B14x20_) ?_
   try go_wp2
   go_meet
   case rel => exact ⟨_, (true), (be_), H', ⟨(by first | omega | exact Nat.le_refl _)⟩, ⟨B14x4_⟩, ⟨B14x2_⟩, ⟨B14x5_⟩, ⟨B14x1_⟩⟩
 case rest =>
  clear HC4
  obtain ⟨kq, x22_3, rfl, HA, HJ3, BK570, BK571, BK572, HB⟩ := hcut
  cases kq with
  | zero => exact absurd HA.out (by simp [spec_LogPut.j0])
  | succ kj3 =>
   have H := HA.out
   clear HA
   simp only [spec_LogPut.j0] at H
   by_cases c17 : x22_3 = true
   ·subst c17
    rw [if_pos rfl] at H
    simp only [Option.some.injEq, Prod.mk.injEq] at H
    obtain ⟨rfl, rfl, rfl, rfl⟩ := H
    have hnb18 := NB572_570.out
    have hnc18 := NB570_572.out
    have hnb19 := NB572_571.out
    have hnc19 := NB571_572.out
    obtain ⟨hcz20_0, hcz20_1, hcz20_2⟩ := cl3 BK572.out
    obtain ⟨hfz20_0, hfz20_1, hfz20_2⟩ := fr3 BK572.out
    go_wp2
    refine bodyPost_ret (results_ct rfl _ _ gb572 26 #[.int .i64 0, .int .i64 0, .slice none 0 0] (0, 0) _ rfl B14x15_ Try.underlying26 rfl B14x20_) rfl ?_
    exact ⟨_, by first | rfl | (simp [errW_none, errW_some] <;> rfl) | (simp [*, errW_none, errW_some] <;> rfl), by first | exact Kd.R_nil _ _ _ _ _ | exact Kd.N_nil _ _ _ _ _ | exact Kd.V_nil _ _ _ _ _ | exact Kd.Q_nil _ _ _ _ _ | exact Kd.S_nil _ _ _ _ _, by repeat (first | (with_reducible first | exact HB.out | apply below_alloc | apply pw_below_drewN | apply below_drew1 | refine below_set ?_ GE570.out | refine below_set ?_ GE571.out | refine below_set ?_ GE572.out) | exact HB.out)⟩
   ·replace c17 := Bool.eq_false_iff.mpr c17
    subst c17
    rw [if_neg (show ¬ (false = true) by decide)] at H
    obtain ⟨y576, hy576⟩ : ∃ y_ : List (S28), y_ = (([] : List (S28))) := ⟨_, rfl⟩
    replace H : (if 0 ≤ (wrap64 ((wrap64 (a1 - a0_0)) - 1)) then (if (wrap64 ((wrap64 (a1 - a0_0)) - 1)) ≤ (l0_2.length : Int) then ((some (l0_2.take ((wrap64 ((wrap64 (a1 - a0_0)) - 1)) : Int).toNat : List (S28))).bind fun y579 => (if y576.length + y579.length < 4398046511104 then ((some (y576 ++ y579 : List (S28))).bind fun y583 => ((some (([(⟨a2_0, a2_1, a2_2⟩ : S28)] : List (S28)) : List (S28))).bind fun y586 => (if y583.length + y586.length < 4398046511104 then ((some (y583 ++ y586 : List (S28))).bind fun y589 => ((spec_LogOk.f kj3 a0_0 a0_1 y589).bind fun t593 => (if t593 = true then (some (a0_0, a0_1, y589, true)) else (some (0, 0, ([] : List (S28)), false))))) else (none)))) else (none))) else (none)) else (none)) = some (r1, r2, r3, r4) := by first | (rw [hy576]; with_reducible exact H) | (have H2_ := (Option.bind_some _ _).symm.trans H; rw [hy576]; with_reducible exact H2_) | (have H2_ := (Option.bind_some _ _).symm.trans H; with_reducible exact H2_) | with_reducible exact H | (rw [hy576]; exact H) | exact H
    have Ny576 := Aside0.mk hy576
    clear hy576
    obtain ⟨ji21, hji21⟩ : ∃ j_ : Int, (wrap64 ((wrap64 (a1 - a0_0)) - 1)) = j_ := ⟨_, rfl⟩
    replace H : (if 0 ≤ (ji21) then (if (ji21) ≤ (l0_2.length : Int) then ((some (l0_2.take ((ji21) : Int).toNat : List (S28))).bind fun y579 => (if y576.length + y579.length < 4398046511104 then ((some (y576 ++ y579 : List (S28))).bind fun y583 => ((some (([(⟨a2_0, a2_1, a2_2⟩ : S28)] : List (S28)) : List (S28))).bind fun y586 => (if y583.length + y586.length < 4398046511104 then ((some (y583 ++ y586 : List (S28))).bind fun y589 => ((spec_LogOk.f kj3 a0_0 a0_1 y589).bind fun t593 => (if t593 = true then (some (a0_0, a0_1, y589, true)) else (some (0, 0, ([] : List (S28)), false))))) else (none)))) else (none))) else (none)) else (none)) = some (r1, r2, r3, r4) := by first | (rw [hji21] at H; exact H) | (simp only [hji21] at H ⊢; exact H)
    have hji21w : (IntKind.i64.wrap ((wrap64 (a1 - a0_0)) - 1)) = ji21 := (i64_w _).trans hji21
    by_cases c22 : 0 ≤ (ji21)
    rotate_left
    ·rw [if_neg c22] at H
     exact absurd H (by simp)
    rw [if_pos c22] at H
    have c22b0 := eq_true c22
    have c22b1 : decide (0 ≤ (ji21)) = true := decide_eq_true c22
    clear c22
    by_cases c23 : (ji21) ≤ (l0_2.length : Int)
    rotate_left
    ·rw [if_neg c23] at H
     exact absurd H (by simp)
    rw [if_pos c23] at H
    have c23b0 := eq_true c23
    have c23b1 : decide ((ji21) ≤ (l0_2.length : Int)) = true := decide_eq_true c23
    clear c23
    obtain ⟨y579, hy579⟩ : ∃ y_ : List (S28), y_ = (l0_2.take ((ji21) : Int).toNat) := ⟨_, rfl⟩
    replace H : (if y576.length + y579.length < 4398046511104 then ((some (y576 ++ y579 : List (S28))).bind fun y583 => ((some (([(⟨a2_0, a2_1, a2_2⟩ : S28)] : List (S28)) : List (S28))).bind fun y586 => (if y583.length + y586.length < 4398046511104 then ((some (y583 ++ y586 : List (S28))).bind fun y589 => ((spec_LogOk.f kj3 a0_0 a0_1 y589).bind fun t593 => (if t593 = true then (some (a0_0, a0_1, y589, true)) else (some (0, 0, ([] : List (S28)), false))))) else (none)))) else (none)) = some (r1, r2, r3, r4) := by first | (rw [hy579]; with_reducible exact H) | (have H2_ := (Option.bind_some _ _).symm.trans H; rw [hy579]; with_reducible exact H2_) | (have H2_ := (Option.bind_some _ _).symm.trans H; with_reducible exact H2_) | with_reducible exact H | (rw [hy579]; exact H) | exact H
    have Ny579 := Aside0.mk hy579
    clear hy579
    by_cases c24 : y576.length + y579.length < 4398046511104
    rotate_left
    ·rw [if_neg c24] at H
     exact absurd H (by simp)
    rw [if_pos c24] at H
    have LMc24 := Aside0.mk c24
    clear c24
    obtain ⟨y583, hy583⟩ : ∃ y_ : List (S28), y_ = (y576 ++ y579) := ⟨_, rfl⟩
    replace H : ((some (([(⟨a2_0, a2_1, a2_2⟩ : S28)] : List (S28)) : List (S28))).bind fun y586 => (if y583.length + y586.length < 4398046511104 then ((some (y583 ++ y586 : List (S28))).bind fun y589 => ((spec_LogOk.f kj3 a0_0 a0_1 y589).bind fun t593 => (if t593 = true then (some (a0_0, a0_1, y589, true)) else (some (0, 0, ([] : List (S28)), false))))) else (none))) = some (r1, r2, r3, r4) := by first | (rw [hy583]; with_reducible exact H) | (have H2_ := (Option.bind_some _ _).symm.trans H; rw [hy583]; with_reducible exact H2_) | (have H2_ := (Option.bind_some _ _).symm.trans H; with_reducible exact H2_) | with_reducible exact H | (rw [hy583]; exact H) | exact H
    have Ny583 := Aside0.mk hy583
    clear hy583
    obtain ⟨y586, hy586⟩ : ∃ y_ : List (S28), y_ = (([(⟨a2_0, a2_1, a2_2⟩ : S28)] : List (S28))) := ⟨_, rfl⟩
    replace H : (if y583.length + y586.length < 4398046511104 then ((some (y583 ++ y586 : List (S28))).bind fun y589 => ((spec_LogOk.f kj3 a0_0 a0_1 y589).bind fun t593 => (if t593 = true then (some (a0_0, a0_1, y589, true)) else (some (0, 0, ([] : List (S28)), false))))) else (none)) = some (r1, r2, r3, r4) := by first | (rw [hy586]; with_reducible exact H) | (have H2_ := (Option.bind_some _ _).symm.trans H; rw [hy586]; with_reducible exact H2_) | (have H2_ := (Option.bind_some _ _).symm.trans H; with_reducible exact H2_) | with_reducible exact H | (rw [hy586]; exact H) | exact H
    have Ny586 := Aside0.mk hy586
    clear hy586
    by_cases c25 : y583.length + y586.length < 4398046511104
    rotate_left
    ·rw [if_neg c25] at H
     exact absurd H (by simp)
    rw [if_pos c25] at H
    have LMc25 := Aside0.mk c25
    clear c25
    obtain ⟨y589, hy589⟩ : ∃ y_ : List (S28), y_ = (y583 ++ y586) := ⟨_, rfl⟩
    replace H : ((spec_LogOk.f kj3 a0_0 a0_1 y589).bind fun t593 => (if t593 = true then (some (a0_0, a0_1, y589, true)) else (some (0, 0, ([] : List (S28)), false)))) = some (r1, r2, r3, r4) := by first | (rw [hy589]; with_reducible exact H) | (have H2_ := (Option.bind_some _ _).symm.trans H; rw [hy589]; with_reducible exact H2_) | (have H2_ := (Option.bind_some _ _).symm.trans H; with_reducible exact H2_) | with_reducible exact H | (rw [hy589]; exact H) | exact H
    have Ny589 := Aside0.mk hy589
    clear hy589
    replace H := bsi H
    obtain ⟨t593, A26, H⟩ := H
    (try dsimp only at H)
    have HL_296 := Aside0.mk H
    clear H
    try go_wp2
    replace BK570 := Aside0.mk (blk_drew BK570.out)
    replace BK571 := Aside0.mk (blk_drew BK571.out)
    replace BK572 := Aside0.mk (blk_drew BK572.out)
    replace HB := Aside0.mk (below_drew1 HB.out)
    have q29 : ((ji21) : Int) ≤ ((l0_2.length : Int) : Int) := of_decide_eq_true B14x37_
    obtain ⟨i029, hi029, _, hsz29, _⟩ := info_parts info28
    have hroom29 : l0_2.length ≤ c0_2 := HC0_2.out
    have hC29 : Kd.C k28 _ A0_2 l0_2.length l0_2 := HR0_2.out
    have hcut29 := cut_to (P := Try.prog) 24 28 .i64 Try.underlying24 hi029 A0_2 l0_2.length c0_2 (ji21) (of_decide_eq_true B14x37_) q29 hroom29
    have hr29 := Kd.C_take (m := ((ji21) : Int).toNat) hC29 (by omega)
    have hy29 : y579.length = ((ji21) : Int).toNat := (by rw [Ny579.out, List.length_take]; omega)
    rw [← Ny579.out] at hr29
    rw [← hy29] at hcut29
    have HR582 := Aside0.mk hr29
    have HC582 := Aside0.mk (show y579.length ≤ c0_2 from (by omega))
    clear hr29 hC29 hroom29 hi029 hsz29
    have KY29 := Aside0.mk hy29
    clear hy29
    replace q29 := eq_true q29
    refine start_ (n := 20) (S := fun w' => w'.cell? ⟨gb570, 0, none⟩ = some (.int .i64 a0_0) ∧ w'.cell? ⟨gb570, 1, none⟩ = some (.int .i64 a0_1) ∧ w'.cell? ⟨gb570, 2, none⟩ = some (.slice A0_2 l0_2.length c0_2) ∧ w'.cell? ⟨gb571, 0, none⟩ = some (.int .i64 a2_0) ∧ w'.cell? ⟨gb571, 1, none⟩ = some (.int .i64 a2_1) ∧ w'.cell? ⟨gb571, 2, none⟩ = some (.string a2_2)) (ds := []) #[false, false, false, false, false, false, false, false, false, false, false, false, false, false, false, false, false, false, false, false] B14x20_ rfl rfl ⟨(blk_cell BK570.out 0).trans rfl, (blk_cell BK570.out 1).trans rfl, (blk_cell BK570.out 2).trans rfl, (blk_cell BK571.out 0).trans rfl, (blk_cell BK571.out 1).trans rfl, (blk_cell BK571.out 2).trans rfl⟩ (fun hHeld => ?_); refine with_tabW spec_LogPut.tab3 spec_LogPut.bits3 (fun HT_ HW_ => ?_)
    generalize wc.drew = w28 at BK570 BK571 BK572 HB HR582 hHeld ⊢
    refine pu_ 0 24 HT_ ?_
    refine pu_ 2 26 HT_ ?_
    refine pu_ 5 29 HT_ ?_
    refine pu_ 7 31 HT_ ?_
    refine pu_ 8 32 HT_ ?_
    refine ta_ 1 25 HT_ HW_ hHeld ?_
    refine ta_ 3 27 HT_ HW_ hHeld ?_
    refine ta_ 6 30 HT_ HW_ hHeld ?_
    refine ta_ 9 33 HT_ HW_ hHeld ?_
    refine pu_ 10 34 HT_ ?_
    refine pu_ 11 35 HT_ ?_
    refine pu_ 12 36 HT_ ?_
    refine ta_ 14 38 HT_ HW_ hHeld ?_
    refine join_ (σ := Value × Value × Value × Value × Nat) 1 #[true, true, true, true, true, true, true, true, true, true, true, true, true, true, true, true, true, true, true, false] (fun s_ => [(28, s_.1), (37, s_.2.1), (39, s_.2.2.1), (40, s_.2.2.2.1), (8, .pointer (some ⟨s_.2.2.2.2, 0, none⟩)), (41, .agg #[.int .i64 a0_0, .int .i64 a0_1, s_.2.2.2.1])]) (fun s_ w' => (w'.cell? ⟨gb570, 0, none⟩ = some (.int .i64 a0_0) ∧ w'.cell? ⟨gb570, 1, none⟩ = some (.int .i64 a0_1) ∧ w'.cell? ⟨gb570, 2, none⟩ = some (.slice A0_2 l0_2.length c0_2) ∧ w'.cell? ⟨gb571, 0, none⟩ = some (.int .i64 a2_0) ∧ w'.cell? ⟨gb571, 1, none⟩ = some (.int .i64 a2_1) ∧ w'.cell? ⟨gb571, 2, none⟩ = some (.string a2_2)) ∧ (Kd.R k28 28 w' w.heap.size (fun k_ => some k_ ≠ (s_.2.2.2.1 : Value).ownBlock ∧ k_ ≠ gb571) s_.2.2.1 y586) ∧ (Kd.R k28 28 w' w.heap.size (fun k_ => some k_ ≠ (s_.2.2.1 : Value).ownBlock ∧ k_ ≠ gb571) s_.2.2.2.1 y589) ∧ (w'.heap[gb570]? = some (.cells #[.int .i64 a0_0, .int .i64 a0_1, .slice A0_2 l0_2.length c0_2] 26 (0, 0))) ∧ (w'.heap[gb571]? = some (.cells #[.int .i64 a2_0, .int .i64 a2_1, .string a2_2] 28 (0, 0))) ∧ (w'.heap[gb572]? = some (.cells #[.int .i64 0, .int .i64 0, .slice none 0 0] 26 (0, 0))) ∧ (w'.heap[s_.2.2.2.2]? = some (.cells #[.int .i64 0, .int .i64 0, .slice none 0 0] 26 (0, 0))) ∧ (w.heap.size ≤ s_.2.2.2.2) ∧ (w.heap.size ≤ s_.2.2.2.2) ∧ (gb570 ≠ s_.2.2.2.2) ∧ (s_.2.2.2.2 ≠ gb570) ∧ (gb571 ≠ s_.2.2.2.2) ∧ (s_.2.2.2.2 ≠ gb571) ∧ (gb572 ≠ s_.2.2.2.2) ∧ (s_.2.2.2.2 ≠ gb572) ∧ (Below w.heap.size w w')) ?_ ?_
    rotate_left
    ·intro hJ4_13_15_16_18
     refine join_ (σ := Value × Value × Value × Value) 2 #[true, true, true, true, true, true, true, true, true, true, true, true, true, true, true, true, true, true, false, false] (fun s_ => [(28, s_.1), (37, s_.2.1), (39, s_.2.2.1), (40, s_.2.2.2), (41, .agg #[.int .i64 a0_0, .int .i64 a0_1, s_.2.2.2])]) (fun s_ w' => (w'.cell? ⟨gb570, 0, none⟩ = some (.int .i64 a0_0) ∧ w'.cell? ⟨gb570, 1, none⟩ = some (.int .i64 a0_1) ∧ w'.cell? ⟨gb570, 2, none⟩ = some (.slice A0_2 l0_2.length c0_2) ∧ w'.cell? ⟨gb571, 0, none⟩ = some (.int .i64 a2_0) ∧ w'.cell? ⟨gb571, 1, none⟩ = some (.int .i64 a2_1) ∧ w'.cell? ⟨gb571, 2, none⟩ = some (.string a2_2)) ∧ (Kd.R k28 28 w' w.heap.size (fun k_ => some k_ ≠ (s_.2.2.2 : Value).ownBlock ∧ k_ ≠ gb571) s_.2.2.1 y586) ∧ (Kd.R k28 28 w' w.heap.size (fun k_ => some k_ ≠ (s_.2.2.1 : Value).ownBlock ∧ k_ ≠ gb571) s_.2.2.2 y589) ∧ (w'.heap[gb570]? = some (.cells #[.int .i64 a0_0, .int .i64 a0_1, .slice A0_2 l0_2.length c0_2] 26 (0, 0))) ∧ (w'.heap[gb571]? = some (.cells #[.int .i64 a2_0, .int .i64 a2_1, .string a2_2] 28 (0, 0))) ∧ (w'.heap[gb572]? = some (.cells #[.int .i64 0, .int .i64 0, .slice none 0 0] 26 (0, 0))) ∧ (Below w.heap.size w w')) ?_ ?_
     rotate_left
     ·intro hJ4_13_15_16
      refine join_ (σ := Value × Value × Value × Nat) 3 #[true, true, true, true, true, true, true, true, true, true, true, true, true, true, true, true, false, false, true, false] (fun s_ => [(28, s_.1), (37, s_.2.1), (39, s_.2.2.1), (8, .pointer (some ⟨s_.2.2.2, 0, none⟩))]) (fun s_ w' => (w'.cell? ⟨gb570, 0, none⟩ = some (.int .i64 a0_0) ∧ w'.cell? ⟨gb570, 1, none⟩ = some (.int .i64 a0_1) ∧ w'.cell? ⟨gb570, 2, none⟩ = some (.slice A0_2 l0_2.length c0_2) ∧ w'.cell? ⟨gb571, 0, none⟩ = some (.int .i64 a2_0) ∧ w'.cell? ⟨gb571, 1, none⟩ = some (.int .i64 a2_1) ∧ w'.cell? ⟨gb571, 2, none⟩ = some (.string a2_2)) ∧ (Kd.R k28 28 w' w.heap.size (fun k_ => some k_ ≠ (s_.2.2.1 : Value).ownBlock ∧ k_ ≠ gb571) s_.2.1 y583) ∧ (Kd.R k28 28 w' w.heap.size (fun k_ => some k_ ≠ (s_.2.1 : Value).ownBlock ∧ k_ ≠ gb571) s_.2.2.1 y586) ∧ (w'.heap[gb570]? = some (.cells #[.int .i64 a0_0, .int .i64 a0_1, .slice A0_2 l0_2.length c0_2] 26 (0, 0))) ∧ (w'.heap[gb571]? = some (.cells #[.int .i64 a2_0, .int .i64 a2_1, .string a2_2] 28 (0, 0))) ∧ (w'.heap[gb572]? = some (.cells #[.int .i64 0, .int .i64 0, .slice none 0 0] 26 (0, 0))) ∧ (w'.heap[s_.2.2.2]? = some (.cells #[.int .i64 0, .int .i64 0, .slice none 0 0] 26 (0, 0))) ∧ (w.heap.size ≤ s_.2.2.2) ∧ (w.heap.size ≤ s_.2.2.2) ∧ (gb570 ≠ s_.2.2.2) ∧ (s_.2.2.2 ≠ gb570) ∧ (gb571 ≠ s_.2.2.2) ∧ (s_.2.2.2 ≠ gb571) ∧ (gb572 ≠ s_.2.2.2) ∧ (s_.2.2.2 ≠ gb572) ∧ (Below w.heap.size w w')) ?_ ?_
      rotate_left
      ·intro hJ4_13_15_18
       refine join_ (σ := Value × Value × Value) 4 #[true, true, true, true, true, true, true, true, true, true, true, true, true, true, true, true, false, false, false, false] (fun s_ => [(28, s_.1), (37, s_.2.1), (39, s_.2.2)]) (fun s_ w' => (w'.cell? ⟨gb570, 0, none⟩ = some (.int .i64 a0_0) ∧ w'.cell? ⟨gb570, 1, none⟩ = some (.int .i64 a0_1) ∧ w'.cell? ⟨gb570, 2, none⟩ = some (.slice A0_2 l0_2.length c0_2) ∧ w'.cell? ⟨gb571, 0, none⟩ = some (.int .i64 a2_0) ∧ w'.cell? ⟨gb571, 1, none⟩ = some (.int .i64 a2_1) ∧ w'.cell? ⟨gb571, 2, none⟩ = some (.string a2_2)) ∧ (Kd.R k28 28 w' w.heap.size (fun k_ => some k_ ≠ (s_.2.2 : Value).ownBlock ∧ k_ ≠ gb571) s_.2.1 y583) ∧ (Kd.R k28 28 w' w.heap.size (fun k_ => some k_ ≠ (s_.2.1 : Value).ownBlock ∧ k_ ≠ gb571) s_.2.2 y586) ∧ (w'.heap[gb570]? = some (.cells #[.int .i64 a0_0, .int .i64 a0_1, .slice A0_2 l0_2.length c0_2] 26 (0, 0))) ∧ (w'.heap[gb571]? = some (.cells #[.int .i64 a2_0, .int .i64 a2_1, .string a2_2] 28 (0, 0))) ∧ (w'.heap[gb572]? = some (.cells #[.int .i64 0, .int .i64 0, .slice none 0 0] 26 (0, 0))) ∧ (Below w.heap.size w w')) ?_ ?_
       rotate_left
       ·intro hJ4_13_15
        refine join_ (σ := Value × Value × Nat) 4 #[true, true, true, true, true, true, true, true, true, true, true, true, true, true, true, false, false, false, true, false] (fun s_ => [(28, s_.1), (37, s_.2.1), (8, .pointer (some ⟨s_.2.2, 0, none⟩))]) (fun s_ w' => (w'.cell? ⟨gb570, 0, none⟩ = some (.int .i64 a0_0) ∧ w'.cell? ⟨gb570, 1, none⟩ = some (.int .i64 a0_1) ∧ w'.cell? ⟨gb570, 2, none⟩ = some (.slice A0_2 l0_2.length c0_2) ∧ w'.cell? ⟨gb571, 0, none⟩ = some (.int .i64 a2_0) ∧ w'.cell? ⟨gb571, 1, none⟩ = some (.int .i64 a2_1) ∧ w'.cell? ⟨gb571, 2, none⟩ = some (.string a2_2)) ∧ (Kd.R k28 28 w' w.heap.size (fun k_ => k_ ≠ gb571) s_.2.1 y583) ∧ (w'.heap[gb570]? = some (.cells #[.int .i64 a0_0, .int .i64 a0_1, .slice A0_2 l0_2.length c0_2] 26 (0, 0))) ∧ (w'.heap[gb571]? = some (.cells #[.int .i64 a2_0, .int .i64 a2_1, .string a2_2] 28 (0, 0))) ∧ (w'.heap[gb572]? = some (.cells #[.int .i64 0, .int .i64 0, .slice none 0 0] 26 (0, 0))) ∧ (w'.heap[s_.2.2]? = some (.cells #[.int .i64 0, .int .i64 0, .slice none 0 0] 26 (0, 0))) ∧ (w.heap.size ≤ s_.2.2) ∧ (w.heap.size ≤ s_.2.2) ∧ (gb570 ≠ s_.2.2) ∧ (s_.2.2 ≠ gb570) ∧ (gb571 ≠ s_.2.2) ∧ (s_.2.2 ≠ gb571) ∧ (gb572 ≠ s_.2.2) ∧ (s_.2.2 ≠ gb572) ∧ (Below w.heap.size w w')) ?_ ?_
        rotate_left
        ·intro hJ4_13_18
         refine join_ (σ := Value × Value × Nat) 4 #[true, true, true, true, true, true, true, true, true, true, true, true, true, false, true, true, false, false, true, false] (fun s_ => [(28, s_.1), (39, s_.2.1), (8, .pointer (some ⟨s_.2.2, 0, none⟩))]) (fun s_ w' => (w'.cell? ⟨gb570, 0, none⟩ = some (.int .i64 a0_0) ∧ w'.cell? ⟨gb570, 1, none⟩ = some (.int .i64 a0_1) ∧ w'.cell? ⟨gb570, 2, none⟩ = some (.slice A0_2 l0_2.length c0_2) ∧ w'.cell? ⟨gb571, 0, none⟩ = some (.int .i64 a2_0) ∧ w'.cell? ⟨gb571, 1, none⟩ = some (.int .i64 a2_1) ∧ w'.cell? ⟨gb571, 2, none⟩ = some (.string a2_2)) ∧ (Kd.R k28 28 w' w.heap.size (fun k_ => some k_ ≠ (s_.2.1 : Value).ownBlock ∧ k_ ≠ gb571) s_.1 y576) ∧ (Kd.R k28 28 w' w.heap.size (fun k_ => some k_ ≠ (s_.1 : Value).ownBlock ∧ k_ ≠ gb571) s_.2.1 y586) ∧ (w'.heap[gb570]? = some (.cells #[.int .i64 a0_0, .int .i64 a0_1, .slice A0_2 l0_2.length c0_2] 26 (0, 0))) ∧ (w'.heap[gb571]? = some (.cells #[.int .i64 a2_0, .int .i64 a2_1, .string a2_2] 28 (0, 0))) ∧ (w'.heap[gb572]? = some (.cells #[.int .i64 0, .int .i64 0, .slice none 0 0] 26 (0, 0))) ∧ (w'.heap[s_.2.2]? = some (.cells #[.int .i64 0, .int .i64 0, .slice none 0 0] 26 (0, 0))) ∧ (w.heap.size ≤ s_.2.2) ∧ (w.heap.size ≤ s_.2.2) ∧ (gb570 ≠ s_.2.2) ∧ (s_.2.2 ≠ gb570) ∧ (gb571 ≠ s_.2.2) ∧ (s_.2.2 ≠ gb571) ∧ (gb572 ≠ s_.2.2) ∧ (s_.2.2 ≠ gb572) ∧ (Below w.heap.size w w')) ?_ ?_
         rotate_left
         ·intro hJ4_15_18
          refine join_ (σ := Value × Value) 5 #[true, true, true, true, true, true, true, true, true, true, true, true, true, true, true, false, false, false, false, false] (fun s_ => [(28, s_.1), (37, s_.2)]) (fun s_ w' => (w'.cell? ⟨gb570, 0, none⟩ = some (.int .i64 a0_0) ∧ w'.cell? ⟨gb570, 1, none⟩ = some (.int .i64 a0_1) ∧ w'.cell? ⟨gb570, 2, none⟩ = some (.slice A0_2 l0_2.length c0_2) ∧ w'.cell? ⟨gb571, 0, none⟩ = some (.int .i64 a2_0) ∧ w'.cell? ⟨gb571, 1, none⟩ = some (.int .i64 a2_1) ∧ w'.cell? ⟨gb571, 2, none⟩ = some (.string a2_2)) ∧ (Kd.R k28 28 w' w.heap.size (fun k_ => k_ ≠ gb571) s_.2 y583) ∧ (w'.heap[gb570]? = some (.cells #[.int .i64 a0_0, .int .i64 a0_1, .slice A0_2 l0_2.length c0_2] 26 (0, 0))) ∧ (w'.heap[gb571]? = some (.cells #[.int .i64 a2_0, .int .i64 a2_1, .string a2_2] 28 (0, 0))) ∧ (w'.heap[gb572]? = some (.cells #[.int .i64 0, .int .i64 0, .slice none 0 0] 26 (0, 0))) ∧ (Below w.heap.size w w')) ?_ ?_
          rotate_left
          ·intro hJ4_13
           refine join_ (σ := Value × Value) 5 #[true, true, true, true, true, true, true, true, true, true, true, true, true, false, true, true, false, false, false, false] (fun s_ => [(28, s_.1), (39, s_.2)]) (fun s_ w' => (w'.cell? ⟨gb570, 0, none⟩ = some (.int .i64 a0_0) ∧ w'.cell? ⟨gb570, 1, none⟩ = some (.int .i64 a0_1) ∧ w'.cell? ⟨gb570, 2, none⟩ = some (.slice A0_2 l0_2.length c0_2) ∧ w'.cell? ⟨gb571, 0, none⟩ = some (.int .i64 a2_0) ∧ w'.cell? ⟨gb571, 1, none⟩ = some (.int .i64 a2_1) ∧ w'.cell? ⟨gb571, 2, none⟩ = some (.string a2_2)) ∧ (Kd.R k28 28 w' w.heap.size (fun k_ => some k_ ≠ (s_.2 : Value).ownBlock ∧ k_ ≠ gb571) s_.1 y576) ∧ (Kd.R k28 28 w' w.heap.size (fun k_ => some k_ ≠ (s_.1 : Value).ownBlock ∧ k_ ≠ gb571) s_.2 y586) ∧ (w'.heap[gb570]? = some (.cells #[.int .i64 a0_0, .int .i64 a0_1, .slice A0_2 l0_2.length c0_2] 26 (0, 0))) ∧ (w'.heap[gb571]? = some (.cells #[.int .i64 a2_0, .int .i64 a2_1, .string a2_2] 28 (0, 0))) ∧ (w'.heap[gb572]? = some (.cells #[.int .i64 0, .int .i64 0, .slice none 0 0] 26 (0, 0))) ∧ (Below w.heap.size w w')) ?_ ?_
           rotate_left
           ·intro hJ4_15
            refine join_ (σ := Value × Nat) 5 #[true, true, true, true, true, true, true, true, true, true, true, true, true, false, true, false, false, false, true, false] (fun s_ => [(28, s_.1), (8, .pointer (some ⟨s_.2, 0, none⟩))]) (fun s_ w' => (w'.cell? ⟨gb570, 0, none⟩ = some (.int .i64 a0_0) ∧ w'.cell? ⟨gb570, 1, none⟩ = some (.int .i64 a0_1) ∧ w'.cell? ⟨gb570, 2, none⟩ = some (.slice A0_2 l0_2.length c0_2) ∧ w'.cell? ⟨gb571, 0, none⟩ = some (.int .i64 a2_0) ∧ w'.cell? ⟨gb571, 1, none⟩ = some (.int .i64 a2_1) ∧ w'.cell? ⟨gb571, 2, none⟩ = some (.string a2_2)) ∧ (Kd.R k28 28 w' w.heap.size (fun k_ => k_ ≠ gb571) s_.1 y576) ∧ (w'.heap[gb570]? = some (.cells #[.int .i64 a0_0, .int .i64 a0_1, .slice A0_2 l0_2.length c0_2] 26 (0, 0))) ∧ (w'.heap[gb571]? = some (.cells #[.int .i64 a2_0, .int .i64 a2_1, .string a2_2] 28 (0, 0))) ∧ (w'.heap[gb572]? = some (.cells #[.int .i64 0, .int .i64 0, .slice none 0 0] 26 (0, 0))) ∧ (w'.heap[s_.2]? = some (.cells #[.int .i64 0, .int .i64 0, .slice none 0 0] 26 (0, 0))) ∧ (w.heap.size ≤ s_.2) ∧ (w.heap.size ≤ s_.2) ∧ (gb570 ≠ s_.2) ∧ (s_.2 ≠ gb570) ∧ (gb571 ≠ s_.2) ∧ (s_.2 ≠ gb571) ∧ (gb572 ≠ s_.2) ∧ (s_.2 ≠ gb572) ∧ (Below w.heap.size w w')) ?_ ?_
            rotate_left
            ·intro hJ4_18
             refine join_ (σ := Value × Nat) 5 #[true, true, true, true, false, true, true, true, true, true, true, true, true, false, true, true, false, false, true, false] (fun s_ => [(39, s_.1), (8, .pointer (some ⟨s_.2, 0, none⟩))]) (fun s_ w' => (w'.cell? ⟨gb570, 0, none⟩ = some (.int .i64 a0_0) ∧ w'.cell? ⟨gb570, 1, none⟩ = some (.int .i64 a0_1) ∧ w'.cell? ⟨gb570, 2, none⟩ = some (.slice A0_2 l0_2.length c0_2) ∧ w'.cell? ⟨gb571, 0, none⟩ = some (.int .i64 a2_0) ∧ w'.cell? ⟨gb571, 1, none⟩ = some (.int .i64 a2_1) ∧ w'.cell? ⟨gb571, 2, none⟩ = some (.string a2_2)) ∧ (Kd.R k28 28 w' w.heap.size (fun k_ => k_ ≠ gb571) s_.1 y586) ∧ (w'.heap[gb570]? = some (.cells #[.int .i64 a0_0, .int .i64 a0_1, .slice A0_2 l0_2.length c0_2] 26 (0, 0))) ∧ (w'.heap[gb571]? = some (.cells #[.int .i64 a2_0, .int .i64 a2_1, .string a2_2] 28 (0, 0))) ∧ (w'.heap[gb572]? = some (.cells #[.int .i64 0, .int .i64 0, .slice none 0 0] 26 (0, 0))) ∧ (w'.heap[s_.2]? = some (.cells #[.int .i64 0, .int .i64 0, .slice none 0 0] 26 (0, 0))) ∧ (w.heap.size ≤ s_.2) ∧ (w.heap.size ≤ s_.2) ∧ (gb570 ≠ s_.2) ∧ (s_.2 ≠ gb570) ∧ (gb571 ≠ s_.2) ∧ (s_.2 ≠ gb571) ∧ (gb572 ≠ s_.2) ∧ (s_.2 ≠ gb572) ∧ (Below w.heap.size w w')) ?_ ?_
             rotate_left
             ·intro hJ15_18
              refine join_ (σ := Value) 6 #[true, true, true, true, true, true, true, true, true, true, true, true, true, false, true, false, false, false, false, false] (fun s_ => [(28, s_)]) (fun s_ w' => (w'.cell? ⟨gb570, 0, none⟩ = some (.int .i64 a0_0) ∧ w'.cell? ⟨gb570, 1, none⟩ = some (.int .i64 a0_1) ∧ w'.cell? ⟨gb570, 2, none⟩ = some (.slice A0_2 l0_2.length c0_2) ∧ w'.cell? ⟨gb571, 0, none⟩ = some (.int .i64 a2_0) ∧ w'.cell? ⟨gb571, 1, none⟩ = some (.int .i64 a2_1) ∧ w'.cell? ⟨gb571, 2, none⟩ = some (.string a2_2)) ∧ (Kd.R k28 28 w' w.heap.size (fun k_ => k_ ≠ gb571) s_ y576) ∧ (w'.heap[gb570]? = some (.cells #[.int .i64 a0_0, .int .i64 a0_1, .slice A0_2 l0_2.length c0_2] 26 (0, 0))) ∧ (w'.heap[gb571]? = some (.cells #[.int .i64 a2_0, .int .i64 a2_1, .string a2_2] 28 (0, 0))) ∧ (w'.heap[gb572]? = some (.cells #[.int .i64 0, .int .i64 0, .slice none 0 0] 26 (0, 0))) ∧ (Below w.heap.size w w')) ?_ ?_
              rotate_left
              ·intro hJ4
               refine join_ (σ := Value) 6 #[true, true, true, true, false, true, true, true, true, true, true, true, true, false, true, true, false, false, false, false] (fun s_ => [(39, s_)]) (fun s_ w' => (w'.cell? ⟨gb570, 0, none⟩ = some (.int .i64 a0_0) ∧ w'.cell? ⟨gb570, 1, none⟩ = some (.int .i64 a0_1) ∧ w'.cell? ⟨gb570, 2, none⟩ = some (.slice A0_2 l0_2.length c0_2) ∧ w'.cell? ⟨gb571, 0, none⟩ = some (.int .i64 a2_0) ∧ w'.cell? ⟨gb571, 1, none⟩ = some (.int .i64 a2_1) ∧ w'.cell? ⟨gb571, 2, none⟩ = some (.string a2_2)) ∧ (Kd.R k28 28 w' w.heap.size (fun k_ => k_ ≠ gb571) s_ y586) ∧ (w'.heap[gb570]? = some (.cells #[.int .i64 a0_0, .int .i64 a0_1, .slice A0_2 l0_2.length c0_2] 26 (0, 0))) ∧ (w'.heap[gb571]? = some (.cells #[.int .i64 a2_0, .int .i64 a2_1, .string a2_2] 28 (0, 0))) ∧ (w'.heap[gb572]? = some (.cells #[.int .i64 0, .int .i64 0, .slice none 0 0] 26 (0, 0))) ∧ (Below w.heap.size w w')) ?_ ?_
               rotate_left
               ·intro hJ15
                refine join_ (σ := Nat) 6 #[true, true, true, true, false, true, true, true, true, true, true, true, true, false, true, false, false, false, true, false] (fun s_ => [(8, .pointer (some ⟨s_, 0, none⟩))]) (fun s_ w' => (w'.cell? ⟨gb570, 0, none⟩ = some (.int .i64 a0_0) ∧ w'.cell? ⟨gb570, 1, none⟩ = some (.int .i64 a0_1) ∧ w'.cell? ⟨gb570, 2, none⟩ = some (.slice A0_2 l0_2.length c0_2) ∧ w'.cell? ⟨gb571, 0, none⟩ = some (.int .i64 a2_0) ∧ w'.cell? ⟨gb571, 1, none⟩ = some (.int .i64 a2_1) ∧ w'.cell? ⟨gb571, 2, none⟩ = some (.string a2_2)) ∧ (w'.heap[gb570]? = some (.cells #[.int .i64 a0_0, .int .i64 a0_1, .slice A0_2 l0_2.length c0_2] 26 (0, 0))) ∧ (w'.heap[gb571]? = some (.cells #[.int .i64 a2_0, .int .i64 a2_1, .string a2_2] 28 (0, 0))) ∧ (w'.heap[gb572]? = some (.cells #[.int .i64 0, .int .i64 0, .slice none 0 0] 26 (0, 0))) ∧ (w'.heap[s_]? = some (.cells #[.int .i64 0, .int .i64 0, .slice none 0 0] 26 (0, 0))) ∧ (w.heap.size ≤ s_) ∧ (w.heap.size ≤ s_) ∧ (gb570 ≠ s_) ∧ (s_ ≠ gb570) ∧ (gb571 ≠ s_) ∧ (s_ ≠ gb571) ∧ (gb572 ≠ s_) ∧ (s_ ≠ gb572) ∧ (Below w.heap.size w w')) ?_ ?_
                rotate_left
                ·intro hJ18
                 refine three_ (i := 4) (j := 15) (k := 18) (Ni := some 28) (Nj := some 39) (Nk := some 8) #[true, true, true, true, true, true, true, true, true, true, true, true, true, false, true, false, false, false, false, false] #[true, true, true, true, false, true, true, true, true, true, true, true, true, false, true, true, false, false, false, false] #[true, true, true, true, false, true, true, true, true, true, true, true, true, false, true, false, false, false, true, false] rfl rfl rfl rfl rfl rfl (three_of HT_.out B14x20_) (by decide) (by decide) (by decide) (fun K hK => ?_) (fun K hK => ?_) (fun K hK => ?_)
                 ·skip
                  refine Kd.R_lit_step k28 _ 28 ?hg (N := 28) ?hd (xs := ([] : List (S28))) (inner := []) (ok := fun _ => True) (okp := fun _ => True) ?hr ?hp (fun _ hk => hk) trivial (Below.refl _ _) (Nat.le_refl _) (by simp) ?_; (case hd => rfl); (case hg => rfl); (case hr => exact B14x13_); (case hp => exact (Reps.none _ _))
                  intro v577 w30 ho31 hb hg_ hnew_
                  clear hg_ hnew_
                  (first | rw [← Ny576.out] at ho31 | (simp only [Int.reduceToNat] at ho31; rw [← Ny576.out] at ho31))
                  have HO578 := Aside0.mk (Kd.R_lower (Kd.R_newB ho31 (g := gb571) (o := .cells #[.int .i64 a2_0, .int .i64 a2_1, .string a2_2] 28 (0, 0)) B14x2_) (below_size B14x1_))
                  replace BK570 := Aside0.mk (bb BK570.out hb)
                  replace BK571 := Aside0.mk (bb BK571.out hb)
                  replace BK572 := Aside0.mk (bb BK572.out hb)
                  replace HB := Aside0.mk (below_step B14x1_ hb)
                  clear hb ho31
                  refine hK.out _ _ ⟨(blk_cell BK570.out 0).trans rfl, (blk_cell BK570.out 1).trans rfl, (blk_cell BK570.out 2).trans rfl, (blk_cell BK571.out 0).trans rfl, (blk_cell BK571.out 1).trans rfl, (blk_cell BK571.out 2).trans rfl⟩ (fun hHeld => ?_)
                  clear hK K
                  refine norm_ (a' := ?_) ?_ ?_
                  rotate_left
                  ·show Act.put _ (some 28) _ = _
                   simp only [Act.put, List.setIfInBounds_toArray, List.set_cons_zero, List.set_cons_succ, i64_w, i32_w]
                   rfl
                  exact norm_ B14x3_ (hJ4 (v577) _ ⟨hHeld, B14x32_, B14x4_, B14x2_, B14x5_, B14x1_⟩)
                 ·skip
                  refine Kd.R_lit_step k28 _ 28 ?hg (N := 39) ?hd (xs := ([(⟨a2_0, a2_1, a2_2⟩ : S28)] : List (S28))) (inner := [.int .i64 a2_0, .int .i64 a2_1, .string a2_2]) (ok := fun _ => True) (okp := fun _ => True) ?hr ?hp (fun _ hk => hk) trivial (Below.refl _ _) (Nat.le_refl _) (by simp) ?_; (case hd => rfl); (case hg => rfl); (case hr => exact B14x13_); (case hp => exact B14x12_)
                  intro v587 w30 ho31 hb hg_ hnew_
                  clear hg_ hnew_
                  (first | rw [← Ny586.out] at ho31 | (simp only [Int.reduceToNat] at ho31; rw [← Ny586.out] at ho31))
                  have HO588 := Aside0.mk (Kd.R_lower (Kd.R_newB ho31 (g := gb571) (o := .cells #[.int .i64 a2_0, .int .i64 a2_1, .string a2_2] 28 (0, 0)) B14x2_) (below_size B14x1_))
                  replace BK570 := Aside0.mk (bb BK570.out hb)
                  replace BK571 := Aside0.mk (bb BK571.out hb)
                  replace BK572 := Aside0.mk (bb BK572.out hb)
                  replace HB := Aside0.mk (below_step B14x1_ hb)
                  clear hb ho31
                  refine hK.out _ _ ⟨(blk_cell BK570.out 0).trans rfl, (blk_cell BK570.out 1).trans rfl, (blk_cell BK570.out 2).trans rfl, (blk_cell BK571.out 0).trans rfl, (blk_cell BK571.out 1).trans rfl, (blk_cell BK571.out 2).trans rfl⟩ (fun hHeld => ?_)
                  clear hK K
                  refine norm_ (a' := ?_) ?_ ?_
                  rotate_left
                  ·show Act.put _ (some 39) _ = _
                   simp only [Act.put, List.setIfInBounds_toArray, List.set_cons_zero, List.set_cons_succ, i64_w, i32_w]
                   rfl
                  exact norm_ B14x3_ (hJ15 (v587) _ ⟨hHeld, B14x33_, B14x4_, B14x2_, B14x5_, B14x1_⟩)
                 ·skip
                  refine box_step ?hg (N := 8) ?hd (cs := #[.int .i64 0, .int .i64 0, .slice none 0 0]) (t := 26) ?hr ?_; (case hd => rfl); (case hg => rfl); (case hr => exact B14x13_)
                  intro gb592 hg w30 hbox hb
                  have BK592 := Aside0.mk (hbox)
                  have GW592 := Aside0.mk ((bs hg (below_size HB.out)))
                  have GE592 := Aside0.mk ((bs hg (below_size HB.out)))
                  replace HB := Aside0.mk (below_step B14x1_ hb)
                  have NB570_592 := Aside0.mk ((nl hg (blk_lt BK570.out)))
                  have NB592_570 := Aside0.mk ((ng hg (blk_lt BK570.out)))
                  replace BK570 := Aside0.mk (bb BK570.out hb)
                  have NB571_592 := Aside0.mk ((nl hg (blk_lt BK571.out)))
                  have NB592_571 := Aside0.mk ((ng hg (blk_lt BK571.out)))
                  replace BK571 := Aside0.mk (bb BK571.out hb)
                  have NB572_592 := Aside0.mk ((nl hg (blk_lt BK572.out)))
                  have NB592_572 := Aside0.mk ((ng hg (blk_lt BK572.out)))
                  replace BK572 := Aside0.mk (bb BK572.out hb)
                  clear hb hbox hg
                  refine hK.out _ _ ⟨(blk_cell BK570.out 0).trans rfl, (blk_cell BK570.out 1).trans rfl, (blk_cell BK570.out 2).trans rfl, (blk_cell BK571.out 0).trans rfl, (blk_cell BK571.out 1).trans rfl, (blk_cell BK571.out 2).trans rfl⟩ (fun hHeld => ?_)
                  clear hK K
                  refine norm_ (a' := ?_) ?_ ?_
                  rotate_left
                  ·show Act.put _ (some 8) _ = _
                   simp only [Act.put, List.setIfInBounds_toArray, List.set_cons_zero, List.set_cons_succ, i64_w, i32_w]
                   rfl
                  exact norm_ B14x3_ (hJ18 (gb592) _ ⟨hHeld, B14x4_, B14x2_, B14x5_, B14x6_, GW592.out, GE592.out, NB570_592.out, NB592_570.out, NB571_592.out, NB592_571.out, NB572_592.out, NB592_572.out, B14x0_⟩)
                ·skip
                 rintro gb592 w31 ⟨hS_, h0_, h1_, h2_, h3_, h4_, h5_, h6_, h7_, h8_, h9_, h10_, h11_, h12_⟩
                 have n0_ : Aside0 (w31.heap[gb570]? = some (.cells #[.int .i64 a0_0, .int .i64 a0_1, .slice A0_2 l0_2.length c0_2] 26 (0, 0))) := ⟨h0_⟩
                 have n1_ : Aside0 (w31.heap[gb571]? = some (.cells #[.int .i64 a2_0, .int .i64 a2_1, .string a2_2] 28 (0, 0))) := ⟨h1_⟩
                 have n2_ : Aside0 (w31.heap[gb572]? = some (.cells #[.int .i64 0, .int .i64 0, .slice none 0 0] 26 (0, 0))) := ⟨h2_⟩
                 have n3_ : Aside0 (w31.heap[gb592]? = some (.cells #[.int .i64 0, .int .i64 0, .slice none 0 0] 26 (0, 0))) := ⟨h3_⟩
                 have n4_ : Aside0 (w.heap.size ≤ gb592) := ⟨h4_⟩
                 have n5_ : Aside0 (w.heap.size ≤ gb592) := ⟨h5_⟩
                 have n6_ : Aside0 (gb570 ≠ gb592) := ⟨h6_⟩
                 have n7_ : Aside0 (gb592 ≠ gb570) := ⟨h7_⟩
                 have n8_ : Aside0 (gb571 ≠ gb592) := ⟨h8_⟩
                 have n9_ : Aside0 (gb592 ≠ gb571) := ⟨h9_⟩
                 have n10_ : Aside0 (gb572 ≠ gb592) := ⟨h10_⟩
                 have n11_ : Aside0 (gb592 ≠ gb572) := ⟨h11_⟩
                 have n12_ : Aside0 (Below w.heap.size w w31) := ⟨h12_⟩
                 clear BK570
                 clear BK571
                 clear BK572
                 clear HB
                 clear h0_ h1_ h2_ h3_ h4_ h5_ h6_ h7_ h8_ h9_ h10_ h11_ h12_
                 have BK570 := n0_
                 have BK571 := n1_
                 have BK572 := n2_
                 have BK592 := n3_
                 have GW592 := n4_
                 have GE592 := n5_
                 have NB570_592 := n6_
                 have NB592_570 := n7_
                 have NB571_592 := n8_
                 have NB592_571 := n9_
                 have NB572_592 := n10_
                 have NB592_572 := n11_
                 have HB := n12_
                 clear n0_ n1_ n2_ n3_ n4_ n5_ n6_ n7_ n8_ n9_ n10_ n11_ n12_
                 have hHeld : w31.cell? ⟨gb570, 0, none⟩ = some (.int .i64 a0_0) ∧ w31.cell? ⟨gb570, 1, none⟩ = some (.int .i64 a0_1) ∧ w31.cell? ⟨gb570, 2, none⟩ = some (.slice A0_2 l0_2.length c0_2) ∧ w31.cell? ⟨gb571, 0, none⟩ = some (.int .i64 a2_0) ∧ w31.cell? ⟨gb571, 1, none⟩ = some (.int .i64 a2_1) ∧ w31.cell? ⟨gb571, 2, none⟩ = some (.string a2_2) := hS_
                 refine norm_ (a' := ?_) ?_ ?_
                 rotate_left
                 ·simp only [putAll, Act.put, List.setIfInBounds_toArray, List.set_cons_zero, List.set_cons_succ]
                  rfl
                 refine two_ (i := 4) (j := 15) (Ni := some 28) (Nj := some 39) #[true, true, true, true, true, true, true, true, true, true, true, true, true, false, true, false, false, false, true, false] #[true, true, true, true, false, true, true, true, true, true, true, true, true, false, true, true, false, false, true, false] rfl rfl rfl rfl (two_of HT_.out B14x20_) (by decide) (by decide) (fun K hK => ?_) (fun K hK => ?_)
                 ·skip
                  refine Kd.R_lit_step k28 _ 28 ?hg (N := 28) ?hd (xs := ([] : List (S28))) (inner := []) (ok := fun _ => True) (okp := fun _ => True) ?hr ?hp (fun _ hk => hk) trivial (Below.refl _ _) (Nat.le_refl _) (by simp) ?_; (case hd => rfl); (case hg => rfl); (case hr => exact B14x13_); (case hp => exact (Reps.none _ _))
                  intro v577 w32 ho33 hb hg_ hnew_
                  clear hg_ hnew_
                  (first | rw [← Ny576.out] at ho33 | (simp only [Int.reduceToNat] at ho33; rw [← Ny576.out] at ho33))
                  have HO578 := Aside0.mk (Kd.R_lower (Kd.R_newB ho33 (g := gb571) (o := .cells #[.int .i64 a2_0, .int .i64 a2_1, .string a2_2] 28 (0, 0)) B14x2_) (below_size B14x0_))
                  replace BK570 := Aside0.mk (bb BK570.out hb)
                  replace BK571 := Aside0.mk (bb BK571.out hb)
                  replace BK572 := Aside0.mk (bb BK572.out hb)
                  replace BK592 := Aside0.mk (bb BK592.out hb)
                  replace HB := Aside0.mk (below_step B14x0_ hb)
                  clear hb ho33
                  refine hK.out _ _ ⟨(blk_cell BK570.out 0).trans rfl, (blk_cell BK570.out 1).trans rfl, (blk_cell BK570.out 2).trans rfl, (blk_cell BK571.out 0).trans rfl, (blk_cell BK571.out 1).trans rfl, (blk_cell BK571.out 2).trans rfl⟩ (fun hHeld => ?_)
                  clear hK K
                  refine norm_ (a' := ?_) ?_ ?_
                  rotate_left
                  ·show Act.put _ (some 28) _ = _
                   simp only [Act.put, List.setIfInBounds_toArray, List.set_cons_zero, List.set_cons_succ, i64_w, i32_w]
                   rfl
                  exact norm_ B14x3_ (hJ4_18 (v577, gb592) _ ⟨hHeld, B14x32_, B14x4_, B14x2_, B14x5_, B14x6_, GW592.out, GE592.out, NB570_592.out, NB592_570.out, NB571_592.out, NB592_571.out, NB572_592.out, NB592_572.out, B14x0_⟩)
                 ·skip
                  refine Kd.R_lit_step k28 _ 28 ?hg (N := 39) ?hd (xs := ([(⟨a2_0, a2_1, a2_2⟩ : S28)] : List (S28))) (inner := [.int .i64 a2_0, .int .i64 a2_1, .string a2_2]) (ok := fun _ => True) (okp := fun _ => True) ?hr ?hp (fun _ hk => hk) trivial (Below.refl _ _) (Nat.le_refl _) (by simp) ?_; (case hd => rfl); (case hg => rfl); (case hr => exact B14x13_); (case hp => exact B14x12_)
                  intro v587 w32 ho33 hb hg_ hnew_
                  clear hg_ hnew_
                  (first | rw [← Ny586.out] at ho33 | (simp only [Int.reduceToNat] at ho33; rw [← Ny586.out] at ho33))
                  have HO588 := Aside0.mk (Kd.R_lower (Kd.R_newB ho33 (g := gb571) (o := .cells #[.int .i64 a2_0, .int .i64 a2_1, .string a2_2] 28 (0, 0)) B14x2_) (below_size B14x0_))
                  replace BK570 := Aside0.mk (bb BK570.out hb)
                  replace BK571 := Aside0.mk (bb BK571.out hb)
                  replace BK572 := Aside0.mk (bb BK572.out hb)
                  replace BK592 := Aside0.mk (bb BK592.out hb)
                  replace HB := Aside0.mk (below_step B14x0_ hb)
                  clear hb ho33
                  refine hK.out _ _ ⟨(blk_cell BK570.out 0).trans rfl, (blk_cell BK570.out 1).trans rfl, (blk_cell BK570.out 2).trans rfl, (blk_cell BK571.out 0).trans rfl, (blk_cell BK571.out 1).trans rfl, (blk_cell BK571.out 2).trans rfl⟩ (fun hHeld => ?_)
                  clear hK K
                  refine norm_ (a' := ?_) ?_ ?_
                  rotate_left
                  ·show Act.put _ (some 39) _ = _
                   simp only [Act.put, List.setIfInBounds_toArray, List.set_cons_zero, List.set_cons_succ, i64_w, i32_w]
                   rfl
                  exact norm_ B14x3_ (hJ15_18 (v587, gb592) _ ⟨hHeld, B14x33_, B14x4_, B14x2_, B14x5_, B14x6_, GW592.out, GE592.out, NB570_592.out, NB592_570.out, NB571_592.out, NB592_571.out, NB572_592.out, NB592_572.out, B14x0_⟩)
               ·skip
                rintro v587 w32 ⟨hS_, h0_, h1_, h2_, h3_, h4_⟩
                have n0_ : Aside0 (Kd.R k28 28 w32 w.heap.size (fun k_ => k_ ≠ gb571) v587 y586) := ⟨h0_⟩
                have n1_ : Aside0 (w32.heap[gb570]? = some (.cells #[.int .i64 a0_0, .int .i64 a0_1, .slice A0_2 l0_2.length c0_2] 26 (0, 0))) := ⟨h1_⟩
                have n2_ : Aside0 (w32.heap[gb571]? = some (.cells #[.int .i64 a2_0, .int .i64 a2_1, .string a2_2] 28 (0, 0))) := ⟨h2_⟩
                have n3_ : Aside0 (w32.heap[gb572]? = some (.cells #[.int .i64 0, .int .i64 0, .slice none 0 0] 26 (0, 0))) := ⟨h3_⟩
                have n4_ : Aside0 (Below w.heap.size w w32) := ⟨h4_⟩
                clear BK570
                clear BK571
                clear BK572
                clear HB
                clear h0_ h1_ h2_ h3_ h4_
                have HO588 := n0_
                have BK570 := n1_
                have BK571 := n2_
                have BK572 := n3_
                have HB := n4_
                clear n0_ n1_ n2_ n3_ n4_
                have hHeld : w32.cell? ⟨gb570, 0, none⟩ = some (.int .i64 a0_0) ∧ w32.cell? ⟨gb570, 1, none⟩ = some (.int .i64 a0_1) ∧ w32.cell? ⟨gb570, 2, none⟩ = some (.slice A0_2 l0_2.length c0_2) ∧ w32.cell? ⟨gb571, 0, none⟩ = some (.int .i64 a2_0) ∧ w32.cell? ⟨gb571, 1, none⟩ = some (.int .i64 a2_1) ∧ w32.cell? ⟨gb571, 2, none⟩ = some (.string a2_2) := hS_
                refine norm_ (a' := ?_) ?_ ?_
                rotate_left
                ·simp only [putAll, Act.put, List.setIfInBounds_toArray, List.set_cons_zero, List.set_cons_succ]
                 rfl
                refine two_ (i := 4) (j := 18) (Ni := some 28) (Nj := some 8) #[true, true, true, true, true, true, true, true, true, true, true, true, true, false, true, true, false, false, false, false] #[true, true, true, true, false, true, true, true, true, true, true, true, true, false, true, true, false, false, true, false] rfl rfl rfl rfl (two_of HT_.out B14x20_) (by decide) (by decide) (fun K hK => ?_) (fun K hK => ?_)
                ·skip
                 refine Kd.R_lit_step k28 _ 28 ?hg (N := 28) ?hd (xs := ([] : List (S28))) (inner := []) (ok := fun _ => True) (okp := fun _ => True) ?hr ?hp (fun _ hk => hk) trivial (Below.refl _ _) (Nat.le_refl _) (by simp) ?_; (case hd => rfl); (case hg => rfl); (case hr => exact B14x13_); (case hp => exact (Reps.none _ _))
                 intro v577 w33 ho34 hb hg_ hnew_
                 clear hg_ hnew_
                 (first | rw [← Ny576.out] at ho34 | (simp only [Int.reduceToNat] at ho34; rw [← Ny576.out] at ho34))
                 have HO578 := Aside0.mk (Kd.R_lower (Kd.R_newB (Kd.R_new' ho34 (Kd.R_lt B14x7_)) (g := gb571) (o := .cells #[.int .i64 a2_0, .int .i64 a2_1, .string a2_2] 28 (0, 0)) B14x2_) (below_size B14x1_))
                 replace HO588 := Aside0.mk (Kd.R_elder' B14x7_ (Kd.R_base ho34) hb)
                 replace BK570 := Aside0.mk (bb BK570.out hb)
                 replace BK571 := Aside0.mk (bb BK571.out hb)
                 replace BK572 := Aside0.mk (bb BK572.out hb)
                 replace HB := Aside0.mk (below_step B14x1_ hb)
                 clear hb ho34
                 refine hK.out _ _ ⟨(blk_cell BK570.out 0).trans rfl, (blk_cell BK570.out 1).trans rfl, (blk_cell BK570.out 2).trans rfl, (blk_cell BK571.out 0).trans rfl, (blk_cell BK571.out 1).trans rfl, (blk_cell BK571.out 2).trans rfl⟩ (fun hHeld => ?_)
                 clear hK K
                 refine norm_ (a' := ?_) ?_ ?_
                 rotate_left
                 ·show Act.put _ (some 28) _ = _
                  simp only [Act.put, List.setIfInBounds_toArray, List.set_cons_zero, List.set_cons_succ, i64_w, i32_w]
                  rfl
                 exact norm_ B14x3_ (hJ4_15 (v577, v587) _ ⟨hHeld, B14x29_, B14x9_, B14x4_, B14x2_, B14x5_, B14x1_⟩)
                ·skip
                 refine box_step ?hg (N := 8) ?hd (cs := #[.int .i64 0, .int .i64 0, .slice none 0 0]) (t := 26) ?hr ?_; (case hd => rfl); (case hg => rfl); (case hr => exact B14x13_)
                 intro gb592 hg w33 hbox hb
                 replace HO588 := Aside0.mk (Kd.R_below B14x7_ hb)
                 have BK592 := Aside0.mk (hbox)
                 have GW592 := Aside0.mk ((bs hg (below_size HB.out)))
                 have GE592 := Aside0.mk ((bs hg (below_size HB.out)))
                 replace HB := Aside0.mk (below_step B14x1_ hb)
                 have NB570_592 := Aside0.mk ((nl hg (blk_lt BK570.out)))
                 have NB592_570 := Aside0.mk ((ng hg (blk_lt BK570.out)))
                 replace BK570 := Aside0.mk (bb BK570.out hb)
                 have NB571_592 := Aside0.mk ((nl hg (blk_lt BK571.out)))
                 have NB592_571 := Aside0.mk ((ng hg (blk_lt BK571.out)))
                 replace BK571 := Aside0.mk (bb BK571.out hb)
                 have NB572_592 := Aside0.mk ((nl hg (blk_lt BK572.out)))
                 have NB592_572 := Aside0.mk ((ng hg (blk_lt BK572.out)))
                 replace BK572 := Aside0.mk (bb BK572.out hb)
                 clear hb hbox hg
                 refine hK.out _ _ ⟨(blk_cell BK570.out 0).trans rfl, (blk_cell BK570.out 1).trans rfl, (blk_cell BK570.out 2).trans rfl, (blk_cell BK571.out 0).trans rfl, (blk_cell BK571.out 1).trans rfl, (blk_cell BK571.out 2).trans rfl⟩ (fun hHeld => ?_)
                 clear hK K
                 refine norm_ (a' := ?_) ?_ ?_
                 rotate_left
                 ·show Act.put _ (some 8) _ = _
                  simp only [Act.put, List.setIfInBounds_toArray, List.set_cons_zero, List.set_cons_succ, i64_w, i32_w]
                  rfl
                 exact norm_ B14x3_ (hJ15_18 (v587, gb592) _ ⟨hHeld, B14x7_, B14x4_, B14x2_, B14x5_, B14x6_, GW592.out, GE592.out, NB570_592.out, NB592_570.out, NB571_592.out, NB592_571.out, NB572_592.out, NB592_572.out, B14x0_⟩)
              ·skip
               rintro v577 w32 ⟨hS_, h0_, h1_, h2_, h3_, h4_⟩
               have n0_ : Aside0 (Kd.R k28 28 w32 w.heap.size (fun k_ => k_ ≠ gb571) v577 y576) := ⟨h0_⟩
               have n1_ : Aside0 (w32.heap[gb570]? = some (.cells #[.int .i64 a0_0, .int .i64 a0_1, .slice A0_2 l0_2.length c0_2] 26 (0, 0))) := ⟨h1_⟩
               have n2_ : Aside0 (w32.heap[gb571]? = some (.cells #[.int .i64 a2_0, .int .i64 a2_1, .string a2_2] 28 (0, 0))) := ⟨h2_⟩
               have n3_ : Aside0 (w32.heap[gb572]? = some (.cells #[.int .i64 0, .int .i64 0, .slice none 0 0] 26 (0, 0))) := ⟨h3_⟩
               have n4_ : Aside0 (Below w.heap.size w w32) := ⟨h4_⟩
               clear BK570
               clear BK571
               clear BK572
               clear HB
               clear h0_ h1_ h2_ h3_ h4_
               have HO578 := n0_
               have BK570 := n1_
               have BK571 := n2_
               have BK572 := n3_
               have HB := n4_
               clear n0_ n1_ n2_ n3_ n4_
               have hHeld : w32.cell? ⟨gb570, 0, none⟩ = some (.int .i64 a0_0) ∧ w32.cell? ⟨gb570, 1, none⟩ = some (.int .i64 a0_1) ∧ w32.cell? ⟨gb570, 2, none⟩ = some (.slice A0_2 l0_2.length c0_2) ∧ w32.cell? ⟨gb571, 0, none⟩ = some (.int .i64 a2_0) ∧ w32.cell? ⟨gb571, 1, none⟩ = some (.int .i64 a2_1) ∧ w32.cell? ⟨gb571, 2, none⟩ = some (.string a2_2) := hS_
               refine norm_ (a' := ?_) ?_ ?_
               rotate_left
               ·simp only [putAll, Act.put, List.setIfInBounds_toArray, List.set_cons_zero, List.set_cons_succ]
                rfl
               refine three_ (i := 13) (j := 15) (k := 18) (Ni := some 37) (Nj := some 39) (Nk := some 8) #[true, true, true, true, true, true, true, true, true, true, true, true, true, true, true, false, false, false, false, false] #[true, true, true, true, true, true, true, true, true, true, true, true, true, false, true, true, false, false, false, false] #[true, true, true, true, true, true, true, true, true, true, true, true, true, false, true, false, false, false, true, false] rfl rfl rfl rfl rfl rfl (three_of HT_.out B14x20_) (by decide) (by decide) (by decide) (fun K hK => ?_) (fun K hK => ?_) (fun K hK => ?_)
               ·skip
                refine Kd.R_append_rows_step k28 (w0 := w) w.heap.size (by rfl) (.tmp 28) (.tmp 36) 24 28 (.agg #[(.int .i64 0), (.int .i64 0), (.string ⟨#[]⟩)]) 32 rfl Try.underlying24 info28 rfl (by decide) (by omega) v577 y576 y579 _ _ _ (fun k_ => k_ ≠ gb571) (fun _ => False) rfl rfl ?aO ?aR (fun _ _ h => h) (fun _ h => h.elim) ?aF ?aB ?aS ?aL ?_
                (case aR => exact B14x16_)
                (case aB => exact B14x1_)
                (case aF => exact B14x34_)
                (case aO => exact B14x11_)
                (case aS => exact B14x36_)
                (case aL => have := LMc24.out; omega)
                intro v584 w33 ho hb hg hat
                rw [← Ny583.out] at ho
                replace BK570 := Aside0.mk (blk_grown (g := gb570) (o := .cells #[.int .i64 a0_0, .int .i64 a0_1, .slice A0_2 l0_2.length c0_2] 26 (0, 0)) B14x4_ hg (Kd.R_ne HO578.out BK570.out (by decide)))
                replace BK571 := Aside0.mk (blk_grown (g := gb571) (o := .cells #[.int .i64 a2_0, .int .i64 a2_1, .string a2_2] 28 (0, 0)) B14x2_ hg (Kd.R_away HO578.out (fun _ hk => hk)))
                replace BK572 := Aside0.mk (blk_grown (g := gb572) (o := .cells #[.int .i64 0, .int .i64 0, .slice none 0 0] 26 (0, 0)) B14x5_ hg (Kd.R_ne HO578.out BK572.out (by decide)))
                replace HB := Aside0.mk (hb)
                have HO585 := Aside0.mk (ho)
                clear HO578
                clear ho hb hg hat
                refine hK.out _ _ ⟨(blk_cell BK570.out 0).trans rfl, (blk_cell BK570.out 1).trans rfl, (blk_cell BK570.out 2).trans rfl, (blk_cell BK571.out 0).trans rfl, (blk_cell BK571.out 1).trans rfl, (blk_cell BK571.out 2).trans rfl⟩ (fun hHeld => ?_)
                clear hK K
                refine norm_ (a' := ?_) ?_ ?_
                rotate_left
                ·show Act.put _ (some 37) _ = _
                 simp only [Act.put, List.setIfInBounds_toArray, List.set_cons_zero, List.set_cons_succ, i64_w, i32_w]
                 rfl
                exact norm_ B14x3_ (hJ4_13 (v577, v584) _ ⟨hHeld, B14x8_, B14x4_, B14x2_, B14x5_, B14x1_⟩)
               ·skip
                refine Kd.R_lit_step k28 _ 28 ?hg (N := 39) ?hd (xs := ([(⟨a2_0, a2_1, a2_2⟩ : S28)] : List (S28))) (inner := [.int .i64 a2_0, .int .i64 a2_1, .string a2_2]) (ok := fun _ => True) (okp := fun _ => True) ?hr ?hp (fun _ hk => hk) trivial (Below.refl _ _) (Nat.le_refl _) (by simp) ?_; (case hd => rfl); (case hg => rfl); (case hr => exact B14x13_); (case hp => exact B14x12_)
                intro v587 w33 ho34 hb hg_ hnew_
                clear hg_ hnew_
                (first | rw [← Ny586.out] at ho34 | (simp only [Int.reduceToNat] at ho34; rw [← Ny586.out] at ho34))
                have HO588 := Aside0.mk (Kd.R_lower (Kd.R_newB (Kd.R_new' ho34 (Kd.R_lt B14x11_)) (g := gb571) (o := .cells #[.int .i64 a2_0, .int .i64 a2_1, .string a2_2] 28 (0, 0)) B14x2_) (below_size B14x1_))
                replace HO578 := Aside0.mk (Kd.R_elder' B14x11_ (Kd.R_base ho34) hb)
                replace BK570 := Aside0.mk (bb BK570.out hb)
                replace BK571 := Aside0.mk (bb BK571.out hb)
                replace BK572 := Aside0.mk (bb BK572.out hb)
                replace HB := Aside0.mk (below_step B14x1_ hb)
                clear hb ho34
                refine hK.out _ _ ⟨(blk_cell BK570.out 0).trans rfl, (blk_cell BK570.out 1).trans rfl, (blk_cell BK570.out 2).trans rfl, (blk_cell BK571.out 0).trans rfl, (blk_cell BK571.out 1).trans rfl, (blk_cell BK571.out 2).trans rfl⟩ (fun hHeld => ?_)
                clear hK K
                refine norm_ (a' := ?_) ?_ ?_
                rotate_left
                ·show Act.put _ (some 39) _ = _
                 simp only [Act.put, List.setIfInBounds_toArray, List.set_cons_zero, List.set_cons_succ, i64_w, i32_w]
                 rfl
                exact norm_ B14x3_ (hJ4_15 (v577, v587) _ ⟨hHeld, B14x30_, B14x18_, B14x4_, B14x2_, B14x5_, B14x1_⟩)
               ·skip
                refine box_step ?hg (N := 8) ?hd (cs := #[.int .i64 0, .int .i64 0, .slice none 0 0]) (t := 26) ?hr ?_; (case hd => rfl); (case hg => rfl); (case hr => exact B14x13_)
                intro gb592 hg w33 hbox hb
                replace HO578 := Aside0.mk (Kd.R_below B14x11_ hb)
                have BK592 := Aside0.mk (hbox)
                have GW592 := Aside0.mk ((bs hg (below_size HB.out)))
                have GE592 := Aside0.mk ((bs hg (below_size HB.out)))
                replace HB := Aside0.mk (below_step B14x1_ hb)
                have NB570_592 := Aside0.mk ((nl hg (blk_lt BK570.out)))
                have NB592_570 := Aside0.mk ((ng hg (blk_lt BK570.out)))
                replace BK570 := Aside0.mk (bb BK570.out hb)
                have NB571_592 := Aside0.mk ((nl hg (blk_lt BK571.out)))
                have NB592_571 := Aside0.mk ((ng hg (blk_lt BK571.out)))
                replace BK571 := Aside0.mk (bb BK571.out hb)
                have NB572_592 := Aside0.mk ((nl hg (blk_lt BK572.out)))
                have NB592_572 := Aside0.mk ((ng hg (blk_lt BK572.out)))
                replace BK572 := Aside0.mk (bb BK572.out hb)
                clear hb hbox hg
                refine hK.out _ _ ⟨(blk_cell BK570.out 0).trans rfl, (blk_cell BK570.out 1).trans rfl, (blk_cell BK570.out 2).trans rfl, (blk_cell BK571.out 0).trans rfl, (blk_cell BK571.out 1).trans rfl, (blk_cell BK571.out 2).trans rfl⟩ (fun hHeld => ?_)
                clear hK K
                refine norm_ (a' := ?_) ?_ ?_
                rotate_left
                ·show Act.put _ (some 8) _ = _
                 simp only [Act.put, List.setIfInBounds_toArray, List.set_cons_zero, List.set_cons_succ, i64_w, i32_w]
                 rfl
                exact norm_ B14x3_ (hJ4_18 (v577, gb592) _ ⟨hHeld, B14x11_, B14x4_, B14x2_, B14x5_, B14x6_, GW592.out, GE592.out, NB570_592.out, NB592_570.out, NB571_592.out, NB592_571.out, NB572_592.out, NB592_572.out, B14x0_⟩)
             ·skip
              rintro ⟨v587, gb592⟩ w33 ⟨hS_, h0_, h1_, h2_, h3_, h4_, h5_, h6_, h7_, h8_, h9_, h10_, h11_, h12_, h13_⟩
              have n0_ : Aside0 (Kd.R k28 28 w33 w.heap.size (fun k_ => k_ ≠ gb571) v587 y586) := ⟨h0_⟩
              have n1_ : Aside0 (w33.heap[gb570]? = some (.cells #[.int .i64 a0_0, .int .i64 a0_1, .slice A0_2 l0_2.length c0_2] 26 (0, 0))) := ⟨h1_⟩
              have n2_ : Aside0 (w33.heap[gb571]? = some (.cells #[.int .i64 a2_0, .int .i64 a2_1, .string a2_2] 28 (0, 0))) := ⟨h2_⟩
              have n3_ : Aside0 (w33.heap[gb572]? = some (.cells #[.int .i64 0, .int .i64 0, .slice none 0 0] 26 (0, 0))) := ⟨h3_⟩
              have n4_ : Aside0 (w33.heap[gb592]? = some (.cells #[.int .i64 0, .int .i64 0, .slice none 0 0] 26 (0, 0))) := ⟨h4_⟩
              have n5_ : Aside0 (w.heap.size ≤ gb592) := ⟨h5_⟩
              have n6_ : Aside0 (w.heap.size ≤ gb592) := ⟨h6_⟩
              have n7_ : Aside0 (gb570 ≠ gb592) := ⟨h7_⟩
              have n8_ : Aside0 (gb592 ≠ gb570) := ⟨h8_⟩
              have n9_ : Aside0 (gb571 ≠ gb592) := ⟨h9_⟩
              have n10_ : Aside0 (gb592 ≠ gb571) := ⟨h10_⟩
              have n11_ : Aside0 (gb572 ≠ gb592) := ⟨h11_⟩
              have n12_ : Aside0 (gb592 ≠ gb572) := ⟨h12_⟩
              have n13_ : Aside0 (Below w.heap.size w w33) := ⟨h13_⟩
              clear BK570
              clear BK571
              clear BK572
              clear HB
              clear h0_ h1_ h2_ h3_ h4_ h5_ h6_ h7_ h8_ h9_ h10_ h11_ h12_ h13_
              have HO588 := n0_
              have BK570 := n1_
              have BK571 := n2_
              have BK572 := n3_
              have BK592 := n4_
              have GW592 := n5_
              have GE592 := n6_
              have NB570_592 := n7_
              have NB592_570 := n8_
              have NB571_592 := n9_
              have NB592_571 := n10_
              have NB572_592 := n11_
              have NB592_572 := n12_
              have HB := n13_
              clear n0_ n1_ n2_ n3_ n4_ n5_ n6_ n7_ n8_ n9_ n10_ n11_ n12_ n13_
              have hHeld : w33.cell? ⟨gb570, 0, none⟩ = some (.int .i64 a0_0) ∧ w33.cell? ⟨gb570, 1, none⟩ = some (.int .i64 a0_1) ∧ w33.cell? ⟨gb570, 2, none⟩ = some (.slice A0_2 l0_2.length c0_2) ∧ w33.cell? ⟨gb571, 0, none⟩ = some (.int .i64 a2_0) ∧ w33.cell? ⟨gb571, 1, none⟩ = some (.int .i64 a2_1) ∧ w33.cell? ⟨gb571, 2, none⟩ = some (.string a2_2) := hS_
              refine norm_ (a' := ?_) ?_ ?_
              rotate_left
              ·simp only [putAll, Act.put, List.setIfInBounds_toArray, List.set_cons_zero, List.set_cons_succ]
               rfl
              refine one_ (i := 4) (N := some 28) #[true, true, true, true, true, true, true, true, true, true, true, true, true, false, true, true, false, false, true, false] rfl rfl (one_of HT_.out B14x20_) (by decide) (fun K hK => ?_)
              refine Kd.R_lit_step k28 _ 28 ?hg (N := 28) ?hd (xs := ([] : List (S28))) (inner := []) (ok := fun _ => True) (okp := fun _ => True) ?hr ?hp (fun _ hk => hk) trivial (Below.refl _ _) (Nat.le_refl _) (by simp) ?_; (case hd => rfl); (case hg => rfl); (case hr => exact B14x13_); (case hp => exact (Reps.none _ _))
              intro v577 w34 ho35 hb hg_ hnew_
              clear hg_ hnew_
              (first | rw [← Ny576.out] at ho35 | (simp only [Int.reduceToNat] at ho35; rw [← Ny576.out] at ho35))
              have HO578 := Aside0.mk (Kd.R_lower (Kd.R_newB (Kd.R_new' ho35 (Kd.R_lt B14x7_)) (g := gb571) (o := .cells #[.int .i64 a2_0, .int .i64 a2_1, .string a2_2] 28 (0, 0)) B14x2_) (below_size B14x0_))
              replace HO588 := Aside0.mk (Kd.R_elder' B14x7_ (Kd.R_base ho35) hb)
              replace BK570 := Aside0.mk (bb BK570.out hb)
              replace BK571 := Aside0.mk (bb BK571.out hb)
              replace BK572 := Aside0.mk (bb BK572.out hb)
              replace BK592 := Aside0.mk (bb BK592.out hb)
              replace HB := Aside0.mk (below_step B14x0_ hb)
              clear hb ho35
              refine hK.out _ _ ⟨(blk_cell BK570.out 0).trans rfl, (blk_cell BK570.out 1).trans rfl, (blk_cell BK570.out 2).trans rfl, (blk_cell BK571.out 0).trans rfl, (blk_cell BK571.out 1).trans rfl, (blk_cell BK571.out 2).trans rfl⟩ (fun hHeld => ?_)
              clear hK K
              refine norm_ (a' := ?_) ?_ ?_
              rotate_left
              ·show Act.put _ (some 28) _ = _
               simp only [Act.put, List.setIfInBounds_toArray, List.set_cons_zero, List.set_cons_succ, i64_w, i32_w]
               rfl
              exact norm_ B14x3_ (hJ4_15_18 (v577, v587, gb592) _ ⟨hHeld, B14x29_, B14x9_, B14x4_, B14x2_, B14x5_, B14x6_, GW592.out, GE592.out, NB570_592.out, NB592_570.out, NB571_592.out, NB592_571.out, NB572_592.out, NB592_572.out, B14x0_⟩)
            ·skip
             rintro ⟨v577, gb592⟩ w33 ⟨hS_, h0_, h1_, h2_, h3_, h4_, h5_, h6_, h7_, h8_, h9_, h10_, h11_, h12_, h13_⟩
             have n0_ : Aside0 (Kd.R k28 28 w33 w.heap.size (fun k_ => k_ ≠ gb571) v577 y576) := ⟨h0_⟩
             have n1_ : Aside0 (w33.heap[gb570]? = some (.cells #[.int .i64 a0_0, .int .i64 a0_1, .slice A0_2 l0_2.length c0_2] 26 (0, 0))) := ⟨h1_⟩
             have n2_ : Aside0 (w33.heap[gb571]? = some (.cells #[.int .i64 a2_0, .int .i64 a2_1, .string a2_2] 28 (0, 0))) := ⟨h2_⟩
             have n3_ : Aside0 (w33.heap[gb572]? = some (.cells #[.int .i64 0, .int .i64 0, .slice none 0 0] 26 (0, 0))) := ⟨h3_⟩
             have n4_ : Aside0 (w33.heap[gb592]? = some (.cells #[.int .i64 0, .int .i64 0, .slice none 0 0] 26 (0, 0))) := ⟨h4_⟩
             have n5_ : Aside0 (w.heap.size ≤ gb592) := ⟨h5_⟩
             have n6_ : Aside0 (w.heap.size ≤ gb592) := ⟨h6_⟩
             have n7_ : Aside0 (gb570 ≠ gb592) := ⟨h7_⟩
             have n8_ : Aside0 (gb592 ≠ gb570) := ⟨h8_⟩
             have n9_ : Aside0 (gb571 ≠ gb592) := ⟨h9_⟩
             have n10_ : Aside0 (gb592 ≠ gb571) := ⟨h10_⟩
             have n11_ : Aside0 (gb572 ≠ gb592) := ⟨h11_⟩
             have n12_ : Aside0 (gb592 ≠ gb572) := ⟨h12_⟩
             have n13_ : Aside0 (Below w.heap.size w w33) := ⟨h13_⟩
             clear BK570
             clear BK571
             clear BK572
             clear HB
             clear h0_ h1_ h2_ h3_ h4_ h5_ h6_ h7_ h8_ h9_ h10_ h11_ h12_ h13_
             have HO578 := n0_
             have BK570 := n1_
             have BK571 := n2_
             have BK572 := n3_
             have BK592 := n4_
             have GW592 := n5_
             have GE592 := n6_
             have NB570_592 := n7_
             have NB592_570 := n8_
             have NB571_592 := n9_
             have NB592_571 := n10_
             have NB572_592 := n11_
             have NB592_572 := n12_
             have HB := n13_
             clear n0_ n1_ n2_ n3_ n4_ n5_ n6_ n7_ n8_ n9_ n10_ n11_ n12_ n13_
             have hHeld : w33.cell? ⟨gb570, 0, none⟩ = some (.int .i64 a0_0) ∧ w33.cell? ⟨gb570, 1, none⟩ = some (.int .i64 a0_1) ∧ w33.cell? ⟨gb570, 2, none⟩ = some (.slice A0_2 l0_2.length c0_2) ∧ w33.cell? ⟨gb571, 0, none⟩ = some (.int .i64 a2_0) ∧ w33.cell? ⟨gb571, 1, none⟩ = some (.int .i64 a2_1) ∧ w33.cell? ⟨gb571, 2, none⟩ = some (.string a2_2) := hS_
             refine norm_ (a' := ?_) ?_ ?_
             rotate_left
             ·simp only [putAll, Act.put, List.setIfInBounds_toArray, List.set_cons_zero, List.set_cons_succ]
              rfl
             refine two_ (i := 13) (j := 15) (Ni := some 37) (Nj := some 39) #[true, true, true, true, true, true, true, true, true, true, true, true, true, true, true, false, false, false, true, false] #[true, true, true, true, true, true, true, true, true, true, true, true, true, false, true, true, false, false, true, false] rfl rfl rfl rfl (two_of HT_.out B14x20_) (by decide) (by decide) (fun K hK => ?_) (fun K hK => ?_)
             ·skip
              refine Kd.R_append_rows_step k28 (w0 := w) w.heap.size (by rfl) (.tmp 28) (.tmp 36) 24 28 (.agg #[(.int .i64 0), (.int .i64 0), (.string ⟨#[]⟩)]) 32 rfl Try.underlying24 info28 rfl (by decide) (by omega) v577 y576 y579 _ _ _ (fun k_ => k_ ≠ gb571) (fun _ => False) rfl rfl ?aO ?aR (fun _ _ h => h) (fun _ h => h.elim) ?aF ?aB ?aS ?aL ?_
              (case aR => exact B14x16_)
              (case aB => exact B14x0_)
              (case aF => exact B14x34_)
              (case aO => exact B14x11_)
              (case aS => exact B14x35_)
              (case aL => have := LMc24.out; omega)
              intro v584 w34 ho hb hg hat
              rw [← Ny583.out] at ho
              replace BK570 := Aside0.mk (blk_grown (g := gb570) (o := .cells #[.int .i64 a0_0, .int .i64 a0_1, .slice A0_2 l0_2.length c0_2] 26 (0, 0)) B14x4_ hg (Kd.R_ne HO578.out BK570.out (by decide)))
              replace BK571 := Aside0.mk (blk_grown (g := gb571) (o := .cells #[.int .i64 a2_0, .int .i64 a2_1, .string a2_2] 28 (0, 0)) B14x2_ hg (Kd.R_away HO578.out (fun _ hk => hk)))
              replace BK572 := Aside0.mk (blk_grown (g := gb572) (o := .cells #[.int .i64 0, .int .i64 0, .slice none 0 0] 26 (0, 0)) B14x5_ hg (Kd.R_ne HO578.out BK572.out (by decide)))
              replace BK592 := Aside0.mk (blk_grown (g := gb592) (o := .cells #[.int .i64 0, .int .i64 0, .slice none 0 0] 26 (0, 0)) B14x6_ hg (Kd.R_ne HO578.out BK592.out (by decide)))
              replace HB := Aside0.mk (hb)
              have HO585 := Aside0.mk (ho)
              clear HO578
              clear ho hb hg hat
              refine hK.out _ _ ⟨(blk_cell BK570.out 0).trans rfl, (blk_cell BK570.out 1).trans rfl, (blk_cell BK570.out 2).trans rfl, (blk_cell BK571.out 0).trans rfl, (blk_cell BK571.out 1).trans rfl, (blk_cell BK571.out 2).trans rfl⟩ (fun hHeld => ?_)
              clear hK K
              refine norm_ (a' := ?_) ?_ ?_
              rotate_left
              ·show Act.put _ (some 37) _ = _
               simp only [Act.put, List.setIfInBounds_toArray, List.set_cons_zero, List.set_cons_succ, i64_w, i32_w]
               rfl
              exact norm_ B14x3_ (hJ4_13_18 (v577, v584, gb592) _ ⟨hHeld, B14x8_, B14x4_, B14x2_, B14x5_, B14x6_, GW592.out, GE592.out, NB570_592.out, NB592_570.out, NB571_592.out, NB592_571.out, NB572_592.out, NB592_572.out, B14x0_⟩)
             ·skip
              refine Kd.R_lit_step k28 _ 28 ?hg (N := 39) ?hd (xs := ([(⟨a2_0, a2_1, a2_2⟩ : S28)] : List (S28))) (inner := [.int .i64 a2_0, .int .i64 a2_1, .string a2_2]) (ok := fun _ => True) (okp := fun _ => True) ?hr ?hp (fun _ hk => hk) trivial (Below.refl _ _) (Nat.le_refl _) (by simp) ?_; (case hd => rfl); (case hg => rfl); (case hr => exact B14x13_); (case hp => exact B14x12_)
              intro v587 w34 ho35 hb hg_ hnew_
              clear hg_ hnew_
              (first | rw [← Ny586.out] at ho35 | (simp only [Int.reduceToNat] at ho35; rw [← Ny586.out] at ho35))
              have HO588 := Aside0.mk (Kd.R_lower (Kd.R_newB (Kd.R_new' ho35 (Kd.R_lt B14x11_)) (g := gb571) (o := .cells #[.int .i64 a2_0, .int .i64 a2_1, .string a2_2] 28 (0, 0)) B14x2_) (below_size B14x0_))
              replace HO578 := Aside0.mk (Kd.R_elder' B14x11_ (Kd.R_base ho35) hb)
              replace BK570 := Aside0.mk (bb BK570.out hb)
              replace BK571 := Aside0.mk (bb BK571.out hb)
              replace BK572 := Aside0.mk (bb BK572.out hb)
              replace BK592 := Aside0.mk (bb BK592.out hb)
              replace HB := Aside0.mk (below_step B14x0_ hb)
              clear hb ho35
              refine hK.out _ _ ⟨(blk_cell BK570.out 0).trans rfl, (blk_cell BK570.out 1).trans rfl, (blk_cell BK570.out 2).trans rfl, (blk_cell BK571.out 0).trans rfl, (blk_cell BK571.out 1).trans rfl, (blk_cell BK571.out 2).trans rfl⟩ (fun hHeld => ?_)
              clear hK K
              refine norm_ (a' := ?_) ?_ ?_
              rotate_left
              ·show Act.put _ (some 39) _ = _
               simp only [Act.put, List.setIfInBounds_toArray, List.set_cons_zero, List.set_cons_succ, i64_w, i32_w]
               rfl
              exact norm_ B14x3_ (hJ4_15_18 (v577, v587, gb592) _ ⟨hHeld, B14x30_, B14x18_, B14x4_, B14x2_, B14x5_, B14x6_, GW592.out, GE592.out, NB570_592.out, NB592_570.out, NB571_592.out, NB592_571.out, NB572_592.out, NB592_572.out, B14x0_⟩)
           ·skip
            rintro ⟨v577, v587⟩ w34 ⟨hS_, h0_, h1_, h2_, h3_, h4_, h5_⟩
            have n0_ : Aside0 (Kd.R k28 28 w34 w.heap.size (fun k_ => some k_ ≠ (v587 : Value).ownBlock ∧ k_ ≠ gb571) v577 y576) := ⟨h0_⟩
            have n1_ : Aside0 (Kd.R k28 28 w34 w.heap.size (fun k_ => some k_ ≠ (v577 : Value).ownBlock ∧ k_ ≠ gb571) v587 y586) := ⟨h1_⟩
            have n2_ : Aside0 (w34.heap[gb570]? = some (.cells #[.int .i64 a0_0, .int .i64 a0_1, .slice A0_2 l0_2.length c0_2] 26 (0, 0))) := ⟨h2_⟩
            have n3_ : Aside0 (w34.heap[gb571]? = some (.cells #[.int .i64 a2_0, .int .i64 a2_1, .string a2_2] 28 (0, 0))) := ⟨h3_⟩
            have n4_ : Aside0 (w34.heap[gb572]? = some (.cells #[.int .i64 0, .int .i64 0, .slice none 0 0] 26 (0, 0))) := ⟨h4_⟩
            have n5_ : Aside0 (Below w.heap.size w w34) := ⟨h5_⟩
            clear BK570
            clear BK571
            clear BK572
            clear HB
            clear h0_ h1_ h2_ h3_ h4_ h5_
            have HO578 := n0_
            have HO588 := n1_
            have BK570 := n2_
            have BK571 := n3_
            have BK572 := n4_
            have HB := n5_
            clear n0_ n1_ n2_ n3_ n4_ n5_
            have hHeld : w34.cell? ⟨gb570, 0, none⟩ = some (.int .i64 a0_0) ∧ w34.cell? ⟨gb570, 1, none⟩ = some (.int .i64 a0_1) ∧ w34.cell? ⟨gb570, 2, none⟩ = some (.slice A0_2 l0_2.length c0_2) ∧ w34.cell? ⟨gb571, 0, none⟩ = some (.int .i64 a2_0) ∧ w34.cell? ⟨gb571, 1, none⟩ = some (.int .i64 a2_1) ∧ w34.cell? ⟨gb571, 2, none⟩ = some (.string a2_2) := hS_
            refine norm_ (a' := ?_) ?_ ?_
            rotate_left
            ·simp only [putAll, Act.put, List.setIfInBounds_toArray, List.set_cons_zero, List.set_cons_succ]
             rfl
            refine two_ (i := 13) (j := 18) (Ni := some 37) (Nj := some 8) #[true, true, true, true, true, true, true, true, true, true, true, true, true, true, true, true, false, false, false, false] #[true, true, true, true, true, true, true, true, true, true, true, true, true, false, true, true, false, false, true, false] rfl rfl rfl rfl (two_of HT_.out B14x20_) (by decide) (by decide) (fun K hK => ?_) (fun K hK => ?_)
            ·skip
             refine Kd.R_append_rows_step k28 (w0 := w) w.heap.size (by rfl) (.tmp 28) (.tmp 36) 24 28 (.agg #[(.int .i64 0), (.int .i64 0), (.string ⟨#[]⟩)]) 32 rfl Try.underlying24 info28 rfl (by decide) (by omega) v577 y576 y579 _ _ _ (fun k_ => some k_ ≠ (v587 : Value).ownBlock ∧ k_ ≠ gb571) (fun _ => False) rfl rfl ?aO ?aR (fun _ _ h => h) (fun _ h => h.elim) ?aF ?aB ?aS ?aL ?_
             (case aR => exact B14x16_)
             (case aB => exact B14x1_)
             (case aF => exact B14x17_)
             (case aO => exact B14x11_)
             (case aS => exact B14x36_)
             (case aL => have := LMc24.out; omega)
             intro v584 w35 ho hb hg hat
             rw [← Ny583.out] at ho
             replace BK570 := Aside0.mk (blk_grown (g := gb570) (o := .cells #[.int .i64 a0_0, .int .i64 a0_1, .slice A0_2 l0_2.length c0_2] 26 (0, 0)) B14x4_ hg (Kd.R_ne HO578.out BK570.out (by decide)))
             replace BK571 := Aside0.mk (blk_grown (g := gb571) (o := .cells #[.int .i64 a2_0, .int .i64 a2_1, .string a2_2] 28 (0, 0)) B14x2_ hg (Kd.R_away HO578.out (fun _ hk => hk.2)))
             replace BK572 := Aside0.mk (blk_grown (g := gb572) (o := .cells #[.int .i64 0, .int .i64 0, .slice none 0 0] 26 (0, 0)) B14x5_ hg (Kd.R_ne HO578.out BK572.out (by decide)))
             replace HO588 := Aside0.mk (Kd.R_after (ok := (fun k_ => k_ ≠ gb571)) B14x9_ hg hat)
             replace HB := Aside0.mk (hb)
             have HO585 := Aside0.mk (ho)
             clear HO578
             clear ho hb hg hat
             refine hK.out _ _ ⟨(blk_cell BK570.out 0).trans rfl, (blk_cell BK570.out 1).trans rfl, (blk_cell BK570.out 2).trans rfl, (blk_cell BK571.out 0).trans rfl, (blk_cell BK571.out 1).trans rfl, (blk_cell BK571.out 2).trans rfl⟩ (fun hHeld => ?_)
             clear hK K
             refine norm_ (a' := ?_) ?_ ?_
             rotate_left
             ·show Act.put _ (some 37) _ = _
              simp only [Act.put, List.setIfInBounds_toArray, List.set_cons_zero, List.set_cons_succ, i64_w, i32_w]
              rfl
             exact norm_ B14x3_ (hJ4_13_15 (v577, v584, v587) _ ⟨hHeld, B14x8_, B14x9_, B14x4_, B14x2_, B14x5_, B14x1_⟩)
            ·skip
             refine box_step ?hg (N := 8) ?hd (cs := #[.int .i64 0, .int .i64 0, .slice none 0 0]) (t := 26) ?hr ?_; (case hd => rfl); (case hg => rfl); (case hr => exact B14x13_)
             intro gb592 hg w35 hbox hb
             replace HO578 := Aside0.mk (Kd.R_below B14x11_ hb)
             replace HO588 := Aside0.mk (Kd.R_below B14x7_ hb)
             have BK592 := Aside0.mk (hbox)
             have GW592 := Aside0.mk ((bs hg (below_size HB.out)))
             have GE592 := Aside0.mk ((bs hg (below_size HB.out)))
             replace HB := Aside0.mk (below_step B14x1_ hb)
             have NB570_592 := Aside0.mk ((nl hg (blk_lt BK570.out)))
             have NB592_570 := Aside0.mk ((ng hg (blk_lt BK570.out)))
             replace BK570 := Aside0.mk (bb BK570.out hb)
             have NB571_592 := Aside0.mk ((nl hg (blk_lt BK571.out)))
             have NB592_571 := Aside0.mk ((ng hg (blk_lt BK571.out)))
             replace BK571 := Aside0.mk (bb BK571.out hb)
             have NB572_592 := Aside0.mk ((nl hg (blk_lt BK572.out)))
             have NB592_572 := Aside0.mk ((ng hg (blk_lt BK572.out)))
             replace BK572 := Aside0.mk (bb BK572.out hb)
             clear hb hbox hg
             refine hK.out _ _ ⟨(blk_cell BK570.out 0).trans rfl, (blk_cell BK570.out 1).trans rfl, (blk_cell BK570.out 2).trans rfl, (blk_cell BK571.out 0).trans rfl, (blk_cell BK571.out 1).trans rfl, (blk_cell BK571.out 2).trans rfl⟩ (fun hHeld => ?_)
             clear hK K
             refine norm_ (a' := ?_) ?_ ?_
             rotate_left
             ·show Act.put _ (some 8) _ = _
              simp only [Act.put, List.setIfInBounds_toArray, List.set_cons_zero, List.set_cons_succ, i64_w, i32_w]
              rfl
             exact norm_ B14x3_ (hJ4_15_18 (v577, v587, gb592) _ ⟨hHeld, B14x11_, B14x7_, B14x4_, B14x2_, B14x5_, B14x6_, GW592.out, GE592.out, NB570_592.out, NB592_570.out, NB571_592.out, NB592_571.out, NB572_592.out, NB592_572.out, B14x0_⟩)
          ·skip
           rintro ⟨v577, v584⟩ w33 ⟨hS_, h0_, h1_, h2_, h3_, h4_⟩
           have n0_ : Aside0 (Kd.R k28 28 w33 w.heap.size (fun k_ => k_ ≠ gb571) v584 y583) := ⟨h0_⟩
           have n1_ : Aside0 (w33.heap[gb570]? = some (.cells #[.int .i64 a0_0, .int .i64 a0_1, .slice A0_2 l0_2.length c0_2] 26 (0, 0))) := ⟨h1_⟩
           have n2_ : Aside0 (w33.heap[gb571]? = some (.cells #[.int .i64 a2_0, .int .i64 a2_1, .string a2_2] 28 (0, 0))) := ⟨h2_⟩
           have n3_ : Aside0 (w33.heap[gb572]? = some (.cells #[.int .i64 0, .int .i64 0, .slice none 0 0] 26 (0, 0))) := ⟨h3_⟩
           have n4_ : Aside0 (Below w.heap.size w w33) := ⟨h4_⟩
           clear BK570
           clear BK571
           clear BK572
           clear HB
           clear h0_ h1_ h2_ h3_ h4_
           have HO585 := n0_
           have BK570 := n1_
           have BK571 := n2_
           have BK572 := n3_
           have HB := n4_
           clear n0_ n1_ n2_ n3_ n4_
           have hHeld : w33.cell? ⟨gb570, 0, none⟩ = some (.int .i64 a0_0) ∧ w33.cell? ⟨gb570, 1, none⟩ = some (.int .i64 a0_1) ∧ w33.cell? ⟨gb570, 2, none⟩ = some (.slice A0_2 l0_2.length c0_2) ∧ w33.cell? ⟨gb571, 0, none⟩ = some (.int .i64 a2_0) ∧ w33.cell? ⟨gb571, 1, none⟩ = some (.int .i64 a2_1) ∧ w33.cell? ⟨gb571, 2, none⟩ = some (.string a2_2) := hS_
           refine norm_ (a' := ?_) ?_ ?_
           rotate_left
           ·simp only [putAll, Act.put, List.setIfInBounds_toArray, List.set_cons_zero, List.set_cons_succ]
            rfl
           refine two_ (i := 15) (j := 18) (Ni := some 39) (Nj := some 8) #[true, true, true, true, true, true, true, true, true, true, true, true, true, true, true, true, false, false, false, false] #[true, true, true, true, true, true, true, true, true, true, true, true, true, true, true, false, false, false, true, false] rfl rfl rfl rfl (two_of HT_.out B14x20_) (by decide) (by decide) (fun K hK => ?_) (fun K hK => ?_)
           ·skip
            refine Kd.R_lit_step k28 _ 28 ?hg (N := 39) ?hd (xs := ([(⟨a2_0, a2_1, a2_2⟩ : S28)] : List (S28))) (inner := [.int .i64 a2_0, .int .i64 a2_1, .string a2_2]) (ok := fun _ => True) (okp := fun _ => True) ?hr ?hp (fun _ hk => hk) trivial (Below.refl _ _) (Nat.le_refl _) (by simp) ?_; (case hd => rfl); (case hg => rfl); (case hr => exact B14x13_); (case hp => exact B14x12_)
            intro v587 w34 ho35 hb hg_ hnew_
            clear hg_ hnew_
            (first | rw [← Ny586.out] at ho35 | (simp only [Int.reduceToNat] at ho35; rw [← Ny586.out] at ho35))
            have HO588 := Aside0.mk (Kd.R_lower (Kd.R_newB (Kd.R_new' ho35 (Kd.R_lt B14x8_)) (g := gb571) (o := .cells #[.int .i64 a2_0, .int .i64 a2_1, .string a2_2] 28 (0, 0)) B14x2_) (below_size B14x1_))
            replace HO585 := Aside0.mk (Kd.R_elder' B14x8_ (Kd.R_base ho35) hb)
            replace BK570 := Aside0.mk (bb BK570.out hb)
            replace BK571 := Aside0.mk (bb BK571.out hb)
            replace BK572 := Aside0.mk (bb BK572.out hb)
            replace HB := Aside0.mk (below_step B14x1_ hb)
            clear hb ho35
            refine hK.out _ _ ⟨(blk_cell BK570.out 0).trans rfl, (blk_cell BK570.out 1).trans rfl, (blk_cell BK570.out 2).trans rfl, (blk_cell BK571.out 0).trans rfl, (blk_cell BK571.out 1).trans rfl, (blk_cell BK571.out 2).trans rfl⟩ (fun hHeld => ?_)
            clear hK K
            refine norm_ (a' := ?_) ?_ ?_
            rotate_left
            ·show Act.put _ (some 39) _ = _
             simp only [Act.put, List.setIfInBounds_toArray, List.set_cons_zero, List.set_cons_succ, i64_w, i32_w]
             rfl
            exact norm_ B14x3_ (hJ4_13_15 (v577, v584, v587) _ ⟨hHeld, B14x31_, B14x18_, B14x4_, B14x2_, B14x5_, B14x1_⟩)
           ·skip
            refine box_step ?hg (N := 8) ?hd (cs := #[.int .i64 0, .int .i64 0, .slice none 0 0]) (t := 26) ?hr ?_; (case hd => rfl); (case hg => rfl); (case hr => exact B14x13_)
            intro gb592 hg w34 hbox hb
            replace HO585 := Aside0.mk (Kd.R_below B14x8_ hb)
            have BK592 := Aside0.mk (hbox)
            have GW592 := Aside0.mk ((bs hg (below_size HB.out)))
            have GE592 := Aside0.mk ((bs hg (below_size HB.out)))
            replace HB := Aside0.mk (below_step B14x1_ hb)
            have NB570_592 := Aside0.mk ((nl hg (blk_lt BK570.out)))
            have NB592_570 := Aside0.mk ((ng hg (blk_lt BK570.out)))
            replace BK570 := Aside0.mk (bb BK570.out hb)
            have NB571_592 := Aside0.mk ((nl hg (blk_lt BK571.out)))
            have NB592_571 := Aside0.mk ((ng hg (blk_lt BK571.out)))
            replace BK571 := Aside0.mk (bb BK571.out hb)
            have NB572_592 := Aside0.mk ((nl hg (blk_lt BK572.out)))
            have NB592_572 := Aside0.mk ((ng hg (blk_lt BK572.out)))
            replace BK572 := Aside0.mk (bb BK572.out hb)
            clear hb hbox hg
            refine hK.out _ _ ⟨(blk_cell BK570.out 0).trans rfl, (blk_cell BK570.out 1).trans rfl, (blk_cell BK570.out 2).trans rfl, (blk_cell BK571.out 0).trans rfl, (blk_cell BK571.out 1).trans rfl, (blk_cell BK571.out 2).trans rfl⟩ (fun hHeld => ?_)
            clear hK K
            refine norm_ (a' := ?_) ?_ ?_
            rotate_left
            ·show Act.put _ (some 8) _ = _
             simp only [Act.put, List.setIfInBounds_toArray, List.set_cons_zero, List.set_cons_succ, i64_w, i32_w]
             rfl
            exact norm_ B14x3_ (hJ4_13_18 (v577, v584, gb592) _ ⟨hHeld, B14x8_, B14x4_, B14x2_, B14x5_, B14x6_, GW592.out, GE592.out, NB570_592.out, NB592_570.out, NB571_592.out, NB592_571.out, NB572_592.out, NB592_572.out, B14x0_⟩)
         ·skip
          rintro ⟨v577, v587, gb592⟩ w35 ⟨hS_, h0_, h1_, h2_, h3_, h4_, h5_, h6_, h7_, h8_, h9_, h10_, h11_, h12_, h13_, h14_⟩
          have n0_ : Aside0 (Kd.R k28 28 w35 w.heap.size (fun k_ => some k_ ≠ (v587 : Value).ownBlock ∧ k_ ≠ gb571) v577 y576) := ⟨h0_⟩
          have n1_ : Aside0 (Kd.R k28 28 w35 w.heap.size (fun k_ => some k_ ≠ (v577 : Value).ownBlock ∧ k_ ≠ gb571) v587 y586) := ⟨h1_⟩
          have n2_ : Aside0 (w35.heap[gb570]? = some (.cells #[.int .i64 a0_0, .int .i64 a0_1, .slice A0_2 l0_2.length c0_2] 26 (0, 0))) := ⟨h2_⟩
          have n3_ : Aside0 (w35.heap[gb571]? = some (.cells #[.int .i64 a2_0, .int .i64 a2_1, .string a2_2] 28 (0, 0))) := ⟨h3_⟩
          have n4_ : Aside0 (w35.heap[gb572]? = some (.cells #[.int .i64 0, .int .i64 0, .slice none 0 0] 26 (0, 0))) := ⟨h4_⟩
          have n5_ : Aside0 (w35.heap[gb592]? = some (.cells #[.int .i64 0, .int .i64 0, .slice none 0 0] 26 (0, 0))) := ⟨h5_⟩
          have n6_ : Aside0 (w.heap.size ≤ gb592) := ⟨h6_⟩
          have n7_ : Aside0 (w.heap.size ≤ gb592) := ⟨h7_⟩
          have n8_ : Aside0 (gb570 ≠ gb592) := ⟨h8_⟩
          have n9_ : Aside0 (gb592 ≠ gb570) := ⟨h9_⟩
          have n10_ : Aside0 (gb571 ≠ gb592) := ⟨h10_⟩
          have n11_ : Aside0 (gb592 ≠ gb571) := ⟨h11_⟩
          have n12_ : Aside0 (gb572 ≠ gb592) := ⟨h12_⟩
          have n13_ : Aside0 (gb592 ≠ gb572) := ⟨h13_⟩
          have n14_ : Aside0 (Below w.heap.size w w35) := ⟨h14_⟩
          clear BK570
          clear BK571
          clear BK572
          clear HB
          clear h0_ h1_ h2_ h3_ h4_ h5_ h6_ h7_ h8_ h9_ h10_ h11_ h12_ h13_ h14_
          have HO578 := n0_
          have HO588 := n1_
          have BK570 := n2_
          have BK571 := n3_
          have BK572 := n4_
          have BK592 := n5_
          have GW592 := n6_
          have GE592 := n7_
          have NB570_592 := n8_
          have NB592_570 := n9_
          have NB571_592 := n10_
          have NB592_571 := n11_
          have NB572_592 := n12_
          have NB592_572 := n13_
          have HB := n14_
          clear n0_ n1_ n2_ n3_ n4_ n5_ n6_ n7_ n8_ n9_ n10_ n11_ n12_ n13_ n14_
          have hHeld : w35.cell? ⟨gb570, 0, none⟩ = some (.int .i64 a0_0) ∧ w35.cell? ⟨gb570, 1, none⟩ = some (.int .i64 a0_1) ∧ w35.cell? ⟨gb570, 2, none⟩ = some (.slice A0_2 l0_2.length c0_2) ∧ w35.cell? ⟨gb571, 0, none⟩ = some (.int .i64 a2_0) ∧ w35.cell? ⟨gb571, 1, none⟩ = some (.int .i64 a2_1) ∧ w35.cell? ⟨gb571, 2, none⟩ = some (.string a2_2) := hS_
          refine norm_ (a' := ?_) ?_ ?_
          rotate_left
          ·simp only [putAll, Act.put, List.setIfInBounds_toArray, List.set_cons_zero, List.set_cons_succ]
           rfl
          refine one_ (i := 13) (N := some 37) #[true, true, true, true, true, true, true, true, true, true, true, true, true, true, true, true, false, false, true, false] rfl rfl (one_of HT_.out B14x20_) (by decide) (fun K hK => ?_)
          refine Kd.R_append_rows_step k28 (w0 := w) w.heap.size (by rfl) (.tmp 28) (.tmp 36) 24 28 (.agg #[(.int .i64 0), (.int .i64 0), (.string ⟨#[]⟩)]) 32 rfl Try.underlying24 info28 rfl (by decide) (by omega) v577 y576 y579 _ _ _ (fun k_ => some k_ ≠ (v587 : Value).ownBlock ∧ k_ ≠ gb571) (fun _ => False) rfl rfl ?aO ?aR (fun _ _ h => h) (fun _ h => h.elim) ?aF ?aB ?aS ?aL ?_
          (case aR => exact B14x16_)
          (case aB => exact B14x0_)
          (case aF => exact B14x17_)
          (case aO => exact B14x11_)
          (case aS => exact B14x35_)
          (case aL => have := LMc24.out; omega)
          intro v584 w36 ho hb hg hat
          rw [← Ny583.out] at ho
          replace BK570 := Aside0.mk (blk_grown (g := gb570) (o := .cells #[.int .i64 a0_0, .int .i64 a0_1, .slice A0_2 l0_2.length c0_2] 26 (0, 0)) B14x4_ hg (Kd.R_ne HO578.out BK570.out (by decide)))
          replace BK571 := Aside0.mk (blk_grown (g := gb571) (o := .cells #[.int .i64 a2_0, .int .i64 a2_1, .string a2_2] 28 (0, 0)) B14x2_ hg (Kd.R_away HO578.out (fun _ hk => hk.2)))
          replace BK572 := Aside0.mk (blk_grown (g := gb572) (o := .cells #[.int .i64 0, .int .i64 0, .slice none 0 0] 26 (0, 0)) B14x5_ hg (Kd.R_ne HO578.out BK572.out (by decide)))
          replace HO588 := Aside0.mk (Kd.R_after (ok := (fun k_ => k_ ≠ gb571)) B14x9_ hg hat)
          replace BK592 := Aside0.mk (blk_grown (g := gb592) (o := .cells #[.int .i64 0, .int .i64 0, .slice none 0 0] 26 (0, 0)) B14x6_ hg (Kd.R_ne HO578.out BK592.out (by decide)))
          replace HB := Aside0.mk (hb)
          have HO585 := Aside0.mk (ho)
          clear HO578
          clear ho hb hg hat
          refine hK.out _ _ ⟨(blk_cell BK570.out 0).trans rfl, (blk_cell BK570.out 1).trans rfl, (blk_cell BK570.out 2).trans rfl, (blk_cell BK571.out 0).trans rfl, (blk_cell BK571.out 1).trans rfl, (blk_cell BK571.out 2).trans rfl⟩ (fun hHeld => ?_)
          clear hK K
          refine norm_ (a' := ?_) ?_ ?_
          rotate_left
          ·show Act.put _ (some 37) _ = _
           simp only [Act.put, List.setIfInBounds_toArray, List.set_cons_zero, List.set_cons_succ, i64_w, i32_w]
           rfl
          exact norm_ B14x3_ (hJ4_13_15_18 (v577, v584, v587, gb592) _ ⟨hHeld, B14x8_, B14x9_, B14x4_, B14x2_, B14x5_, B14x6_, GW592.out, GE592.out, NB570_592.out, NB592_570.out, NB571_592.out, NB592_571.out, NB572_592.out, NB592_572.out, B14x0_⟩)
        ·skip
         rintro ⟨v577, v584, gb592⟩ w34 ⟨hS_, h0_, h1_, h2_, h3_, h4_, h5_, h6_, h7_, h8_, h9_, h10_, h11_, h12_, h13_⟩
         have n0_ : Aside0 (Kd.R k28 28 w34 w.heap.size (fun k_ => k_ ≠ gb571) v584 y583) := ⟨h0_⟩
         have n1_ : Aside0 (w34.heap[gb570]? = some (.cells #[.int .i64 a0_0, .int .i64 a0_1, .slice A0_2 l0_2.length c0_2] 26 (0, 0))) := ⟨h1_⟩
         have n2_ : Aside0 (w34.heap[gb571]? = some (.cells #[.int .i64 a2_0, .int .i64 a2_1, .string a2_2] 28 (0, 0))) := ⟨h2_⟩
         have n3_ : Aside0 (w34.heap[gb572]? = some (.cells #[.int .i64 0, .int .i64 0, .slice none 0 0] 26 (0, 0))) := ⟨h3_⟩
         have n4_ : Aside0 (w34.heap[gb592]? = some (.cells #[.int .i64 0, .int .i64 0, .slice none 0 0] 26 (0, 0))) := ⟨h4_⟩
         have n5_ : Aside0 (w.heap.size ≤ gb592) := ⟨h5_⟩
         have n6_ : Aside0 (w.heap.size ≤ gb592) := ⟨h6_⟩
         have n7_ : Aside0 (gb570 ≠ gb592) := ⟨h7_⟩
         have n8_ : Aside0 (gb592 ≠ gb570) := ⟨h8_⟩
         have n9_ : Aside0 (gb571 ≠ gb592) := ⟨h9_⟩
         have n10_ : Aside0 (gb592 ≠ gb571) := ⟨h10_⟩
         have n11_ : Aside0 (gb572 ≠ gb592) := ⟨h11_⟩
         have n12_ : Aside0 (gb592 ≠ gb572) := ⟨h12_⟩
         have n13_ : Aside0 (Below w.heap.size w w34) := ⟨h13_⟩
         clear BK570
         clear BK571
         clear BK572
         clear HB
         clear h0_ h1_ h2_ h3_ h4_ h5_ h6_ h7_ h8_ h9_ h10_ h11_ h12_ h13_
         have HO585 := n0_
         have BK570 := n1_
         have BK571 := n2_
         have BK572 := n3_
         have BK592 := n4_
         have GW592 := n5_
         have GE592 := n6_
         have NB570_592 := n7_
         have NB592_570 := n8_
         have NB571_592 := n9_
         have NB592_571 := n10_
         have NB572_592 := n11_
         have NB592_572 := n12_
         have HB := n13_
         clear n0_ n1_ n2_ n3_ n4_ n5_ n6_ n7_ n8_ n9_ n10_ n11_ n12_ n13_
         have hHeld : w34.cell? ⟨gb570, 0, none⟩ = some (.int .i64 a0_0) ∧ w34.cell? ⟨gb570, 1, none⟩ = some (.int .i64 a0_1) ∧ w34.cell? ⟨gb570, 2, none⟩ = some (.slice A0_2 l0_2.length c0_2) ∧ w34.cell? ⟨gb571, 0, none⟩ = some (.int .i64 a2_0) ∧ w34.cell? ⟨gb571, 1, none⟩ = some (.int .i64 a2_1) ∧ w34.cell? ⟨gb571, 2, none⟩ = some (.string a2_2) := hS_
         refine norm_ (a' := ?_) ?_ ?_
         rotate_left
         ·simp only [putAll, Act.put, List.setIfInBounds_toArray, List.set_cons_zero, List.set_cons_succ]
          rfl
         refine one_ (i := 15) (N := some 39) #[true, true, true, true, true, true, true, true, true, true, true, true, true, true, true, true, false, false, true, false] rfl rfl (one_of HT_.out B14x20_) (by decide) (fun K hK => ?_)
         refine Kd.R_lit_step k28 _ 28 ?hg (N := 39) ?hd (xs := ([(⟨a2_0, a2_1, a2_2⟩ : S28)] : List (S28))) (inner := [.int .i64 a2_0, .int .i64 a2_1, .string a2_2]) (ok := fun _ => True) (okp := fun _ => True) ?hr ?hp (fun _ hk => hk) trivial (Below.refl _ _) (Nat.le_refl _) (by simp) ?_; (case hd => rfl); (case hg => rfl); (case hr => exact B14x13_); (case hp => exact B14x12_)
         intro v587 w35 ho36 hb hg_ hnew_
         clear hg_ hnew_
         (first | rw [← Ny586.out] at ho36 | (simp only [Int.reduceToNat] at ho36; rw [← Ny586.out] at ho36))
         have HO588 := Aside0.mk (Kd.R_lower (Kd.R_newB (Kd.R_new' ho36 (Kd.R_lt B14x8_)) (g := gb571) (o := .cells #[.int .i64 a2_0, .int .i64 a2_1, .string a2_2] 28 (0, 0)) B14x2_) (below_size B14x0_))
         replace HO585 := Aside0.mk (Kd.R_elder' B14x8_ (Kd.R_base ho36) hb)
         replace BK570 := Aside0.mk (bb BK570.out hb)
         replace BK571 := Aside0.mk (bb BK571.out hb)
         replace BK572 := Aside0.mk (bb BK572.out hb)
         replace BK592 := Aside0.mk (bb BK592.out hb)
         replace HB := Aside0.mk (below_step B14x0_ hb)
         clear hb ho36
         refine hK.out _ _ ⟨(blk_cell BK570.out 0).trans rfl, (blk_cell BK570.out 1).trans rfl, (blk_cell BK570.out 2).trans rfl, (blk_cell BK571.out 0).trans rfl, (blk_cell BK571.out 1).trans rfl, (blk_cell BK571.out 2).trans rfl⟩ (fun hHeld => ?_)
         clear hK K
         refine norm_ (a' := ?_) ?_ ?_
         rotate_left
         ·show Act.put _ (some 39) _ = _
          simp only [Act.put, List.setIfInBounds_toArray, List.set_cons_zero, List.set_cons_succ, i64_w, i32_w]
          rfl
         exact norm_ B14x3_ (hJ4_13_15_18 (v577, v584, v587, gb592) _ ⟨hHeld, B14x31_, B14x18_, B14x4_, B14x2_, B14x5_, B14x6_, GW592.out, GE592.out, NB570_592.out, NB592_570.out, NB571_592.out, NB592_571.out, NB572_592.out, NB592_572.out, B14x0_⟩)
       ·skip
        rintro ⟨v577, v584, v587⟩ w35 ⟨hS_, h0_, h1_, h2_, h3_, h4_, h5_⟩
        have n0_ : Aside0 (Kd.R k28 28 w35 w.heap.size (fun k_ => some k_ ≠ (v587 : Value).ownBlock ∧ k_ ≠ gb571) v584 y583) := ⟨h0_⟩
        have n1_ : Aside0 (Kd.R k28 28 w35 w.heap.size (fun k_ => some k_ ≠ (v584 : Value).ownBlock ∧ k_ ≠ gb571) v587 y586) := ⟨h1_⟩
        have n2_ : Aside0 (w35.heap[gb570]? = some (.cells #[.int .i64 a0_0, .int .i64 a0_1, .slice A0_2 l0_2.length c0_2] 26 (0, 0))) := ⟨h2_⟩
        have n3_ : Aside0 (w35.heap[gb571]? = some (.cells #[.int .i64 a2_0, .int .i64 a2_1, .string a2_2] 28 (0, 0))) := ⟨h3_⟩
        have n4_ : Aside0 (w35.heap[gb572]? = some (.cells #[.int .i64 0, .int .i64 0, .slice none 0 0] 26 (0, 0))) := ⟨h4_⟩
        have n5_ : Aside0 (Below w.heap.size w w35) := ⟨h5_⟩
        clear BK570
        clear BK571
        clear BK572
        clear HB
        clear h0_ h1_ h2_ h3_ h4_ h5_
        have HO585 := n0_
        have HO588 := n1_
        have BK570 := n2_
        have BK571 := n3_
        have BK572 := n4_
        have HB := n5_
        clear n0_ n1_ n2_ n3_ n4_ n5_
        have hHeld : w35.cell? ⟨gb570, 0, none⟩ = some (.int .i64 a0_0) ∧ w35.cell? ⟨gb570, 1, none⟩ = some (.int .i64 a0_1) ∧ w35.cell? ⟨gb570, 2, none⟩ = some (.slice A0_2 l0_2.length c0_2) ∧ w35.cell? ⟨gb571, 0, none⟩ = some (.int .i64 a2_0) ∧ w35.cell? ⟨gb571, 1, none⟩ = some (.int .i64 a2_1) ∧ w35.cell? ⟨gb571, 2, none⟩ = some (.string a2_2) := hS_
        obtain ⟨Ao37, co37, eo37⟩ := Kd.R_slice HO588.out
        (first | subst eo37 | (injection eo37 with f1_ f2_ f3_; have f4_ := f1_.symm; have f5_ := f3_.symm; clear f1_ f2_ f3_; subst f4_; subst f5_))
        refine norm_ (a' := ?_) ?_ ?_
        rotate_left
        ·simp only [putAll, Act.put, List.setIfInBounds_toArray, List.set_cons_zero, List.set_cons_succ]
         rfl
        refine two_ (i := 16) (j := 18) (Ni := some 40) (Nj := some 8) #[true, true, true, true, true, true, true, true, true, true, true, true, true, true, true, true, true, false, false, false] #[true, true, true, true, true, true, true, true, true, true, true, true, true, true, true, true, false, false, true, false] rfl rfl rfl rfl (two_of HT_.out B14x20_) (by decide) (by decide) (fun K hK => ?_) (fun K hK => ?_)
        ·skip
         refine Kd.R_append_rows_step k28 (w0 := w) w.heap.size (by rfl) (.tmp 37) (.tmp 39) 24 28 (.agg #[(.int .i64 0), (.int .i64 0), (.string ⟨#[]⟩)]) 32 rfl Try.underlying24 info28 rfl (by decide) (by omega) v584 y583 y586 _ _ _ (fun k_ => some k_ ≠ (.slice Ao37 y586.length co37 : Value).ownBlock ∧ k_ ≠ gb571) (fun _ => False) rfl rfl ?aO ?aR (fun _ _ h => h) (fun _ h => h.elim) ?aF ?aB ?aS ?aL ?_
         (case aR => exact B14x28_)
         (case aB => exact B14x1_)
         (case aF => exact B14x17_)
         (case aO => exact B14x8_)
         (case aS => exact B14x36_)
         (case aL => have := LMc25.out; omega)
         intro v590 w36 ho hb hg hat
         rw [← Ny589.out] at ho
         replace BK570 := Aside0.mk (blk_grown (g := gb570) (o := .cells #[.int .i64 a0_0, .int .i64 a0_1, .slice A0_2 l0_2.length c0_2] 26 (0, 0)) B14x4_ hg (Kd.R_ne HO585.out BK570.out (by decide)))
         replace BK571 := Aside0.mk (blk_grown (g := gb571) (o := .cells #[.int .i64 a2_0, .int .i64 a2_1, .string a2_2] 28 (0, 0)) B14x2_ hg (Kd.R_away HO585.out (fun _ hk => hk.2)))
         replace BK572 := Aside0.mk (blk_grown (g := gb572) (o := .cells #[.int .i64 0, .int .i64 0, .slice none 0 0] 26 (0, 0)) B14x5_ hg (Kd.R_ne HO585.out BK572.out (by decide)))
         replace HO588 := Aside0.mk (Kd.R_after (ok := (fun k_ => k_ ≠ gb571)) B14x9_ hg hat)
         replace HB := Aside0.mk (hb)
         have HO591 := Aside0.mk (ho)
         clear HO585
         clear ho hb hg hat
         obtain ⟨Ao38, co38, eo38⟩ := Kd.R_slice HO591.out
         (first | subst eo38 | (injection eo38 with f1_ f2_ f3_; have f4_ := f1_.symm; have f5_ := f3_.symm; clear f1_ f2_ f3_; subst f4_; subst f5_))
         refine hK.out _ _ ⟨(blk_cell BK570.out 0).trans rfl, (blk_cell BK570.out 1).trans rfl, (blk_cell BK570.out 2).trans rfl, (blk_cell BK571.out 0).trans rfl, (blk_cell BK571.out 1).trans rfl, (blk_cell BK571.out 2).trans rfl⟩ (fun hHeld => ?_)
         clear hK K
         refine norm_ (a' := ?_) ?_ ?_
         rotate_left
         ·show Act.put _ (some 40) _ = _
          simp only [Act.put, List.setIfInBounds_toArray, List.set_cons_zero, List.set_cons_succ, i64_w, i32_w]
          rfl
         refine pu_ 17 41 HT_ ?_
         exact norm_ B14x3_ (hJ4_13_15_16 (v577, v584, .slice Ao37 y586.length co37, .slice Ao38 y589.length co38) _ ⟨hHeld, B14x9_, B14x22_, B14x4_, B14x2_, B14x5_, B14x1_⟩)
        ·skip
         refine box_step ?hg (N := 8) ?hd (cs := #[.int .i64 0, .int .i64 0, .slice none 0 0]) (t := 26) ?hr ?_; (case hd => rfl); (case hg => rfl); (case hr => exact B14x13_)
         intro gb592 hg w36 hbox hb
         replace HO585 := Aside0.mk (Kd.R_below B14x8_ hb)
         replace HO588 := Aside0.mk (Kd.R_below B14x7_ hb)
         have BK592 := Aside0.mk (hbox)
         have GW592 := Aside0.mk ((bs hg (below_size HB.out)))
         have GE592 := Aside0.mk ((bs hg (below_size HB.out)))
         replace HB := Aside0.mk (below_step B14x1_ hb)
         have NB570_592 := Aside0.mk ((nl hg (blk_lt BK570.out)))
         have NB592_570 := Aside0.mk ((ng hg (blk_lt BK570.out)))
         replace BK570 := Aside0.mk (bb BK570.out hb)
         have NB571_592 := Aside0.mk ((nl hg (blk_lt BK571.out)))
         have NB592_571 := Aside0.mk ((ng hg (blk_lt BK571.out)))
         replace BK571 := Aside0.mk (bb BK571.out hb)
         have NB572_592 := Aside0.mk ((nl hg (blk_lt BK572.out)))
         have NB592_572 := Aside0.mk ((ng hg (blk_lt BK572.out)))
         replace BK572 := Aside0.mk (bb BK572.out hb)
         clear hb hbox hg
         refine hK.out _ _ ⟨(blk_cell BK570.out 0).trans rfl, (blk_cell BK570.out 1).trans rfl, (blk_cell BK570.out 2).trans rfl, (blk_cell BK571.out 0).trans rfl, (blk_cell BK571.out 1).trans rfl, (blk_cell BK571.out 2).trans rfl⟩ (fun hHeld => ?_)
         clear hK K
         refine norm_ (a' := ?_) ?_ ?_
         rotate_left
         ·show Act.put _ (some 8) _ = _
          simp only [Act.put, List.setIfInBounds_toArray, List.set_cons_zero, List.set_cons_succ, i64_w, i32_w]
          rfl
         exact norm_ B14x3_ (hJ4_13_15_18 (v577, v584, .slice Ao37 y586.length co37, gb592) _ ⟨hHeld, B14x8_, B14x7_, B14x4_, B14x2_, B14x5_, B14x6_, GW592.out, GE592.out, NB570_592.out, NB592_570.out, NB571_592.out, NB592_571.out, NB572_592.out, NB592_572.out, B14x0_⟩)
      ·skip
       rintro ⟨v577, v584, v587, gb592⟩ w36 ⟨hS_, h0_, h1_, h2_, h3_, h4_, h5_, h6_, h7_, h8_, h9_, h10_, h11_, h12_, h13_, h14_⟩
       have n0_ : Aside0 (Kd.R k28 28 w36 w.heap.size (fun k_ => some k_ ≠ (v587 : Value).ownBlock ∧ k_ ≠ gb571) v584 y583) := ⟨h0_⟩
       have n1_ : Aside0 (Kd.R k28 28 w36 w.heap.size (fun k_ => some k_ ≠ (v584 : Value).ownBlock ∧ k_ ≠ gb571) v587 y586) := ⟨h1_⟩
       have n2_ : Aside0 (w36.heap[gb570]? = some (.cells #[.int .i64 a0_0, .int .i64 a0_1, .slice A0_2 l0_2.length c0_2] 26 (0, 0))) := ⟨h2_⟩
       have n3_ : Aside0 (w36.heap[gb571]? = some (.cells #[.int .i64 a2_0, .int .i64 a2_1, .string a2_2] 28 (0, 0))) := ⟨h3_⟩
       have n4_ : Aside0 (w36.heap[gb572]? = some (.cells #[.int .i64 0, .int .i64 0, .slice none 0 0] 26 (0, 0))) := ⟨h4_⟩
       have n5_ : Aside0 (w36.heap[gb592]? = some (.cells #[.int .i64 0, .int .i64 0, .slice none 0 0] 26 (0, 0))) := ⟨h5_⟩
       have n6_ : Aside0 (w.heap.size ≤ gb592) := ⟨h6_⟩
       have n7_ : Aside0 (w.heap.size ≤ gb592) := ⟨h7_⟩
       have n8_ : Aside0 (gb570 ≠ gb592) := ⟨h8_⟩
       have n9_ : Aside0 (gb592 ≠ gb570) := ⟨h9_⟩
       have n10_ : Aside0 (gb571 ≠ gb592) := ⟨h10_⟩
       have n11_ : Aside0 (gb592 ≠ gb571) := ⟨h11_⟩
       have n12_ : Aside0 (gb572 ≠ gb592) := ⟨h12_⟩
       have n13_ : Aside0 (gb592 ≠ gb572) := ⟨h13_⟩
       have n14_ : Aside0 (Below w.heap.size w w36) := ⟨h14_⟩
       clear BK570
       clear BK571
       clear BK572
       clear HB
       clear h0_ h1_ h2_ h3_ h4_ h5_ h6_ h7_ h8_ h9_ h10_ h11_ h12_ h13_ h14_
       have HO585 := n0_
       have HO588 := n1_
       have BK570 := n2_
       have BK571 := n3_
       have BK572 := n4_
       have BK592 := n5_
       have GW592 := n6_
       have GE592 := n7_
       have NB570_592 := n8_
       have NB592_570 := n9_
       have NB571_592 := n10_
       have NB592_571 := n11_
       have NB572_592 := n12_
       have NB592_572 := n13_
       have HB := n14_
       clear n0_ n1_ n2_ n3_ n4_ n5_ n6_ n7_ n8_ n9_ n10_ n11_ n12_ n13_ n14_
       have hHeld : w36.cell? ⟨gb570, 0, none⟩ = some (.int .i64 a0_0) ∧ w36.cell? ⟨gb570, 1, none⟩ = some (.int .i64 a0_1) ∧ w36.cell? ⟨gb570, 2, none⟩ = some (.slice A0_2 l0_2.length c0_2) ∧ w36.cell? ⟨gb571, 0, none⟩ = some (.int .i64 a2_0) ∧ w36.cell? ⟨gb571, 1, none⟩ = some (.int .i64 a2_1) ∧ w36.cell? ⟨gb571, 2, none⟩ = some (.string a2_2) := hS_
       obtain ⟨Ao38, co38, eo38⟩ := Kd.R_slice HO588.out
       (first | subst eo38 | (injection eo38 with f1_ f2_ f3_; have f4_ := f1_.symm; have f5_ := f3_.symm; clear f1_ f2_ f3_; subst f4_; subst f5_))
       refine norm_ (a' := ?_) ?_ ?_
       rotate_left
       ·simp only [putAll, Act.put, List.setIfInBounds_toArray, List.set_cons_zero, List.set_cons_succ]
        rfl
       refine one_ (i := 16) (N := some 40) #[true, true, true, true, true, true, true, true, true, true, true, true, true, true, true, true, true, false, true, false] rfl rfl (one_of HT_.out B14x20_) (by decide) (fun K hK => ?_)
       refine Kd.R_append_rows_step k28 (w0 := w) w.heap.size (by rfl) (.tmp 37) (.tmp 39) 24 28 (.agg #[(.int .i64 0), (.int .i64 0), (.string ⟨#[]⟩)]) 32 rfl Try.underlying24 info28 rfl (by decide) (by omega) v584 y583 y586 _ _ _ (fun k_ => some k_ ≠ (.slice Ao38 y586.length co38 : Value).ownBlock ∧ k_ ≠ gb571) (fun _ => False) rfl rfl ?aO ?aR (fun _ _ h => h) (fun _ h => h.elim) ?aF ?aB ?aS ?aL ?_
       (case aR => exact B14x28_)
       (case aB => exact B14x0_)
       (case aF => exact B14x17_)
       (case aO => exact B14x8_)
       (case aS => exact B14x35_)
       (case aL => have := LMc25.out; omega)
       intro v590 w37 ho hb hg hat
       rw [← Ny589.out] at ho
       replace BK570 := Aside0.mk (blk_grown (g := gb570) (o := .cells #[.int .i64 a0_0, .int .i64 a0_1, .slice A0_2 l0_2.length c0_2] 26 (0, 0)) B14x4_ hg (Kd.R_ne HO585.out BK570.out (by decide)))
       replace BK571 := Aside0.mk (blk_grown (g := gb571) (o := .cells #[.int .i64 a2_0, .int .i64 a2_1, .string a2_2] 28 (0, 0)) B14x2_ hg (Kd.R_away HO585.out (fun _ hk => hk.2)))
       replace BK572 := Aside0.mk (blk_grown (g := gb572) (o := .cells #[.int .i64 0, .int .i64 0, .slice none 0 0] 26 (0, 0)) B14x5_ hg (Kd.R_ne HO585.out BK572.out (by decide)))
       replace HO588 := Aside0.mk (Kd.R_after (ok := (fun k_ => k_ ≠ gb571)) B14x9_ hg hat)
       replace BK592 := Aside0.mk (blk_grown (g := gb592) (o := .cells #[.int .i64 0, .int .i64 0, .slice none 0 0] 26 (0, 0)) B14x6_ hg (Kd.R_ne HO585.out BK592.out (by decide)))
       replace HB := Aside0.mk (hb)
       have HO591 := Aside0.mk (ho)
       clear HO585
       clear ho hb hg hat
       obtain ⟨Ao39, co39, eo39⟩ := Kd.R_slice HO591.out
       (first | subst eo39 | (injection eo39 with f1_ f2_ f3_; have f4_ := f1_.symm; have f5_ := f3_.symm; clear f1_ f2_ f3_; subst f4_; subst f5_))
       refine hK.out _ _ ⟨(blk_cell BK570.out 0).trans rfl, (blk_cell BK570.out 1).trans rfl, (blk_cell BK570.out 2).trans rfl, (blk_cell BK571.out 0).trans rfl, (blk_cell BK571.out 1).trans rfl, (blk_cell BK571.out 2).trans rfl⟩ (fun hHeld => ?_)
       clear hK K
       refine norm_ (a' := ?_) ?_ ?_
       rotate_left
       ·show Act.put _ (some 40) _ = _
        simp only [Act.put, List.setIfInBounds_toArray, List.set_cons_zero, List.set_cons_succ, i64_w, i32_w]
        rfl
       refine pu_ 17 41 HT_ ?_
       exact norm_ B14x3_ (hJ4_13_15_16_18 (v577, v584, .slice Ao38 y586.length co38, .slice Ao39 y589.length co39, gb592) _ ⟨hHeld, B14x9_, B14x22_, B14x4_, B14x2_, B14x5_, B14x6_, GW592.out, GE592.out, NB570_592.out, NB592_570.out, NB571_592.out, NB592_571.out, NB572_592.out, NB592_572.out, B14x0_⟩)
     ·skip
      rintro ⟨v577, v584, v587, v590⟩ w38 ⟨hS_, h0_, h1_, h2_, h3_, h4_, h5_⟩
      have n0_ : Aside0 (Kd.R k28 28 w38 w.heap.size (fun k_ => some k_ ≠ (v590 : Value).ownBlock ∧ k_ ≠ gb571) v587 y586) := ⟨h0_⟩
      have n1_ : Aside0 (Kd.R k28 28 w38 w.heap.size (fun k_ => some k_ ≠ (v587 : Value).ownBlock ∧ k_ ≠ gb571) v590 y589) := ⟨h1_⟩
      have n2_ : Aside0 (w38.heap[gb570]? = some (.cells #[.int .i64 a0_0, .int .i64 a0_1, .slice A0_2 l0_2.length c0_2] 26 (0, 0))) := ⟨h2_⟩
      have n3_ : Aside0 (w38.heap[gb571]? = some (.cells #[.int .i64 a2_0, .int .i64 a2_1, .string a2_2] 28 (0, 0))) := ⟨h3_⟩
      have n4_ : Aside0 (w38.heap[gb572]? = some (.cells #[.int .i64 0, .int .i64 0, .slice none 0 0] 26 (0, 0))) := ⟨h4_⟩
      have n5_ : Aside0 (Below w.heap.size w w38) := ⟨h5_⟩
      clear BK570
      clear BK571
      clear BK572
      clear HB
      clear h0_ h1_ h2_ h3_ h4_ h5_
      have HO588 := n0_
      have HO591 := n1_
      have BK570 := n2_
      have BK571 := n3_
      have BK572 := n4_
      have HB := n5_
      clear n0_ n1_ n2_ n3_ n4_ n5_
      have hHeld : w38.cell? ⟨gb570, 0, none⟩ = some (.int .i64 a0_0) ∧ w38.cell? ⟨gb570, 1, none⟩ = some (.int .i64 a0_1) ∧ w38.cell? ⟨gb570, 2, none⟩ = some (.slice A0_2 l0_2.length c0_2) ∧ w38.cell? ⟨gb571, 0, none⟩ = some (.int .i64 a2_0) ∧ w38.cell? ⟨gb571, 1, none⟩ = some (.int .i64 a2_1) ∧ w38.cell? ⟨gb571, 2, none⟩ = some (.string a2_2) := hS_
      obtain ⟨Ao39, co39, eo39⟩ := Kd.R_slice HO591.out
      (first | subst eo39 | (injection eo39 with f1_ f2_ f3_; have f4_ := f1_.symm; have f5_ := f3_.symm; clear f1_ f2_ f3_; subst f4_; subst f5_))
      refine norm_ (a' := ?_) ?_ ?_
      rotate_left
      ·simp only [putAll, Act.put, List.setIfInBounds_toArray, List.set_cons_zero, List.set_cons_succ]
       rfl
      refine one_ (i := 18) (N := some 8) #[true, true, true, true, true, true, true, true, true, true, true, true, true, true, true, true, true, true, true, false] rfl rfl (one_of HT_.out B14x20_) (by decide) (fun K hK => ?_)
      refine box_step ?hg (N := 8) ?hd (cs := #[.int .i64 0, .int .i64 0, .slice none 0 0]) (t := 26) ?hr ?_; (case hd => rfl); (case hg => rfl); (case hr => exact B14x13_)
      intro gb592 hg w40 hbox hb
      replace HO588 := Aside0.mk (Kd.R_below B14x7_ hb)
      replace HO591 := Aside0.mk (Kd.R_below B14x22_ hb)
      have BK592 := Aside0.mk (hbox)
      have GW592 := Aside0.mk ((bs hg (below_size HB.out)))
      have GE592 := Aside0.mk ((bs hg (below_size HB.out)))
      replace HB := Aside0.mk (below_step B14x1_ hb)
      have NB570_592 := Aside0.mk ((nl hg (blk_lt BK570.out)))
      have NB592_570 := Aside0.mk ((ng hg (blk_lt BK570.out)))
      replace BK570 := Aside0.mk (bb BK570.out hb)
      have NB571_592 := Aside0.mk ((nl hg (blk_lt BK571.out)))
      have NB592_571 := Aside0.mk ((ng hg (blk_lt BK571.out)))
      replace BK571 := Aside0.mk (bb BK571.out hb)
      have NB572_592 := Aside0.mk ((nl hg (blk_lt BK572.out)))
      have NB592_572 := Aside0.mk ((ng hg (blk_lt BK572.out)))
      replace BK572 := Aside0.mk (bb BK572.out hb)
      clear hb hbox hg
      refine hK.out _ _ ⟨(blk_cell BK570.out 0).trans rfl, (blk_cell BK570.out 1).trans rfl, (blk_cell BK570.out 2).trans rfl, (blk_cell BK571.out 0).trans rfl, (blk_cell BK571.out 1).trans rfl, (blk_cell BK571.out 2).trans rfl⟩ (fun hHeld => ?_)
      clear hK K
      refine norm_ (a' := ?_) ?_ ?_
      rotate_left
      ·show Act.put _ (some 8) _ = _
       simp only [Act.put, List.setIfInBounds_toArray, List.set_cons_zero, List.set_cons_succ, i64_w, i32_w]
       rfl
      exact norm_ B14x3_ (hJ4_13_15_16_18 (v577, v584, v587, .slice Ao39 y589.length co39, gb592) _ ⟨hHeld, B14x7_, B14x22_, B14x4_, B14x2_, B14x5_, B14x6_, GW592.out, GE592.out, NB570_592.out, NB592_570.out, NB571_592.out, NB592_571.out, NB572_592.out, NB592_572.out, B14x0_⟩)
    rintro ⟨v577, v584, v587, v590, gb592⟩ w39 ⟨hS_, h0_, h1_, h2_, h3_, h4_, h5_, h6_, h7_, h8_, h9_, h10_, h11_, h12_, h13_, h14_⟩
    have n0_ : Aside0 (Kd.R k28 28 w39 w.heap.size (fun k_ => some k_ ≠ (v590 : Value).ownBlock ∧ k_ ≠ gb571) v587 y586) := ⟨h0_⟩
    have n1_ : Aside0 (Kd.R k28 28 w39 w.heap.size (fun k_ => some k_ ≠ (v587 : Value).ownBlock ∧ k_ ≠ gb571) v590 y589) := ⟨h1_⟩
    have n2_ : Aside0 (w39.heap[gb570]? = some (.cells #[.int .i64 a0_0, .int .i64 a0_1, .slice A0_2 l0_2.length c0_2] 26 (0, 0))) := ⟨h2_⟩
    have n3_ : Aside0 (w39.heap[gb571]? = some (.cells #[.int .i64 a2_0, .int .i64 a2_1, .string a2_2] 28 (0, 0))) := ⟨h3_⟩
    have n4_ : Aside0 (w39.heap[gb572]? = some (.cells #[.int .i64 0, .int .i64 0, .slice none 0 0] 26 (0, 0))) := ⟨h4_⟩
    have n5_ : Aside0 (w39.heap[gb592]? = some (.cells #[.int .i64 0, .int .i64 0, .slice none 0 0] 26 (0, 0))) := ⟨h5_⟩
    have n6_ : Aside0 (w.heap.size ≤ gb592) := ⟨h6_⟩
    have n7_ : Aside0 (w.heap.size ≤ gb592) := ⟨h7_⟩
    have n8_ : Aside0 (gb570 ≠ gb592) := ⟨h8_⟩
    have n9_ : Aside0 (gb592 ≠ gb570) := ⟨h9_⟩
    have n10_ : Aside0 (gb571 ≠ gb592) := ⟨h10_⟩
    have n11_ : Aside0 (gb592 ≠ gb571) := ⟨h11_⟩
    have n12_ : Aside0 (gb572 ≠ gb592) := ⟨h12_⟩
    have n13_ : Aside0 (gb592 ≠ gb572) := ⟨h13_⟩
    have n14_ : Aside0 (Below w.heap.size w w39) := ⟨h14_⟩
    clear BK570
    clear BK571
    clear BK572
    clear HB
    clear h0_ h1_ h2_ h3_ h4_ h5_ h6_ h7_ h8_ h9_ h10_ h11_ h12_ h13_ h14_
    have HO588 := n0_
    have HO591 := n1_
    have BK570 := n2_
    have BK571 := n3_
    have BK572 := n4_
    have BK592 := n5_
    have GW592 := n6_
    have GE592 := n7_
    have NB570_592 := n8_
    have NB592_570 := n9_
    have NB571_592 := n10_
    have NB592_571 := n11_
    have NB572_592 := n12_
    have NB592_572 := n13_
    have HB := n14_
    clear n0_ n1_ n2_ n3_ n4_ n5_ n6_ n7_ n8_ n9_ n10_ n11_ n12_ n13_ n14_
    have hHeld : w39.cell? ⟨gb570, 0, none⟩ = some (.int .i64 a0_0) ∧ w39.cell? ⟨gb570, 1, none⟩ = some (.int .i64 a0_1) ∧ w39.cell? ⟨gb570, 2, none⟩ = some (.slice A0_2 l0_2.length c0_2) ∧ w39.cell? ⟨gb571, 0, none⟩ = some (.int .i64 a2_0) ∧ w39.cell? ⟨gb571, 1, none⟩ = some (.int .i64 a2_1) ∧ w39.cell? ⟨gb571, 2, none⟩ = some (.string a2_2) := hS_
    obtain ⟨Ao40, co40, eo40⟩ := Kd.R_slice HO591.out
    (first | subst eo40 | (injection eo40 with f1_ f2_ f3_; have f4_ := f1_.symm; have f5_ := f3_.symm; clear f1_ f2_ f3_; subst f4_; subst f5_))
    refine norm_ (a' := ?_) ?_ ?_
    rotate_left
    ·simp only [putAll, Act.put, List.setIfInBounds_toArray, List.set_cons_zero, List.set_cons_succ]
     rfl
    refine one_ (i := 19) (N := none) #[true, true, true, true, true, true, true, true, true, true, true, true, true, true, true, true, true, true, true, true] rfl rfl (one_of HT_.out B14x20_) (by decide) (fun K hK => ?_)
    have hs41 : w39.cell? ⟨gb592, 0, none⟩ = some (.int .i64 0) := (blk_cell BK592.out 0).trans rfl
    have hfs41 := blk_frozen BK592.out 0
    have hns41_0 := NB570_592.out
    have hns41_1 := NB571_592.out
    have hns41_2 := NB572_592.out
    have hms41_0 := NB592_570.out
    have hms41_1 := NB592_571.out
    have hms41_2 := NB592_572.out
    have hs42 : w39.cell? ⟨gb592, 1, none⟩ = some (.int .i64 0) := (blk_cell BK592.out 1).trans rfl
    have hfs42 := blk_frozen BK592.out 1
    have hns42_0 := NB570_592.out
    have hns42_1 := NB571_592.out
    have hns42_2 := NB572_592.out
    have hms42_0 := NB592_570.out
    have hms42_1 := NB592_571.out
    have hms42_2 := NB592_572.out
    have hs43 : w39.cell? ⟨gb592, 2, none⟩ = some (.slice none 0 0) := (blk_cell BK592.out 2).trans rfl
    have hfs43 := blk_frozen BK592.out 2
    have hns43_0 := NB570_592.out
    have hns43_1 := NB571_592.out
    have hns43_2 := NB572_592.out
    have hms43_0 := NB592_570.out
    have hms43_1 := NB592_571.out
    have hms43_2 := NB592_572.out
    refine skip_ (w1 := ?_) (by rfl) rfl ?_ ?_
    rotate_left
    ·go_simp
     rfl
    refine hK.out _ _ ⟨((cell_far (p := ⟨gb592, _, none⟩) NB570_592.out _).trans (((cell_far (p := ⟨gb592, _, none⟩) NB570_592.out _).trans (((cell_far (p := ⟨gb592, _, none⟩) NB570_592.out _).trans (hHeld.1)))))), ((cell_far (p := ⟨gb592, _, none⟩) NB570_592.out _).trans (((cell_far (p := ⟨gb592, _, none⟩) NB570_592.out _).trans (((cell_far (p := ⟨gb592, _, none⟩) NB570_592.out _).trans (hHeld.2.1)))))), ((cell_far (p := ⟨gb592, _, none⟩) NB570_592.out _).trans (((cell_far (p := ⟨gb592, _, none⟩) NB570_592.out _).trans (((cell_far (p := ⟨gb592, _, none⟩) NB570_592.out _).trans (hHeld.2.2.1)))))), ((cell_far (p := ⟨gb592, _, none⟩) NB571_592.out _).trans (((cell_far (p := ⟨gb592, _, none⟩) NB571_592.out _).trans (((cell_far (p := ⟨gb592, _, none⟩) NB571_592.out _).trans (hHeld.2.2.2.1)))))), ((cell_far (p := ⟨gb592, _, none⟩) NB571_592.out _).trans (((cell_far (p := ⟨gb592, _, none⟩) NB571_592.out _).trans (((cell_far (p := ⟨gb592, _, none⟩) NB571_592.out _).trans (hHeld.2.2.2.2.1)))))), ((cell_far (p := ⟨gb592, _, none⟩) NB571_592.out _).trans (((cell_far (p := ⟨gb592, _, none⟩) NB571_592.out _).trans (((cell_far (p := ⟨gb592, _, none⟩) NB571_592.out _).trans (hHeld.2.2.2.2.2))))))⟩ (fun hHeld => ?_)
    clear hK K
    refine done_ (done_of HT_.out B14x20_) ?_
    have hnb44 := NB592_570.out
    have hnc44 := NB570_592.out
    have hnb45 := NB592_571.out
    have hnc45 := NB571_592.out
    have hnb46 := NB592_572.out
    have hnc46 := NB572_592.out
    obtain ⟨hcz47_0, hcz47_1, hcz47_2⟩ := cl3 BK592.out
    obtain ⟨hfz47_0, hfz47_1, hfz47_2⟩ := fr3 BK592.out
    have H := HL_296.out
    clear HL_296
    by_cases c27 : t593 = true
    ·subst c27
     rw [if_pos rfl] at H
     simp only [Option.some.injEq, Prod.mk.injEq] at H
     obtain ⟨rfl, rfl, rfl, rfl⟩ := H
     try go_wp2_with (first | ((with_reducible refine gate_callee (f := 12) rfl ?_); refine goesL_ (some 43) rfl rfl Try.func12 B14x20_ rfl #[.agg #[.int .i64 a0_0, .int .i64 a0_1, .slice Ao40 y589.length co40]] rfl B14x14_ ?_; (with_reducible refine (spec_LogOk.calls kj3 a0_0 a0_1 _ _ y589 true _ ?side1 ?side2 A26.out).mono ?_); (case side1 => exact B14x27_); (case side2 => exact (Kd.R_reads' HO591.out).2.1); rintro e w48 ⟨rfl, hb⟩; refine ⟨_, rfl, ?_⟩; replace HO588 := Aside0.mk (Kd.R_below B14x19_ hb); replace HO591 := Aside0.mk (Kd.R_below B14x10_ hb); replace BK570 := Aside0.mk (blk_below (g := gb570) (o := .cells #[.int .i64 a0_0, .int .i64 a0_1, .slice A0_2 l0_2.length c0_2] 26 (0, 0)) B14x23_ hb); replace BK571 := Aside0.mk (blk_below (g := gb571) (o := .cells #[.int .i64 a2_0, .int .i64 a2_1, .string a2_2] 28 (0, 0)) B14x24_ hb); replace BK572 := Aside0.mk (blk_below (g := gb572) (o := .cells #[.int .i64 0, .int .i64 0, .slice none 0 0] 26 (0, 0)) B14x25_ hb); replace BK592 := Aside0.mk (blk_below (g := gb592) (o := .cells #[.int .i64 a0_0, .int .i64 a0_1, .slice Ao40 y589.length co40] 26 (0, 0)) B14x26_ hb); replace HB := Aside0.mk (below_step B14x0_ hb); (try clear hb); obtain ⟨hcz49_0, hcz49_1, hcz49_2⟩ := cl3 BK592.out; obtain ⟨hfz49_0, hfz49_1, hfz49_2⟩ := fr3 BK592.out; have hnb50 := NB572_570.out; have hnc50 := NB570_572.out; have hnb51 := NB572_571.out; have hnc51 := NB571_572.out; obtain ⟨hcz52_0, hcz52_1, hcz52_2⟩ := cl3 BK572.out; obtain ⟨hfz52_0, hfz52_1, hfz52_2⟩ := fr3 BK572.out))
     refine bodyPost_ret (results_ct rfl _ _ gb572 26 #[.int .i64 a0_0, .int .i64 a0_1, .slice Ao40 y589.length co40] (0, 0) _ rfl B14x15_ Try.underlying26 rfl B14x20_) rfl ?_
     exact ⟨_, by first | rfl | (simp [errW_none, errW_some] <;> rfl) | (simp only [← hji21]; first | rfl | (simp [errW_none, errW_some] <;> rfl)) | (simp [*, errW_none, errW_some] <;> rfl), by (with_reducible repeat (first | apply Kd.R_alloc | apply Kd.R_drewN | apply Kd.R_drew)); exact Kd.R_mono (Kd.R_far (p := ⟨gb572, 2, none⟩) (Kd.R_far (p := ⟨gb572, 1, none⟩) (Kd.R_far (p := ⟨gb572, 0, none⟩) (Kd.R_types HO591.out BK572.out (by decide)) (fun _ hk => hk.2) (.int .i64 a0_0)) (fun _ hk => hk.2) (.int .i64 a0_1)) (fun _ hk => hk.2) (.slice Ao40 y589.length co40)) (fun _ hk => trivial), by repeat (first | (with_reducible first | exact HB.out | apply below_alloc | apply pw_below_drewN | apply below_drew1 | refine below_set ?_ GE570.out | refine below_set ?_ GE571.out | refine below_set ?_ GE572.out | refine below_set ?_ GE592.out) | exact HB.out)⟩
    ·replace c27 := Bool.eq_false_iff.mpr c27
     subst c27
     rw [if_neg (show ¬ (false = true) by decide)] at H
     simp only [Option.some.injEq, Prod.mk.injEq] at H
     obtain ⟨rfl, rfl, rfl, rfl⟩ := H
     try go_wp2_with (first | ((with_reducible refine gate_callee (f := 12) rfl ?_); refine goesL_ (some 43) rfl rfl Try.func12 B14x20_ rfl #[.agg #[.int .i64 a0_0, .int .i64 a0_1, .slice Ao40 y589.length co40]] rfl B14x14_ ?_; (with_reducible refine (spec_LogOk.calls kj3 a0_0 a0_1 _ _ y589 false _ ?side1 ?side2 A26.out).mono ?_); (case side1 => exact B14x27_); (case side2 => exact (Kd.R_reads' HO591.out).2.1); rintro e w73 ⟨rfl, hb⟩; refine ⟨_, rfl, ?_⟩; replace HO588 := Aside0.mk (Kd.R_below B14x19_ hb); replace HO591 := Aside0.mk (Kd.R_below B14x10_ hb); replace BK570 := Aside0.mk (blk_below (g := gb570) (o := .cells #[.int .i64 a0_0, .int .i64 a0_1, .slice A0_2 l0_2.length c0_2] 26 (0, 0)) B14x23_ hb); replace BK571 := Aside0.mk (blk_below (g := gb571) (o := .cells #[.int .i64 a2_0, .int .i64 a2_1, .string a2_2] 28 (0, 0)) B14x24_ hb); replace BK572 := Aside0.mk (blk_below (g := gb572) (o := .cells #[.int .i64 0, .int .i64 0, .slice none 0 0] 26 (0, 0)) B14x25_ hb); replace BK592 := Aside0.mk (blk_below (g := gb592) (o := .cells #[.int .i64 a0_0, .int .i64 a0_1, .slice Ao40 y589.length co40] 26 (0, 0)) B14x26_ hb); replace HB := Aside0.mk (below_step B14x0_ hb); (try clear hb); have hnb74 := NB572_570.out; have hnc74 := NB570_572.out; have hnb75 := NB572_571.out; have hnc75 := NB571_572.out; obtain ⟨hcz76_0, hcz76_1, hcz76_2⟩ := cl3 BK572.out; obtain ⟨hfz76_0, hfz76_1, hfz76_2⟩ := fr3 BK572.out))
     refine bodyPost_ret (results_ct rfl _ _ gb572 26 #[.int .i64 0, .int .i64 0, .slice none 0 0] (0, 0) _ rfl B14x15_ Try.underlying26 rfl B14x20_) rfl ?_
     exact ⟨_, by first | rfl | (simp [errW_none, errW_some] <;> rfl) | (simp only [← hji21]; first | rfl | (simp [errW_none, errW_some] <;> rfl)) | (simp [*, errW_none, errW_some] <;> rfl), by first | exact Kd.R_nil _ _ _ _ _ | exact Kd.N_nil _ _ _ _ _ | exact Kd.V_nil _ _ _ _ _ | exact Kd.Q_nil _ _ _ _ _ | exact Kd.S_nil _ _ _ _ _, by repeat (first | (with_reducible first | exact HB.out | apply below_alloc | apply pw_below_drewN | apply below_drew1 | refine below_set ?_ GE570.out | refine below_set ?_ GE571.out | refine below_set ?_ GE572.out | refine below_set ?_ GE592.out) | exact HB.out)⟩

end Go.Proofs.Ytgffdijodnpolaa.QFnPuts
