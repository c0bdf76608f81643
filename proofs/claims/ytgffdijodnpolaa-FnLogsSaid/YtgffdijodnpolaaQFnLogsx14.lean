/- Functions that a law reaches, as functions of Lean, and the walks that show that the calls come to their answers: written by a program of this project out of the translation. No condition. -/
import Derived.Test.YtgffdijodnpolaaQFnLogsx0
import Derived.Test.YtgffdijodnpolaaQFnLogsx1
import Derived.Test.YtgffdijodnpolaaQFnLogsx12
import Derived.Test.YtgffdijodnpolaaQFnLogsx13
import Derived.Test.YtgffdijodnpolaaVFnLogsShort4
import Derived.Test.YtgffdijodnpolaaVFnLogshort3
import Derived.Test.YtgffdijodnpolaaVFnLogsShort2
import Derived.Test.YtgffdijodnpolaaVFnLogsShort
namespace Go.Proofs.Ytgffdijodnpolaa.QFnLogs
open Go.RowKit Go.Proofs.YtgffdijodnpolaaW.PrintWords Go.Proofs.YtgffdijodnpolaaW.PrintLast Go.Proofs.YtgffdijodnpolaaW.PrintMore Go.Proofs.Ytgffdijodnpolaa.Short
attribute [local go_sem] max2_int min2_int max_two min_two max_three min_three max_four min_four   -- for this text's walks alone
set_option linter.unusedVariables false
set_option linter.unusedSimpArgs false

attribute [local go_sem high] eqA28
theorem B14x0_ {p : Prop} (h : p := by repeat (first | (with_reducible first | exact HB.out | apply below_alloc | apply pw_below_drewN | apply below_drew1 | refine below_set ?_ GE530.out | refine below_set ?_ GE531.out) | exact HB.out)) : p := h
theorem B14x1_ {p : Prop} (h : p := by repeat (first | exact (Kd.C_below HR0_2.out HB.out) | (with_reducible refine Kd.C_alloc ?_ _) | (with_reducible refine Kd.C_drewN ?_ _) | (with_reducible refine Kd.C_drew ?_))) : p := h
theorem B14x2_ {p : Prop} (h : p := by (with_reducible repeat (first | refine blk_drewN ?_ _ | refine blk_drew ?_ | refine blk_alloc ?_ _)); exact BK530.out) : p := h
theorem B14x3_ {p : Prop} (h : p := by (with_reducible repeat (first | refine blk_drewN ?_ _ | refine blk_drew ?_ | refine blk_alloc ?_ _)); exact BK531.out) : p := h
theorem B14x4_ {p : Prop} (h : p := by (try simp only [List.map_toArray, List.map_cons, List.map_nil]); first | done | (simp only [hji18]; rfl) | rfl | (simp only [List.length_drop, List.length_take]; rfl)) : p := h
theorem B14x5_ {p : Prop} (h : p := by (try simp only [List.map_toArray, List.map_cons, List.map_nil]); first | done | rfl | (simp only [List.length_drop, List.length_take]; rfl)) : p := h
theorem B14x6_ {p : Prop} (h : p := by repeat (first | exact (Kd.C_below HR1_2.out HB.out) | (with_reducible refine Kd.C_alloc ?_ _) | (with_reducible refine Kd.C_drewN ?_ _) | (with_reducible refine Kd.C_drew ?_))) : p := h
theorem B14x7_ {p : Prop} (h : p := by first | (with_reducible assumption) | assumption) : p := h
theorem B14x8_ {p : Prop} (h : p := by kernel_rfl) : p := h
theorem B14x9_ {p : Prop} (h : p := by first | rfl | (simp [errW_none, errW_some] <;> rfl) | (simp only [← hji18]; first | rfl | (simp [errW_none, errW_some] <;> rfl)) | (simp [*, errW_none, errW_some] <;> rfl)) : p := h
theorem B14x10_ {p : Prop} (h : p := by first | rfl | (simp; done) | (simp only [← hji18] <;> (first | rfl | simp)) | (simp [*]; done)) : p := h
theorem B14x11_ {p : Prop} (h : p := by have := HJ2.out; have := HJ18.out; have := HK3.out; first | omega | exact Nat.le_refl _) : p := h
theorem B14x12_ {p : Prop} (h : p := by have := HJ2.out; first | omega | exact Nat.le_refl _) : p := h
/-! ### impl_Shared: function 19 -/
mutual
def impl_Shared.j0 : Nat → Bool → Int → Int → List (S28) → Int → Int → List (S28) → Option (Int)
 | 0, _, _, _, _, _, _, _ => none
 | k + 1, x15, x531000, x531001, x531002, x532000, x532001, x532002 => if x15 = true then (some (-1)) else ((impl_LogTerm.f x531000 x531001 x531002 (mx x531000 x532000)).bind fun t534 => (if t534 < 0 then (impl_Shared.j1 k (mx x531000 x532000) (mx x531000 x532000) true x531000 x531001 x531002 x532000 x532001 x532002) else ((impl_LogTerm.f x531000 x531001 x531002 (mx x531000 x532000)).bind fun t535 => ((impl_LogTerm.f x532000 x532001 x532002 (mx x531000 x532000)).bind fun t536 => (impl_Shared.j1 k (mx x531000 x532000) (mx x531000 x532000) (t535 != t536) x531000 x531001 x531002 x532000 x532001 x532002)))))
def impl_Shared.j1 : Nat → Int → Int → Bool → Int → Int → List (S28) → Int → Int → List (S28) → Option (Int)
 | 0, _, _, _, _, _, _, _, _, _ => none
 | k + 1, x5, x6, x34, x531000, x531001, x531002, x532000, x532001, x532002 => if x34 = true then (some (-1)) else (impl_Shared.l0 k x6 (wrap64 (x5 + 1)) x531000 x531001 x531002 x532000 x532001 x532002)
def impl_Shared.l0 : Nat → Int → Int → Int → Int → List (S28) → Int → Int → List (S28) → Option (Int)
 | 0, _, _, _, _, _, _, _, _ => none
 | k + 1, x6, x7, x531000, x531001, x531002, x532000, x532001, x532002 => (impl_LogTerm.f x531000 x531001 x531002 x7).bind fun t537 => (if t537 ≥ 0 then ((impl_LogTerm.f x532000 x532001 x532002 x7).bind fun t538 => (impl_Shared.j3 k x6 x7 (decide (t538 ≥ 0)) x531000 x531001 x531002 x532000 x532001 x532002)) else (impl_Shared.j3 k x6 x7 false x531000 x531001 x531002 x532000 x532001 x532002))
def impl_Shared.j3 : Nat → Int → Int → Bool → Int → Int → List (S28) → Int → Int → List (S28) → Option (Int)
 | 0, _, _, _, _, _, _, _, _, _ => none
 | k + 1, x6, x7, x46, x531000, x531001, x531002, x532000, x532001, x532002 => if x46 = true then (if 0 ≤ (wrap64 ((wrap64 (x7 - x531000)) - 1)) then (if (wrap64 ((wrap64 (x7 - x531000)) - 1)) < (x531002.length : Int) then (if 0 ≤ (wrap64 ((wrap64 (x7 - x532000)) - 1)) then (if (wrap64 ((wrap64 (x7 - x532000)) - 1)) < (x532002.length : Int) then (if (!(((rd_T28 x531002 (wrap64 ((wrap64 (x7 - x531000)) - 1))).f0) == ((rd_T28 x532002 (wrap64 ((wrap64 (x7 - x532000)) - 1))).f0)) || (!(((rd_T28 x531002 (wrap64 ((wrap64 (x7 - x531000)) - 1))).f1) == ((rd_T28 x532002 (wrap64 ((wrap64 (x7 - x532000)) - 1))).f1)) || (!((((rd_T28 x531002 (wrap64 ((wrap64 (x7 - x531000)) - 1))).f2).toList) == (((rd_T28 x532002 (wrap64 ((wrap64 (x7 - x532000)) - 1))).f2).toList))))) = true then (some x6) else (impl_Shared.l0 k x7 (wrap64 (x7 + 1)) x531000 x531001 x531002 x532000 x532001 x532002)) else (none)) else (none)) else (none)) else (none)) else (some x6)
end
def impl_Shared.f (k : Nat) (a0_0 : Int) (a0_1 : Int) (l0_2 : List (S28)) (a1_0 : Int) (a1_1 : Int) (l1_2 : List (S28)) : Option (Int) := (impl_LogOk.f k a0_0 a0_1 l0_2).bind fun t532 => (if t532 = true then ((impl_LogOk.f k a1_0 a1_1 l1_2).bind fun t533 => (impl_Shared.j0 k (!t533) a0_0 a0_1 l0_2 a1_0 a1_1 l1_2)) else (impl_Shared.j0 k true a0_0 a0_1 l0_2 a1_0 a1_1 l1_2))
theorem impl_Shared.mono_l : ∀ k, (∀ y0 y1 y2 y3 y4 y5 y6, LeO (impl_Shared.j0 k y0 y1 y2 y3 y4 y5 y6) (impl_Shared.j0 (k + 1) y0 y1 y2 y3 y4 y5 y6)) ∧ (∀ y0 y1 y2 y3 y4 y5 y6 y7 y8, LeO (impl_Shared.j1 k y0 y1 y2 y3 y4 y5 y6 y7 y8) (impl_Shared.j1 (k + 1) y0 y1 y2 y3 y4 y5 y6 y7 y8)) ∧ (∀ y0 y1 y2 y3 y4 y5 y6 y7, LeO (impl_Shared.l0 k y0 y1 y2 y3 y4 y5 y6 y7) (impl_Shared.l0 (k + 1) y0 y1 y2 y3 y4 y5 y6 y7)) ∧ (∀ y0 y1 y2 y3 y4 y5 y6 y7 y8, LeO (impl_Shared.j3 k y0 y1 y2 y3 y4 y5 y6 y7 y8) (impl_Shared.j3 (k + 1) y0 y1 y2 y3 y4 y5 y6 y7 y8))
 | 0 => ⟨fun _ _ _ _ _ _ _ r h => by simp [impl_Shared.j0] at h, fun _ _ _ _ _ _ _ _ _ r h => by simp [impl_Shared.j1] at h, fun _ _ _ _ _ _ _ _ r h => by simp [impl_Shared.l0] at h, fun _ _ _ _ _ _ _ _ _ r h => by simp [impl_Shared.j3] at h⟩
 | k + 1 => by
  obtain ⟨ih0, ih1, ih2, ih3⟩ := impl_Shared.mono_l k
  refine ⟨?_, ?_, ?_, ?_⟩
  ·intro y0 y1 y2 y3 y4 y5 y6
   unfold impl_Shared.j0
   repeat' first
   | (with_reducible exact ih0 _ _ _ _ _ _ _)
   | (with_reducible exact ih1 _ _ _ _ _ _ _ _ _)
   | (with_reducible exact ih2 _ _ _ _ _ _ _ _)
   | (with_reducible exact ih3 _ _ _ _ _ _ _ _ _)
   | (with_reducible exact impl_LogOk.mono _ _ _ _)
   | (with_reducible first | exact LeO.refl _ | exact LeO.none _ | refine LeO.ite ?_ ?_ | refine LeO.bind ?_ (fun _ => ?_))
   | exact ih0 _ _ _ _ _ _ _
   | exact ih1 _ _ _ _ _ _ _ _ _
   | exact ih2 _ _ _ _ _ _ _ _
   | exact ih3 _ _ _ _ _ _ _ _ _
   | exact impl_LogOk.mono _ _ _ _
  ·intro y0 y1 y2 y3 y4 y5 y6 y7 y8
   unfold impl_Shared.j1
   repeat' first
   | (with_reducible exact ih0 _ _ _ _ _ _ _)
   | (with_reducible exact ih1 _ _ _ _ _ _ _ _ _)
   | (with_reducible exact ih2 _ _ _ _ _ _ _ _)
   | (with_reducible exact ih3 _ _ _ _ _ _ _ _ _)
   | (with_reducible exact impl_LogOk.mono _ _ _ _)
   | (with_reducible first | exact LeO.refl _ | exact LeO.none _ | refine LeO.ite ?_ ?_ | refine LeO.bind ?_ (fun _ => ?_))
   | exact ih0 _ _ _ _ _ _ _
   | exact ih1 _ _ _ _ _ _ _ _ _
   | exact ih2 _ _ _ _ _ _ _ _
   | exact ih3 _ _ _ _ _ _ _ _ _
   | exact impl_LogOk.mono _ _ _ _
  ·intro y0 y1 y2 y3 y4 y5 y6 y7
   unfold impl_Shared.l0
   repeat' first
   | (with_reducible exact ih0 _ _ _ _ _ _ _)
   | (with_reducible exact ih1 _ _ _ _ _ _ _ _ _)
   | (with_reducible exact ih2 _ _ _ _ _ _ _ _)
   | (with_reducible exact ih3 _ _ _ _ _ _ _ _ _)
   | (with_reducible exact impl_LogOk.mono _ _ _ _)
   | (with_reducible first | exact LeO.refl _ | exact LeO.none _ | refine LeO.ite ?_ ?_ | refine LeO.bind ?_ (fun _ => ?_))
   | exact ih0 _ _ _ _ _ _ _
   | exact ih1 _ _ _ _ _ _ _ _ _
   | exact ih2 _ _ _ _ _ _ _ _
   | exact ih3 _ _ _ _ _ _ _ _ _
   | exact impl_LogOk.mono _ _ _ _
  ·intro y0 y1 y2 y3 y4 y5 y6 y7 y8
   unfold impl_Shared.j3
   repeat' first
   | (with_reducible exact ih0 _ _ _ _ _ _ _)
   | (with_reducible exact ih1 _ _ _ _ _ _ _ _ _)
   | (with_reducible exact ih2 _ _ _ _ _ _ _ _)
   | (with_reducible exact ih3 _ _ _ _ _ _ _ _ _)
   | (with_reducible exact impl_LogOk.mono _ _ _ _)
   | (with_reducible first | exact LeO.refl _ | exact LeO.none _ | refine LeO.ite ?_ ?_ | refine LeO.bind ?_ (fun _ => ?_))
   | exact ih0 _ _ _ _ _ _ _
   | exact ih1 _ _ _ _ _ _ _ _ _
   | exact ih2 _ _ _ _ _ _ _ _
   | exact ih3 _ _ _ _ _ _ _ _ _
   | exact impl_LogOk.mono _ _ _ _
theorem impl_Shared.mono : ∀ a0 a1 a2 a3 a4 a5 k, LeO (impl_Shared.f k a0 a1 a2 a3 a4 a5) (impl_Shared.f (k + 1) a0 a1 a2 a3 a4 a5) := by
 intro a0 a1 a2 a3 a4 a5 k
 obtain ⟨ih0, ih1, ih2, ih3⟩ := impl_Shared.mono_l k
 unfold impl_Shared.f
 repeat' first
   | (with_reducible exact ih0 _ _ _ _ _ _ _)
   | (with_reducible exact ih1 _ _ _ _ _ _ _ _ _)
   | (with_reducible exact ih2 _ _ _ _ _ _ _ _)
   | (with_reducible exact ih3 _ _ _ _ _ _ _ _ _)
   | (with_reducible exact impl_LogOk.mono _ _ _ _)
   | (with_reducible first | exact LeO.refl _ | exact LeO.none _ | refine LeO.ite ?_ ?_ | refine LeO.bind ?_ (fun _ => ?_))
   | exact ih0 _ _ _ _ _ _ _
   | exact ih1 _ _ _ _ _ _ _ _ _
   | exact ih2 _ _ _ _ _ _ _ _
   | exact ih3 _ _ _ _ _ _ _ _ _
   | exact impl_LogOk.mono _ _ _ _
def impl_Shared.T5 : Bool × List (List Nat × List Nat) := (true, [([], []), ([], []), ([0, 1], [0, 1]), ([2], [2]), ([3, 2], [3]), ([4], [4]), ([4], [4]), ([5, 6, 4, 4], [4, 5, 6]), ([4], [4]), ([4], [4]), ([8, 9, 7, 4], [4, 8, 9]), ([7, 10, 4], [4, 7, 10]), ([4, 11], [4, 11])])
def impl_Shared.B5 : List Nat := [0, 0, 3, 7, 15, 31, 31, 127, 31, 31, 1023, 2047, 4095]
theorem impl_Shared.tab5 : rtab .any (opsOf Try.f19 5) = impl_Shared.T5 := by kernel_rfl
theorem impl_Shared.bits5 : waitsOk impl_Shared.T5.2 impl_Shared.B5 = true := by kernel_rfl
def impl_Shared.T10 : Bool × List (List Nat × List Nat) := (true, [([], []), ([0], [0]), ([], []), ([], []), ([3], [3]), ([2, 4], [2, 4]), ([5], [5]), ([1, 6], [1, 6]), ([7], [7]), ([], []), ([9], [9]), ([], []), ([], []), ([12], [12]), ([11, 13], [11, 13]), ([14], [14]), ([10, 15], [10, 15]), ([16], [16]), ([8, 17], [8, 17])])
def impl_Shared.B10 : List Nat := [0, 1, 0, 0, 8, 28, 60, 127, 255, 0, 512, 0, 0, 4096, 14336, 30720, 65024, 130560, 262143]
theorem impl_Shared.tab10 : rtab .any (opsOf Try.f19 10) = impl_Shared.T10 := by kernel_rfl
theorem impl_Shared.bits10 : waitsOk impl_Shared.T10.2 impl_Shared.B10 = true := by kernel_rfl
set_option maxHeartbeats 8000000 in
set_option maxRecDepth 100000 in
theorem impl_Shared.calls (k : Nat) (a0_0 : Int) (a0_1 : Int) (A0_2 : Option Addr) (c0_2 : Nat) (l0_2 : List (S28)) (a1_0 : Int) (a1_1 : Int) (A1_2 : Option Addr) (c1_2 : Nat) (l1_2 : List (S28)) (r : Int) (w : World) (hr0_2 : Kd.C k28 w A0_2 l0_2.length l0_2) (hc0_2 : l0_2.length ≤ c0_2) (hr1_2 : Kd.C k28 w A1_2 l1_2.length l1_2) (hc1_2 : l1_2.length ≤ c1_2) (h : impl_Shared.f k a0_0 a0_1 l0_2 a1_0 a1_1 l1_2 = some r) :
  Calls Try.prog 19 #[.agg #[.int .i64 a0_0, .int .i64 a0_1, .slice A0_2 l0_2.length c0_2], .agg #[.int .i64 a1_0, .int .i64 a1_1, .slice A1_2 l1_2.length c1_2]] w fun e w' => e = .returned (.int .i64 r) ∧ Below w.heap.size w w' := by
 have hu26 := Try.underlying26
 have hu28 := Try.underlying28
 have HR0_2 := Aside0.mk hr0_2
 have HC0_2 := Aside0.mk hc0_2
 clear hr0_2 hc0_2
 have HR1_2 := Aside0.mk hr1_2
 have HC1_2 := Aside0.mk hc1_2
 clear hr1_2 hc1_2
 have HB := Aside0.mk (Below.refl w.heap.size w)
 have H : ((impl_LogOk.f k a0_0 a0_1 l0_2).bind fun t532 => (if t532 = true then ((impl_LogOk.f k a1_0 a1_1 l1_2).bind fun t533 => (impl_Shared.j0 k (!t533) a0_0 a0_1 l0_2 a1_0 a1_1 l1_2)) else (impl_Shared.j0 k true a0_0 a0_1 l0_2 a1_0 a1_1 l1_2))) = some r := h
 clear h
 have HC3 := Aside0.mk H
 clear H
 go_enter Try.func19, Try.ntmps19
 go_upto_region 1 with (first | ((with_reducible refine gate_dst (N := 2) rfl ?_); refine box_event ?hg (N := 2) ?hd (cs := #[.int .i64 a0_0, .int .i64 a0_1, .slice A0_2 l0_2.length c0_2]) (t := 26) ?hr ?_; (case hd => rfl); (case hg => rfl); (case hr => first | (go_simp; done) | (go_simp; rfl)); intro gb530 hg w4 hbox hb; have BK530 := Aside0.mk (hbox); have GW530 := Aside0.mk ((bs hg (below_size HB.out))); have GE530 := Aside0.mk ((bs hg (below_size HB.out))); replace HB := Aside0.mk (below_step (by repeat (first | (with_reducible first | exact HB.out | apply below_alloc | apply pw_below_drewN | apply below_drew1) | exact HB.out)) hb); clear hb hbox hg) | ((with_reducible refine gate_dst (N := 3) rfl ?_); refine box_event ?hg (N := 3) ?hd (cs := #[.int .i64 a1_0, .int .i64 a1_1, .slice A1_2 l1_2.length c1_2]) (t := 26) ?hr ?_; (case hd => rfl); (case hg => rfl); (case hr => first | (go_simp; done) | (go_simp; rfl)); intro gb531 hg w5 hbox hb; have BK531 := Aside0.mk (hbox); have GW531 := Aside0.mk ((bs hg (below_size HB.out))); have GE531 := Aside0.mk ((bs hg (below_size HB.out))); replace HB := Aside0.mk (below_step (by repeat (first | (with_reducible first | exact HB.out | apply below_alloc | apply pw_below_drewN | apply below_drew1 | refine below_set ?_ GE530.out) | exact HB.out)) hb); have NB530_531 := Aside0.mk ((nl hg (blk_lt BK530.out))); have NB531_530 := Aside0.mk ((ng hg (blk_lt BK530.out))); replace BK530 := Aside0.mk (bb BK530.out hb); clear hb hbox hg))
 (try simp only [Act.put, List.setIfInBounds_toArray, List.set_cons_zero, List.set_cons_succ])
 go_cut [15] (fun v15 wc => ∃ (kq : Nat) (x15_2 : Bool), v15 = .bool x15_2 ∧ Aside0 (impl_Shared.j0 kq x15_2 a0_0 a0_1 l0_2 a1_0 a1_1 l1_2 = some r) ∧ Aside0 (kq ≤ k) ∧ Aside0 (wc.heap[gb530]? = some (.cells #[.int .i64 a0_0, .int .i64 a0_1, (.slice A0_2 l0_2.length c0_2)] 26 (0, 0))) ∧ Aside0 (wc.heap[gb531]? = some (.cells #[.int .i64 a1_0, .int .i64 a1_1, (.slice A1_2 l1_2.length c1_2)] 26 (0, 0))) ∧ Aside0 (Below w.heap.size w wc))
 case first =>
  have H := HC3.out
  clear HC3
  replace H := bsi H
  obtain ⟨t532, A6, H⟩ := H
  (try dsimp only at H)
  by_cases c7 : t532 = true
  ·subst c7
   rw [if_pos rfl] at H
   replace H := bsi H
   obtain ⟨t533, A8, H⟩ := H
   (try dsimp only at H)
   have H' := Aside0.mk H
   clear H
   have hnb9 := NB530_531.out
   have hnc9 := NB531_530.out
   obtain ⟨hcz10_0, hcz10_1, hcz10_2⟩ := cl3 BK530.out
   obtain ⟨hfz10_0, hfz10_1, hfz10_2⟩ := fr3 BK530.out
   go_wp2_with (first | ((with_reducible refine gate_callee (f := 18) rfl ?_); refine goesL_ (some 9) rfl rfl Try.func18 B14x8_ rfl #[.agg #[.int .i64 a0_0, .int .i64 a0_1, .slice A0_2 l0_2.length c0_2]] rfl B14x5_ ?_; (with_reducible refine (impl_LogOk.calls k a0_0 a0_1 _ _ l0_2 true _ ?side1 ?side2 A6.out).mono ?_); (case side1 => exact B14x1_); (case side2 => exact HC0_2.out); rintro e w11 ⟨rfl, hb⟩; refine ⟨_, rfl, ?_⟩; replace BK530 := Aside0.mk (bb BK530.out hb); replace BK531 := Aside0.mk (bb BK531.out hb); replace HB := Aside0.mk (below_step B14x0_ hb); (try clear hb); obtain ⟨hcz12_0, hcz12_1, hcz12_2⟩ := cl3 BK531.out; obtain ⟨hfz12_0, hfz12_1, hfz12_2⟩ := fr3 BK531.out) | (go_at_call 18; (with_reducible refine (impl_LogOk.calls k a1_0 a1_1 _ _ l1_2 t533 _ ?side1 ?side2 A8.out).mono ?_); (case side1 => exact B14x6_); (case side2 => exact HC1_2.out); rintro e w13 ⟨rfl, hb⟩; replace BK530 := Aside0.mk (bb BK530.out hb); replace BK531 := Aside0.mk (bb BK531.out hb); replace HB := Aside0.mk (below_step B14x0_ hb); (try clear hb)))
   go_meet
   case rel => exact ⟨_, (!t533), (be_), H', ⟨(by first | omega | exact Nat.le_refl _)⟩, ⟨B14x2_⟩, ⟨B14x3_⟩, ⟨B14x0_⟩⟩
  ·replace c7 := Bool.eq_false_iff.mpr c7
   subst c7
   rw [if_neg (show ¬ (false = true) by decide)] at H
   have H' := Aside0.mk H
   clear H
   have hnb14 := NB530_531.out
   have hnc14 := NB531_530.out
   obtain ⟨hcz15_0, hcz15_1, hcz15_2⟩ := cl3 BK530.out
   obtain ⟨hfz15_0, hfz15_1, hfz15_2⟩ := fr3 BK530.out
   go_wp2_with (first | ((with_reducible refine gate_callee (f := 18) rfl ?_); refine goesL_ (some 9) rfl rfl Try.func18 B14x8_ rfl #[.agg #[.int .i64 a0_0, .int .i64 a0_1, .slice A0_2 l0_2.length c0_2]] rfl B14x5_ ?_; (with_reducible refine (impl_LogOk.calls k a0_0 a0_1 _ _ l0_2 false _ ?side1 ?side2 A6.out).mono ?_); (case side1 => exact B14x1_); (case side2 => exact HC0_2.out); rintro e w16 ⟨rfl, hb⟩; refine ⟨_, rfl, ?_⟩; replace BK530 := Aside0.mk (bb BK530.out hb); replace BK531 := Aside0.mk (bb BK531.out hb); replace HB := Aside0.mk (below_step B14x0_ hb); (try clear hb)))
   go_meet
   case rel => exact ⟨_, (true), (be_), H', ⟨(by first | omega | exact Nat.le_refl _)⟩, ⟨B14x2_⟩, ⟨B14x3_⟩, ⟨B14x0_⟩⟩
 case rest =>
  clear HC3
  obtain ⟨kq, x15_2, rfl, HA, HJ2, BK530, BK531, HB⟩ := hcut
  cases kq with
  | zero => exact absurd HA.out (by simp [impl_Shared.j0])
  | succ kj2 =>
   have H := HA.out
   clear HA
   simp only [impl_Shared.j0] at H
   by_cases c17 : x15_2 = true
   ·subst c17
    rw [if_pos rfl] at H
    obtain rfl := Option.some.inj H
    go_wp2
    go_ret
    exact ⟨(by first | rfl | (simp [errW_none, errW_some] <;> rfl) | (simp [*, errW_none, errW_some] <;> rfl)), B14x0_⟩
   replace c17 := Bool.eq_false_iff.mpr c17
   subst c17
   rw [if_neg (show ¬ (false = true) by decide)] at H
   obtain ⟨ji18, hji18⟩ : ∃ j_ : Int, (mx a0_0 a1_0) = j_ := ⟨_, rfl⟩
   replace H : ((impl_LogTerm.f a0_0 a0_1 l0_2 (ji18)).bind fun t534 => (if t534 < 0 then (impl_Shared.j1 kj2 ji18 ji18 true a0_0 a0_1 l0_2 a1_0 a1_1 l1_2) else ((impl_LogTerm.f a0_0 a0_1 l0_2 (ji18)).bind fun t535 => ((impl_LogTerm.f a1_0 a1_1 l1_2 (ji18)).bind fun t536 => (impl_Shared.j1 kj2 ji18 ji18 (t535 != t536) a0_0 a0_1 l0_2 a1_0 a1_1 l1_2))))) = some r := by first | (rw [hji18] at H; exact H) | (simp only [hji18] at H ⊢; exact H)
   have hji18_ : (if a0_0 < a1_0 then a1_0 else a0_0) = ji18 := hji18
   have HC19 := Aside0.mk H
   clear H
   have hnb20 := NB530_531.out
   have hnc20 := NB531_530.out
   obtain ⟨hcz21_0, hcz21_1, hcz21_2⟩ := cl3 BK530.out
   obtain ⟨hfz21_0, hfz21_1, hfz21_2⟩ := fr3 BK530.out
   obtain ⟨hcz22_0, hcz22_1, hcz22_2⟩ := cl3 BK531.out
   obtain ⟨hfz22_0, hfz22_1, hfz22_2⟩ := fr3 BK531.out
   go_upto_region 5 with (fail)
   go_cut [34] (fun v34 wc => ∃ (kq : Nat) (x34_18 : Bool), v34 = .bool x34_18 ∧ Aside0 (impl_Shared.j1 kq ji18 ji18 x34_18 a0_0 a0_1 l0_2 a1_0 a1_1 l1_2 = some r) ∧ Aside0 (kq ≤ kj2) ∧ Aside0 (wc.heap[gb530]? = some (.cells #[.int .i64 a0_0, .int .i64 a0_1, (.slice A0_2 l0_2.length c0_2)] 26 (0, 0))) ∧ Aside0 (wc.heap[gb531]? = some (.cells #[.int .i64 a1_0, .int .i64 a1_1, (.slice A1_2 l1_2.length c1_2)] 26 (0, 0))) ∧ Aside0 (Below w.heap.size w wc))
   case first =>
    have H := HC19.out
    clear HC19
    replace H := bsi H
    obtain ⟨t534, A23, H⟩ := H
    (try dsimp only at H)
    by_cases c24 : t534 < 0
    ·rw [if_pos c24] at H
     have c24b0 : decide (t534 < 0) = true := decide_eq_true c24
     clear c24
     (first | rw [c24b0] | (simp only [i64_w, i32_w]; rw [c24b0]) | skip)
     have H' := Aside0.mk H
     clear H
     try go_wp2
     replace BK530 := Aside0.mk (blk_drew BK530.out)
     replace BK531 := Aside0.mk (blk_drew BK531.out)
     replace HB := Aside0.mk (below_drew1 HB.out)
     refine start_ (n := 13) (S := fun w' => w'.cell? ⟨gb530, 0, none⟩ = some (.int .i64 a0_0) ∧ w'.cell? ⟨gb530, 1, none⟩ = some (.int .i64 a0_1) ∧ w'.cell? ⟨gb530, 2, none⟩ = some (.slice A0_2 l0_2.length c0_2)) (ds := []) #[false, false, false, false, false, false, false, false, false, false, false, false, false] B14x8_ rfl rfl ⟨(blk_cell BK530.out 0).trans rfl, (blk_cell BK530.out 1).trans rfl, (blk_cell BK530.out 2).trans rfl⟩ (fun hHeld => ?_); refine with_tabW impl_Shared.tab5 impl_Shared.bits5 (fun HT_ HW_ => ?_)
     generalize wc.drew = w25 at BK530 BK531 HB hHeld ⊢
     refine pu_ 1 23 HT_ ?_
     refine ta_ 0 22 HT_ HW_ hHeld ?_
     refine one_ (i := 2) (N := some 24) #[true, true, true, false, false, false, false, false, false, false, false, false, false] rfl rfl (one_of HT_.out B14x8_) (by decide) (fun K hK => ?_)
     refine goes_ Try.func15 B14x8_ rfl #[.agg #[.int .i64 a0_0, .int .i64 a0_1, .slice A0_2 l0_2.length c0_2], .int .i64 ji18] (by rfl) rfl rfl B14x4_ ?_
     with_reducible refine (impl_LogTerm.calls a0_0 a0_1 _ _ l0_2 ji18 t534 _ ?side1 ?side2 A23.out).mono ?_
     (case side1 => exact B14x1_)
     (case side2 => exact HC0_2.out)
     rintro e w26 ⟨rfl, hb⟩
     refine ⟨_, rfl, ?_⟩
     replace BK530 := Aside0.mk (bb BK530.out hb)
     replace BK531 := Aside0.mk (bb BK531.out hb)
     replace HB := Aside0.mk (below_step B14x0_ hb)
     (try clear hb)
     (try clear hb2)
     (try clear hk)
     (try clear hi)
     refine hK.out _ _ ⟨(blk_cell BK530.out 0).trans rfl, (blk_cell BK530.out 1).trans rfl, (blk_cell BK530.out 2).trans rfl⟩ (fun hHeld => ?_)
     clear hK K
     refine norm_ (a' := ?_) ?_ ?_
     rotate_left
     ·show Act.put _ (some 24) _ = _
      simp only [Act.put, List.setIfInBounds_toArray, List.set_cons_zero, List.set_cons_succ, i64_w, i32_w]
      rfl
     refine pu_ 3 25 HT_ ?_
     refine pu_ 4 26 HT_ ?_
     refine of_ 5 27 HT_ ?_
     refine of_ 6 28 HT_ ?_
     refine of_ 7 29 HT_ ?_
     refine of_ 8 30 HT_ ?_
     refine of_ 9 31 HT_ ?_
     refine of_ 10 32 HT_ ?_
     refine of_ 11 33 HT_ ?_
     refine pu_ 12 34 HT_ ?_
     refine done_ (done_of HT_.out B14x8_) ?_
     try go_wp2
     go_meet
     case rel => exact ⟨_, (true), (be_), H', ⟨B14x12_⟩, ⟨B14x2_⟩, ⟨B14x3_⟩, ⟨B14x0_⟩⟩
    ·rw [if_neg c24] at H
     have c24b0 : decide (t534 < 0) = false := decide_eq_false c24
     clear c24
     (first | rw [c24b0] | (simp only [i64_w, i32_w]; rw [c24b0]) | skip)
     replace H := bsi H
     obtain ⟨t535, A27, H⟩ := H
     (try dsimp only at H)
     replace H := bsi H
     obtain ⟨t536, A28, H⟩ := H
     (try dsimp only at H)
     have H' := Aside0.mk H
     clear H
     try go_wp2
     replace BK530 := Aside0.mk (blk_drew BK530.out)
     replace BK531 := Aside0.mk (blk_drew BK531.out)
     replace HB := Aside0.mk (below_drew1 HB.out)
     refine start_ (n := 13) (S := fun w' => w'.cell? ⟨gb530, 0, none⟩ = some (.int .i64 a0_0) ∧ w'.cell? ⟨gb530, 1, none⟩ = some (.int .i64 a0_1) ∧ w'.cell? ⟨gb530, 2, none⟩ = some (.slice A0_2 l0_2.length c0_2) ∧ w'.cell? ⟨gb531, 0, none⟩ = some (.int .i64 a1_0) ∧ w'.cell? ⟨gb531, 1, none⟩ = some (.int .i64 a1_1) ∧ w'.cell? ⟨gb531, 2, none⟩ = some (.slice A1_2 l1_2.length c1_2)) (ds := []) #[false, false, false, false, false, false, false, false, false, false, false, false, false] B14x8_ rfl rfl ⟨(blk_cell BK530.out 0).trans rfl, (blk_cell BK530.out 1).trans rfl, (blk_cell BK530.out 2).trans rfl, (blk_cell BK531.out 0).trans rfl, (blk_cell BK531.out 1).trans rfl, (blk_cell BK531.out 2).trans rfl⟩ (fun hHeld => ?_); refine with_tabW impl_Shared.tab5 impl_Shared.bits5 (fun HT_ HW_ => ?_)
     generalize wc.drew = w29 at BK530 BK531 HB hHeld ⊢
     refine pu_ 1 23 HT_ ?_
     refine ta_ 0 22 HT_ HW_ hHeld ?_
     refine one_ (i := 2) (N := some 24) #[true, true, true, false, false, false, false, false, false, false, false, false, false] rfl rfl (one_of HT_.out B14x8_) (by decide) (fun K hK => ?_)
     refine goes_ Try.func15 B14x8_ rfl #[.agg #[.int .i64 a0_0, .int .i64 a0_1, .slice A0_2 l0_2.length c0_2], .int .i64 ji18] (by rfl) rfl rfl B14x4_ ?_
     with_reducible refine (impl_LogTerm.calls a0_0 a0_1 _ _ l0_2 ji18 t534 _ ?side1 ?side2 A23.out).mono ?_
     (case side1 => exact B14x1_)
     (case side2 => exact HC0_2.out)
     rintro e w30 ⟨rfl, hb⟩
     refine ⟨_, rfl, ?_⟩
     replace BK530 := Aside0.mk (bb BK530.out hb)
     replace BK531 := Aside0.mk (bb BK531.out hb)
     replace HB := Aside0.mk (below_step B14x0_ hb)
     (try clear hb)
     (try clear hb2)
     (try clear hk)
     (try clear hi)
     refine hK.out _ _ ⟨(blk_cell BK530.out 0).trans rfl, (blk_cell BK530.out 1).trans rfl, (blk_cell BK530.out 2).trans rfl, (blk_cell BK531.out 0).trans rfl, (blk_cell BK531.out 1).trans rfl, (blk_cell BK531.out 2).trans rfl⟩ (fun hHeld => ?_)
     clear hK K
     refine norm_ (a' := ?_) ?_ ?_
     rotate_left
     ·show Act.put _ (some 24) _ = _
      simp only [Act.put, List.setIfInBounds_toArray, List.set_cons_zero, List.set_cons_succ, i64_w, i32_w]
      rfl
     refine pu_ 3 25 HT_ ?_
     refine pu_ 4 26 HT_ ?_
     refine pu_ 6 28 HT_ ?_
     refine pu_ 9 31 HT_ ?_
     refine ta_ 5 27 HT_ HW_ hHeld ?_
     refine ta_ 8 30 HT_ HW_ hHeld ?_
     refine one_ (i := 7) (N := some 29) #[true, true, true, true, true, true, true, true, true, true, false, false, false] rfl rfl (one_of HT_.out B14x8_) (by decide) (fun K hK => ?_)
     refine goes_ Try.func15 B14x8_ rfl #[.agg #[.int .i64 a0_0, .int .i64 a0_1, .slice A0_2 l0_2.length c0_2], .int .i64 ji18] (by rfl) rfl rfl B14x4_ ?_
     with_reducible refine (impl_LogTerm.calls a0_0 a0_1 _ _ l0_2 ji18 t535 _ ?side1 ?side2 A27.out).mono ?_
     (case side1 => exact B14x1_)
     (case side2 => exact HC0_2.out)
     rintro e w31 ⟨rfl, hb⟩
     refine ⟨_, rfl, ?_⟩
     replace BK530 := Aside0.mk (bb BK530.out hb)
     replace BK531 := Aside0.mk (bb BK531.out hb)
     replace HB := Aside0.mk (below_step B14x0_ hb)
     (try clear hb)
     (try clear hb2)
     (try clear hk)
     (try clear hi)
     refine hK.out _ _ ⟨(blk_cell BK530.out 0).trans rfl, (blk_cell BK530.out 1).trans rfl, (blk_cell BK530.out 2).trans rfl, (blk_cell BK531.out 0).trans rfl, (blk_cell BK531.out 1).trans rfl, (blk_cell BK531.out 2).trans rfl⟩ (fun hHeld => ?_)
     clear hK K
     refine norm_ (a' := ?_) ?_ ?_
     rotate_left
     ·show Act.put _ (some 29) _ = _
      simp only [Act.put, List.setIfInBounds_toArray, List.set_cons_zero, List.set_cons_succ, i64_w, i32_w]
      rfl
     refine one_ (i := 10) (N := some 32) #[true, true, true, true, true, true, true, true, true, true, true, false, false] rfl rfl (one_of HT_.out B14x8_) (by decide) (fun K hK => ?_)
     refine goes_ Try.func15 B14x8_ rfl #[.agg #[.int .i64 a1_0, .int .i64 a1_1, .slice A1_2 l1_2.length c1_2], .int .i64 ji18] (by rfl) rfl rfl B14x4_ ?_
     with_reducible refine (impl_LogTerm.calls a1_0 a1_1 _ _ l1_2 ji18 t536 _ ?side1 ?side2 A28.out).mono ?_
     (case side1 => exact B14x6_)
     (case side2 => exact HC1_2.out)
     rintro e w32 ⟨rfl, hb⟩
     refine ⟨_, rfl, ?_⟩
     replace BK530 := Aside0.mk (bb BK530.out hb)
     replace BK531 := Aside0.mk (bb BK531.out hb)
     replace HB := Aside0.mk (below_step B14x0_ hb)
     (try clear hb)
     (try clear hb2)
     (try clear hk)
     (try clear hi)
     refine hK.out _ _ ⟨(blk_cell BK530.out 0).trans rfl, (blk_cell BK530.out 1).trans rfl, (blk_cell BK530.out 2).trans rfl, (blk_cell BK531.out 0).trans rfl, (blk_cell BK531.out 1).trans rfl, (blk_cell BK531.out 2).trans rfl⟩ (fun hHeld => ?_)
     clear hK K
     refine norm_ (a' := ?_) ?_ ?_
     rotate_left
     ·show Act.put _ (some 32) _ = _
      simp only [Act.put, List.setIfInBounds_toArray, List.set_cons_zero, List.set_cons_succ, i64_w, i32_w]
      rfl
     refine pu_ 11 33 HT_ ?_
     refine pu_ 12 34 HT_ ?_
     refine done_ (done_of HT_.out B14x8_) ?_
     try go_wp2
     go_meet
     case rel => exact ⟨_, ((t535 != t536)), (be_), H', ⟨B14x12_⟩, ⟨B14x2_⟩, ⟨B14x3_⟩, ⟨B14x0_⟩⟩
   case rest =>
    clear HC19
    try clear c17
    try clear hcz21_0
    try clear hcz21_1
    try clear hcz21_2
    try clear hcz22_0
    try clear hcz22_1
    try clear hcz22_2
    try clear hfz21_0
    try clear hfz21_1
    try clear hfz21_2
    try clear hfz22_0
    try clear hfz22_1
    try clear hfz22_2
    obtain ⟨kq, x34_18, rfl, HA, HJ18, BK530, BK531, HB⟩ := hcut
    cases kq with
    | zero => exact absurd HA.out (by simp [impl_Shared.j1])
    | succ kj18 =>
     have H := HA.out
     clear HA
     simp only [impl_Shared.j1] at H
     by_cases c33 : x34_18 = true
     ·subst c33
      rw [if_pos rfl] at H
      obtain rfl := Option.some.inj H
      go_wp2
      go_ret
      exact ⟨B14x9_, B14x0_⟩
     replace c33 := Bool.eq_false_iff.mpr c33
     subst c33
     rw [if_neg (show ¬ (false = true) by decide)] at H
     have H' := Aside0.mk H
     clear H
     go_wp2
     go_loopg [6, 7] kj18 (fun kq v6 v7 w' => ∃ (x6_3 : Int) (x7_3 : Int), v6 = .int .i64 x6_3 ∧ v7 = .int .i64 x7_3 ∧ Aside0 (impl_Shared.l0 kq x6_3 x7_3 a0_0 a0_1 l0_2 a1_0 a1_1 l1_2 = some r) ∧ Aside0 (kq ≤ kj18) ∧ Aside0 (w'.heap[gb530]? = some (.cells #[.int .i64 a0_0, .int .i64 a0_1, (.slice A0_2 l0_2.length c0_2)] 26 (0, 0))) ∧ Aside0 (w'.heap[gb531]? = some (.cells #[.int .i64 a1_0, .int .i64 a1_1, (.slice A1_2 l1_2.length c1_2)] 26 (0, 0))) ∧ Aside0 (Below w.heap.size w w'))
     case atStart => exact ⟨(ji18), (wrap64 (ji18 + 1)), B14x10_, B14x10_, H', ⟨Nat.le_refl _⟩, ⟨B14x2_⟩, ⟨B14x3_⟩, ⟨B14x0_⟩⟩
     case round =>
      clear H'
      try clear c17
      try clear c33
      try clear hcz21_0
      try clear hcz21_1
      try clear hcz21_2
      try clear hcz22_0
      try clear hcz22_1
      try clear hcz22_2
      try clear hfz21_0
      try clear hfz21_1
      try clear hfz21_2
      try clear hfz22_0
      try clear hfz22_1
      try clear hfz22_2
      obtain ⟨x6_3, x7_3, rfl, rfl, HA, HK3, BK530, BK531, HB⟩ := hrel
      cases gk with
      | zero => exact absurd HA.out (by simp [impl_Shared.l0])
      | succ k3 =>
       have H := HA.out
       clear HA
       simp only [impl_Shared.l0] at H
       have HC34 := Aside0.mk H
       clear H
       go_upto_region 8 with (fail)
       go_cut [46] (fun v46 wc => ∃ (kq : Nat) (x46_33 : Bool), v46 = .bool x46_33 ∧ Aside0 (impl_Shared.j3 kq x6_3 x7_3 x46_33 a0_0 a0_1 l0_2 a1_0 a1_1 l1_2 = some r) ∧ Aside0 (kq ≤ k3) ∧ Aside0 (wc.heap[gb530]? = some (.cells #[.int .i64 a0_0, .int .i64 a0_1, (.slice A0_2 l0_2.length c0_2)] 26 (0, 0))) ∧ Aside0 (wc.heap[gb531]? = some (.cells #[.int .i64 a1_0, .int .i64 a1_1, (.slice A1_2 l1_2.length c1_2)] 26 (0, 0))) ∧ Aside0 (Below w.heap.size w wc))
       case first =>
        have H := HC34.out
        clear HC34
        replace H := bsi H
        obtain ⟨t537, A35, H⟩ := H
        (try dsimp only at H)
        by_cases c36 : t537 ≥ 0
        ·rw [if_pos c36] at H
         have c36b0 : decide (0 ≤ t537) = true := decide_eq_true c36
         clear c36
         (first | rw [c36b0] | (simp only [i64_w, i32_w]; rw [c36b0]) | skip)
         replace H := bsi H
         obtain ⟨t538, A37, H⟩ := H
         (try dsimp only at H)
         have H' := Aside0.mk H
         clear H
         have hnb38 := NB530_531.out
         have hnc38 := NB531_530.out
         obtain ⟨hcz39_0, hcz39_1, hcz39_2⟩ := cl3 BK530.out
         obtain ⟨hfz39_0, hfz39_1, hfz39_2⟩ := fr3 BK530.out
         go_wp2_with (first | ((with_reducible refine gate_callee (f := 15) rfl ?_); refine goesL_ (some 39) rfl rfl Try.func15 B14x8_ rfl #[.agg #[.int .i64 a0_0, .int .i64 a0_1, .slice A0_2 l0_2.length c0_2], .int .i64 x7_3] rfl B14x5_ ?_; (with_reducible refine (impl_LogTerm.calls a0_0 a0_1 _ _ l0_2 x7_3 t537 _ ?side1 ?side2 A35.out).mono ?_); (case side1 => exact B14x1_); (case side2 => exact HC0_2.out); rintro e w40 ⟨rfl, hb⟩; refine ⟨_, rfl, ?_⟩; replace BK530 := Aside0.mk (bb BK530.out hb); replace BK531 := Aside0.mk (bb BK531.out hb); replace HB := Aside0.mk (below_step B14x0_ hb); (try clear hb); obtain ⟨hcz41_0, hcz41_1, hcz41_2⟩ := cl3 BK531.out; obtain ⟨hfz41_0, hfz41_1, hfz41_2⟩ := fr3 BK531.out) | (go_at_call 15; (with_reducible refine (impl_LogTerm.calls a1_0 a1_1 _ _ l1_2 x7_3 t538 _ ?side1 ?side2 A37.out).mono ?_); (case side1 => exact B14x6_); (case side2 => exact HC1_2.out); rintro e w42 ⟨rfl, hb⟩; replace BK530 := Aside0.mk (bb BK530.out hb); replace BK531 := Aside0.mk (bb BK531.out hb); replace HB := Aside0.mk (below_step B14x0_ hb); (try clear hb)))
         go_meet
         case rel => exact ⟨_, (decide (t538 ≥ 0)), (be_), H', ⟨B14x11_⟩, ⟨B14x2_⟩, ⟨B14x3_⟩, ⟨B14x0_⟩⟩
        ·rw [if_neg c36] at H
         have c36b0 : decide (0 ≤ t537) = false := decide_eq_false c36
         clear c36
         (first | rw [c36b0] | (simp only [i64_w, i32_w]; rw [c36b0]) | skip)
         have H' := Aside0.mk H
         clear H
         have hnb43 := NB530_531.out
         have hnc43 := NB531_530.out
         obtain ⟨hcz44_0, hcz44_1, hcz44_2⟩ := cl3 BK530.out
         obtain ⟨hfz44_0, hfz44_1, hfz44_2⟩ := fr3 BK530.out
         go_wp2_with (first | ((with_reducible refine gate_callee (f := 15) rfl ?_); refine goesL_ (some 39) rfl rfl Try.func15 B14x8_ rfl #[.agg #[.int .i64 a0_0, .int .i64 a0_1, .slice A0_2 l0_2.length c0_2], .int .i64 x7_3] rfl B14x5_ ?_; (with_reducible refine (impl_LogTerm.calls a0_0 a0_1 _ _ l0_2 x7_3 t537 _ ?side1 ?side2 A35.out).mono ?_); (case side1 => exact B14x1_); (case side2 => exact HC0_2.out); rintro e w45 ⟨rfl, hb⟩; refine ⟨_, rfl, ?_⟩; replace BK530 := Aside0.mk (bb BK530.out hb); replace BK531 := Aside0.mk (bb BK531.out hb); replace HB := Aside0.mk (below_step B14x0_ hb); (try clear hb)))
         go_meet
         case rel => exact ⟨_, (false), (be_), H', ⟨B14x11_⟩, ⟨B14x2_⟩, ⟨B14x3_⟩, ⟨B14x0_⟩⟩
       case rest =>
        clear HC34
        try clear c17
        try clear c33
        try clear hcz21_0
        try clear hcz21_1
        try clear hcz21_2
        try clear hcz22_0
        try clear hcz22_1
        try clear hcz22_2
        try clear hfz21_0
        try clear hfz21_1
        try clear hfz21_2
        try clear hfz22_0
        try clear hfz22_1
        try clear hfz22_2
        obtain ⟨kq, x46_33, rfl, HA, HJ33, BK530, BK531, HB⟩ := hcut
        cases kq with
        | zero => exact absurd HA.out (by simp [impl_Shared.j3])
        | succ kj33 =>
         have H := HA.out
         clear HA
         simp only [impl_Shared.j3] at H
         by_cases c46 : x46_33 = true
         ·subst c46
          rw [if_pos rfl] at H
          obtain ⟨ji47, hji47⟩ : ∃ j_ : Int, (wrap64 ((wrap64 (x7_3 - a0_0)) - 1)) = j_ := ⟨_, rfl⟩
          replace H : (if 0 ≤ (ji47) then (if (ji47) < (l0_2.length : Int) then (if 0 ≤ (wrap64 ((wrap64 (x7_3 - a1_0)) - 1)) then (if (wrap64 ((wrap64 (x7_3 - a1_0)) - 1)) < (l1_2.length : Int) then (if (!(((rd_T28 l0_2 (ji47)).f0) == ((rd_T28 l1_2 (wrap64 ((wrap64 (x7_3 - a1_0)) - 1))).f0)) || (!(((rd_T28 l0_2 (ji47)).f1) == ((rd_T28 l1_2 (wrap64 ((wrap64 (x7_3 - a1_0)) - 1))).f1)) || (!((((rd_T28 l0_2 (ji47)).f2).toList) == (((rd_T28 l1_2 (wrap64 ((wrap64 (x7_3 - a1_0)) - 1))).f2).toList))))) = true then (some x6_3) else (impl_Shared.l0 kj33 x7_3 (wrap64 (x7_3 + 1)) a0_0 a0_1 l0_2 a1_0 a1_1 l1_2)) else (none)) else (none)) else (none)) else (none)) = some r := by first | (rw [hji47] at H; exact H) | (simp only [hji47] at H ⊢; exact H)
          have hji47w : (IntKind.i64.wrap ((wrap64 (x7_3 - a0_0)) - 1)) = ji47 := (i64_w _).trans hji47
          by_cases c48 : 0 ≤ (ji47)
          rotate_left
          ·rw [if_neg c48] at H
           exact absurd H (by simp)
          rw [if_pos c48] at H
          have c48b0 : decide (0 ≤ (ji47)) = true := decide_eq_true c48
          clear c48
          by_cases c49 : (ji47) < (l0_2.length : Int)
          rotate_left
          ·rw [if_neg c49] at H
           exact absurd H (by simp)
          rw [if_pos c49] at H
          have c49b0 : decide ((ji47) < (l0_2.length : Int)) = true := decide_eq_true c49
          clear c49
          obtain ⟨ji50, hji50⟩ : ∃ j_ : Int, (wrap64 ((wrap64 (x7_3 - a1_0)) - 1)) = j_ := ⟨_, rfl⟩
          replace H : (if 0 ≤ (ji50) then (if (ji50) < (l1_2.length : Int) then (if (!(((rd_T28 l0_2 (ji47)).f0) == ((rd_T28 l1_2 (ji50)).f0)) || (!(((rd_T28 l0_2 (ji47)).f1) == ((rd_T28 l1_2 (ji50)).f1)) || (!((((rd_T28 l0_2 (ji47)).f2).toList) == (((rd_T28 l1_2 (ji50)).f2).toList))))) = true then (some x6_3) else (impl_Shared.l0 kj33 x7_3 (wrap64 (x7_3 + 1)) a0_0 a0_1 l0_2 a1_0 a1_1 l1_2)) else (none)) else (none)) = some r := by first | (rw [hji50] at H; exact H) | (simp only [hji50] at H ⊢; exact H)
          have hji50w : (IntKind.i64.wrap ((wrap64 (x7_3 - a1_0)) - 1)) = ji50 := (i64_w _).trans hji50
          by_cases c51 : 0 ≤ (ji50)
          rotate_left
          ·rw [if_neg c51] at H
           exact absurd H (by simp)
          rw [if_pos c51] at H
          have c51b0 : decide (0 ≤ (ji50)) = true := decide_eq_true c51
          clear c51
          by_cases c52 : (ji50) < (l1_2.length : Int)
          rotate_left
          ·rw [if_neg c52] at H
           exact absurd H (by simp)
          rw [if_pos c52] at H
          have c52b0 : decide ((ji50) < (l1_2.length : Int)) = true := decide_eq_true c52
          clear c52
          by_cases c53 : (!(((rd_T28 l0_2 (ji47)).f0) == ((rd_T28 l1_2 (ji50)).f0)) || (!(((rd_T28 l0_2 (ji47)).f1) == ((rd_T28 l1_2 (ji50)).f1)) || (!((((rd_T28 l0_2 (ji47)).f2).toList) == (((rd_T28 l1_2 (ji50)).f2).toList))))) = true
          ·rw [if_pos c53] at H
           have c53b0 : (!(((rd_T28 l0_2 (ji47)).f0) == ((rd_T28 l1_2 (ji50)).f0)) || (!(((rd_T28 l0_2 (ji47)).f1) == ((rd_T28 l1_2 (ji50)).f1)) || (!((((rd_T28 l0_2 (ji47)).f2).toList) == (((rd_T28 l1_2 (ji50)).f2).toList))))) = true := c53
           clear c53
           obtain rfl := Option.some.inj H
           try go_wp2
           replace BK530 := Aside0.mk (blk_drew BK530.out)
           replace BK531 := Aside0.mk (blk_drew BK531.out)
           replace HB := Aside0.mk (below_drew1 HB.out)
           have p539 : 0 ≤ ((ji47) : Int) := of_decide_eq_true B14x7_
           have q539 : (ji47) < (l0_2.length : Int) := of_decide_eq_true B14x7_
           obtain ⟨ad539, e539, hx539_0, hx539_1, hx539_2⟩ := at_T28 HR0_2.out (ji47) p539 q539
           have hw539_2 := hx539_2
           have hw539_1 := hx539_1
           have hw539_0 := hx539_0
           cases e539
           replace hx539_0 := (HB.out.cell (World.block_lt_of_cell? w _ hx539_0)).trans hx539_0
           replace hx539_1 := (HB.out.cell (World.block_lt_of_cell? w _ hx539_1)).trans hx539_1
           replace hx539_2 := (HB.out.cell (World.block_lt_of_cell? w _ hx539_2)).trans hx539_2
           replace p539 := eq_true p539
           replace q539 := eq_true q539
           have p540 : 0 ≤ ((ji50) : Int) := of_decide_eq_true B14x7_
           have q540 : (ji50) < (l1_2.length : Int) := of_decide_eq_true B14x7_
           obtain ⟨ad540, e540, hx540_0, hx540_1, hx540_2⟩ := at_T28 HR1_2.out (ji50) p540 q540
           have hw540_2 := hx540_2
           have hw540_1 := hx540_1
           have hw540_0 := hx540_0
           cases e540
           replace hx540_0 := (HB.out.cell (World.block_lt_of_cell? w _ hx540_0)).trans hx540_0
           replace hx540_1 := (HB.out.cell (World.block_lt_of_cell? w _ hx540_1)).trans hx540_1
           replace hx540_2 := (HB.out.cell (World.block_lt_of_cell? w _ hx540_2)).trans hx540_2
           replace p540 := eq_true p540
           replace q540 := eq_true q540
           refine start_ (n := 19) (S := fun w' => w'.cell? ⟨gb530, 0, none⟩ = some (.int .i64 a0_0) ∧ w'.cell? ⟨gb530, 1, none⟩ = some (.int .i64 a0_1) ∧ w'.cell? ⟨gb530, 2, none⟩ = some (.slice (some ad539) l0_2.length c0_2) ∧ w'.cell? ⟨gb531, 0, none⟩ = some (.int .i64 a1_0) ∧ w'.cell? ⟨gb531, 1, none⟩ = some (.int .i64 a1_1) ∧ w'.cell? ⟨gb531, 2, none⟩ = some (.slice (some ad540) l1_2.length c1_2) ∧ w'.cell? (ad539.add (((ji47)).toNat * 3)) = some (.int .i64 ((rd_T28 l0_2 (ji47)).f0)) ∧ w'.cell? ⟨(ad539.add (((ji47)).toNat * 3)).block, (ad539.add (((ji47)).toNat * 3)).off + 1, none⟩ = some (.int .i64 ((rd_T28 l0_2 (ji47)).f1)) ∧ w'.cell? ⟨(ad539.add (((ji47)).toNat * 3)).block, (ad539.add (((ji47)).toNat * 3)).off + 2, none⟩ = some (.string ((rd_T28 l0_2 (ji47)).f2)) ∧ w'.cell? (ad540.add (((ji50)).toNat * 3)) = some (.int .i64 ((rd_T28 l1_2 (ji50)).f0)) ∧ w'.cell? ⟨(ad540.add (((ji50)).toNat * 3)).block, (ad540.add (((ji50)).toNat * 3)).off + 1, none⟩ = some (.int .i64 ((rd_T28 l1_2 (ji50)).f1)) ∧ w'.cell? ⟨(ad540.add (((ji50)).toNat * 3)).block, (ad540.add (((ji50)).toNat * 3)).off + 2, none⟩ = some (.string ((rd_T28 l1_2 (ji50)).f2))) (ds := []) #[false, false, false, false, false, false, false, false, false, false, false, false, false, false, false, false, false, false, false] B14x8_ rfl rfl ⟨(blk_cell BK530.out 0).trans rfl, (blk_cell BK530.out 1).trans rfl, (blk_cell BK530.out 2).trans rfl, (blk_cell BK531.out 0).trans rfl, (blk_cell BK531.out 1).trans rfl, (blk_cell BK531.out 2).trans rfl, ((HB.out.cell (World.block_lt_of_cell? w _ hw539_0)).trans hw539_0), ((HB.out.cell (World.block_lt_of_cell? w _ hw539_1)).trans hw539_1), ((HB.out.cell (World.block_lt_of_cell? w _ hw539_2)).trans hw539_2), ((HB.out.cell (World.block_lt_of_cell? w _ hw540_0)).trans hw540_0), ((HB.out.cell (World.block_lt_of_cell? w _ hw540_1)).trans hw540_1), ((HB.out.cell (World.block_lt_of_cell? w _ hw540_2)).trans hw540_2)⟩ (fun hHeld => ?_); refine with_tabW impl_Shared.tab10 impl_Shared.bits10 (fun HT_ HW_ => ?_)
           generalize wc.drew = w54 at BK530 BK531 HB hx539_0 hx539_1 hx539_2 hx540_0 hx540_1 hx540_2 hHeld ⊢
           refine pu_ 0 49 HT_ ?_
           refine pu_ 2 51 HT_ ?_
           refine pu_ 3 52 HT_ ?_
           refine pu_ 9 58 HT_ ?_
           refine pu_ 11 60 HT_ ?_
           refine pu_ 12 61 HT_ ?_
           refine ta_ 1 50 HT_ HW_ hHeld ?_
           refine ta_ 4 53 HT_ HW_ hHeld ?_
           refine pu_ 5 54 HT_ ?_
           refine pu_ 6 55 HT_ ?_
           refine pu_ 7 56 HT_ ?_
           refine ta_ 8 57 HT_ HW_ hHeld ?_
           refine ta_ 10 59 HT_ HW_ hHeld ?_
           refine ta_ 13 62 HT_ HW_ hHeld ?_
           refine pu_ 14 63 HT_ ?_
           refine pu_ 15 64 HT_ ?_
           refine pu_ 16 65 HT_ ?_
           refine ta_ 17 66 HT_ HW_ hHeld ?_
           refine pu_ 18 67 HT_ ?_
           refine done_ (done_of HT_.out B14x8_) ?_
           try go_wp2
           go_ret
           exact ⟨(by first | rfl | (simp [errW_none, errW_some] <;> rfl) | (simp only [← hji18, ← hji47, ← hji50]; first | rfl | (simp [errW_none, errW_some] <;> rfl)) | (simp [*, errW_none, errW_some] <;> rfl)), B14x0_⟩
          ·rw [if_neg c53] at H
           have c53b0 : (!(((rd_T28 l0_2 (ji47)).f0) == ((rd_T28 l1_2 (ji50)).f0)) || (!(((rd_T28 l0_2 (ji47)).f1) == ((rd_T28 l1_2 (ji50)).f1)) || (!((((rd_T28 l0_2 (ji47)).f2).toList) == (((rd_T28 l1_2 (ji50)).f2).toList))))) = false := by simpa using c53
           clear c53
           have H' := Aside0.mk H
           clear H
           try go_wp2
           replace BK530 := Aside0.mk (blk_drew BK530.out)
           replace BK531 := Aside0.mk (blk_drew BK531.out)
           replace HB := Aside0.mk (below_drew1 HB.out)
           have p539 : 0 ≤ ((ji47) : Int) := of_decide_eq_true B14x7_
           have q539 : (ji47) < (l0_2.length : Int) := of_decide_eq_true B14x7_
           obtain ⟨ad539, e539, hx539_0, hx539_1, hx539_2⟩ := at_T28 HR0_2.out (ji47) p539 q539
           have hw539_2 := hx539_2
           have hw539_1 := hx539_1
           have hw539_0 := hx539_0
           cases e539
           replace hx539_0 := (HB.out.cell (World.block_lt_of_cell? w _ hx539_0)).trans hx539_0
           replace hx539_1 := (HB.out.cell (World.block_lt_of_cell? w _ hx539_1)).trans hx539_1
           replace hx539_2 := (HB.out.cell (World.block_lt_of_cell? w _ hx539_2)).trans hx539_2
           replace p539 := eq_true p539
           replace q539 := eq_true q539
           have p540 : 0 ≤ ((ji50) : Int) := of_decide_eq_true B14x7_
           have q540 : (ji50) < (l1_2.length : Int) := of_decide_eq_true B14x7_
           obtain ⟨ad540, e540, hx540_0, hx540_1, hx540_2⟩ := at_T28 HR1_2.out (ji50) p540 q540
           have hw540_2 := hx540_2
           have hw540_1 := hx540_1
           have hw540_0 := hx540_0
           cases e540
           replace hx540_0 := (HB.out.cell (World.block_lt_of_cell? w _ hx540_0)).trans hx540_0
           replace hx540_1 := (HB.out.cell (World.block_lt_of_cell? w _ hx540_1)).trans hx540_1
           replace hx540_2 := (HB.out.cell (World.block_lt_of_cell? w _ hx540_2)).trans hx540_2
           replace p540 := eq_true p540
           replace q540 := eq_true q540
           refine start_ (n := 19) (S := fun w' => w'.cell? ⟨gb530, 0, none⟩ = some (.int .i64 a0_0) ∧ w'.cell? ⟨gb530, 1, none⟩ = some (.int .i64 a0_1) ∧ w'.cell? ⟨gb530, 2, none⟩ = some (.slice (some ad539) l0_2.length c0_2) ∧ w'.cell? ⟨gb531, 0, none⟩ = some (.int .i64 a1_0) ∧ w'.cell? ⟨gb531, 1, none⟩ = some (.int .i64 a1_1) ∧ w'.cell? ⟨gb531, 2, none⟩ = some (.slice (some ad540) l1_2.length c1_2) ∧ w'.cell? (ad539.add (((ji47)).toNat * 3)) = some (.int .i64 ((rd_T28 l0_2 (ji47)).f0)) ∧ w'.cell? ⟨(ad539.add (((ji47)).toNat * 3)).block, (ad539.add (((ji47)).toNat * 3)).off + 1, none⟩ = some (.int .i64 ((rd_T28 l0_2 (ji47)).f1)) ∧ w'.cell? ⟨(ad539.add (((ji47)).toNat * 3)).block, (ad539.add (((ji47)).toNat * 3)).off + 2, none⟩ = some (.string ((rd_T28 l0_2 (ji47)).f2)) ∧ w'.cell? (ad540.add (((ji50)).toNat * 3)) = some (.int .i64 ((rd_T28 l1_2 (ji50)).f0)) ∧ w'.cell? ⟨(ad540.add (((ji50)).toNat * 3)).block, (ad540.add (((ji50)).toNat * 3)).off + 1, none⟩ = some (.int .i64 ((rd_T28 l1_2 (ji50)).f1)) ∧ w'.cell? ⟨(ad540.add (((ji50)).toNat * 3)).block, (ad540.add (((ji50)).toNat * 3)).off + 2, none⟩ = some (.string ((rd_T28 l1_2 (ji50)).f2))) (ds := []) #[false, false, false, false, false, false, false, false, false, false, false, false, false, false, false, false, false, false, false] B14x8_ rfl rfl ⟨(blk_cell BK530.out 0).trans rfl, (blk_cell BK530.out 1).trans rfl, (blk_cell BK530.out 2).trans rfl, (blk_cell BK531.out 0).trans rfl, (blk_cell BK531.out 1).trans rfl, (blk_cell BK531.out 2).trans rfl, ((HB.out.cell (World.block_lt_of_cell? w _ hw539_0)).trans hw539_0), ((HB.out.cell (World.block_lt_of_cell? w _ hw539_1)).trans hw539_1), ((HB.out.cell (World.block_lt_of_cell? w _ hw539_2)).trans hw539_2), ((HB.out.cell (World.block_lt_of_cell? w _ hw540_0)).trans hw540_0), ((HB.out.cell (World.block_lt_of_cell? w _ hw540_1)).trans hw540_1), ((HB.out.cell (World.block_lt_of_cell? w _ hw540_2)).trans hw540_2)⟩ (fun hHeld => ?_); refine with_tabW impl_Shared.tab10 impl_Shared.bits10 (fun HT_ HW_ => ?_)
           generalize wc.drew = w55 at BK530 BK531 HB hx539_0 hx539_1 hx539_2 hx540_0 hx540_1 hx540_2 hHeld ⊢
           refine pu_ 0 49 HT_ ?_
           refine pu_ 2 51 HT_ ?_
           refine pu_ 3 52 HT_ ?_
           refine pu_ 9 58 HT_ ?_
           refine pu_ 11 60 HT_ ?_
           refine pu_ 12 61 HT_ ?_
           refine ta_ 1 50 HT_ HW_ hHeld ?_
           refine ta_ 4 53 HT_ HW_ hHeld ?_
           refine pu_ 5 54 HT_ ?_
           refine pu_ 6 55 HT_ ?_
           refine pu_ 7 56 HT_ ?_
           refine ta_ 8 57 HT_ HW_ hHeld ?_
           refine ta_ 10 59 HT_ HW_ hHeld ?_
           refine ta_ 13 62 HT_ HW_ hHeld ?_
           refine pu_ 14 63 HT_ ?_
           refine pu_ 15 64 HT_ ?_
           refine pu_ 16 65 HT_ ?_
           refine ta_ 17 66 HT_ HW_ hHeld ?_
           refine pu_ 18 67 HT_ ?_
           refine done_ (done_of HT_.out B14x8_) ?_
           try go_wp2
           go_roundg kj33
           case measure => have := HJ2.out; have := HJ18.out; have := HK3.out; have := HJ33.out; omega
           case rel => exact ⟨(x7_3), (wrap64 (x7_3 + 1)), (be_), (be_), H', ⟨(by have := HJ2.out; have := HJ18.out; have := HK3.out; have := HJ33.out; omega)⟩, ⟨B14x2_⟩, ⟨B14x3_⟩, ⟨B14x0_⟩⟩
         ·replace c46 := Bool.eq_false_iff.mpr c46
          subst c46
          rw [if_neg (show ¬ (false = true) by decide)] at H
          obtain rfl := Option.some.inj H
          go_wp2
          go_ret
          exact ⟨B14x9_, B14x0_⟩

end Go.Proofs.Ytgffdijodnpolaa.QFnLogs
