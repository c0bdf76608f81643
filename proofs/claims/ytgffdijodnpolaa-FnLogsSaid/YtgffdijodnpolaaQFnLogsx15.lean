/- Functions that a law reaches, as functions of Lean, and the walks that show that the calls come to their answers: written by a program of this project out of the translation. No condition. -/
import Derived.Test.YtgffdijodnpolaaQFnLogsx0
import Derived.Test.YtgffdijodnpolaaQFnLogsx1
import Derived.Test.YtgffdijodnpolaaQFnLogsx8
import Derived.Test.YtgffdijodnpolaaQFnLogsx9
import Derived.Test.YtgffdijodnpolaaVFnLogsShort4
import Derived.Test.YtgffdijodnpolaaVFnLogshort3
import Derived.Test.YtgffdijodnpolaaVFnLogsShort2
import Derived.Test.YtgffdijodnpolaaVFnLogsShort
namespace Go.Proofs.Ytgffdijodnpolaa.QFnLogs
open Go.RowKit Go.Proofs.YtgffdijodnpolaaW.PrintWords Go.Proofs.YtgffdijodnpolaaW.PrintLast Go.Proofs.YtgffdijodnpolaaW.PrintMore Go.Proofs.Ytgffdijodnpolaa.Short
attribute [local go_sem] max2_int min2_int max_two min_two max_three min_three max_four min_four   -- for this text's walks alone
set_option linter.unusedVariables false
set_option linter.unusedSimpArgs false

attribute [local go_sem high] eqA28
theorem B15x0_ {p : Prop} (h : p := by repeat (first | (with_reducible first | exact HB.out | apply below_alloc | apply pw_below_drewN | apply below_drew1 | refine below_set ?_ GE541.out | refine below_set ?_ GE542.out) | exact HB.out)) : p := h
theorem B15x1_ {p : Prop} (h : p := by (try simp only [List.map_toArray, List.map_cons, List.map_nil]); first | done | rfl | (simp only [List.length_drop, List.length_take]; rfl)) : p := h
theorem B15x2_ {p : Prop} (h : p := by repeat (first | exact (Kd.C_below HR0_2.out HB.out) | (with_reducible refine Kd.C_alloc ?_ _) | (with_reducible refine Kd.C_drewN ?_ _) | (with_reducible refine Kd.C_drew ?_))) : p := h
theorem B15x3_ {p : Prop} (h : p := by (with_reducible repeat (first | refine blk_drewN ?_ _ | refine blk_drew ?_ | refine blk_alloc ?_ _)); exact BK541.out) : p := h
theorem B15x4_ {p : Prop} (h : p := by (with_reducible repeat (first | refine blk_drewN ?_ _ | refine blk_drew ?_ | refine blk_alloc ?_ _)); exact BK542.out) : p := h
theorem B15x5_ {p : Prop} (h : p := by repeat (first | exact (Kd.C_below HR1_2.out HB.out) | (with_reducible refine Kd.C_alloc ?_ _) | (with_reducible refine Kd.C_drewN ?_ _) | (with_reducible refine Kd.C_drew ?_))) : p := h
theorem B15x6_ {p : Prop} (h : p := by kernel_rfl) : p := h
theorem B15x7_ {p : Prop} (h : p := by first | (with_reducible assumption) | assumption) : p := h
theorem B15x8_ {p : Prop} (h : p := by first | rfl | (simp [errW_none, errW_some] <;> rfl) | (simp [*, errW_none, errW_some] <;> rfl)) : p := h
theorem B15x9_ {p : Prop} (h : p := by have := HJ2.out; have := HJ17.out; first | omega | exact Nat.le_refl _) : p := h
theorem B15x10_ {p : Prop} (h : p := by have := HJ2.out; first | omega | exact Nat.le_refl _) : p := h
/-! ### spec_Shared: function 20 -/
mutual
def spec_Shared.j0 : Nat → Bool → Int → Int → List (S28) → Int → Int → List (S28) → Option (Int)
 | 0, _, _, _, _, _, _, _ => none
 | k + 1, x14, x542000, x542001, x542002, x543000, x543001, x543002 => if x14 = true then (some (-1)) else (if x543000 > x542000 then (spec_Shared.j1 k x543000 x542000 x542001 x542002 x543000 x543001 x543002) else (spec_Shared.j1 k x542000 x542000 x542001 x542002 x543000 x543001 x543002))
def spec_Shared.j1 : Nat → Int → Int → Int → List (S28) → Int → Int → List (S28) → Option (Int)
 | 0, _, _, _, _, _, _, _ => none
 | k + 1, x5, x542000, x542001, x542002, x543000, x543001, x543002 => (spec_LogTerm.f x542000 x542001 x542002 x5).bind fun t545 => (if t545 < 0 then (spec_Shared.j2 k x5 true x542000 x542001 x542002 x543000 x543001 x543002) else ((spec_LogTerm.f x542000 x542001 x542002 x5).bind fun t546 => ((spec_LogTerm.f x543000 x543001 x543002 x5).bind fun t547 => (spec_Shared.j2 k x5 (t546 != t547) x542000 x542001 x542002 x543000 x543001 x543002))))
def spec_Shared.j2 : Nat → Int → Bool → Int → Int → List (S28) → Int → Int → List (S28) → Option (Int)
 | 0, _, _, _, _, _, _, _, _ => none
 | k + 1, x5, x35, x542000, x542001, x542002, x543000, x543001, x543002 => if x35 = true then (some (-1)) else (spec_Shared.l0 k x5 x542000 x542001 x542002 x543000 x543001 x543002)
def spec_Shared.l0 : Nat → Int → Int → Int → List (S28) → Int → Int → List (S28) → Option (Int)
 | 0, _, _, _, _, _, _, _ => none
 | k + 1, x6, x542000, x542001, x542002, x543000, x543001, x543002 => (spec_l06Last.f x542000 x542001 x542002).bind fun t548 => (if x6 < t548 then ((spec_l06Last.f x543000 x543001 x543002).bind fun t549 => (if x6 < t549 then (if 0 ≤ (wrap64 (x6 - x542000)) then (if (wrap64 (x6 - x542000)) < (x542002.length : Int) then (if 0 ≤ (wrap64 (x6 - x543000)) then (if (wrap64 (x6 - x543000)) < (x543002.length : Int) then (if (((rd_T28 x542002 (wrap64 (x6 - x542000))).f0) == ((rd_T28 x543002 (wrap64 (x6 - x543000))).f0) && (((rd_T28 x542002 (wrap64 (x6 - x542000))).f1) == ((rd_T28 x543002 (wrap64 (x6 - x543000))).f1) && ((((rd_T28 x542002 (wrap64 (x6 - x542000))).f2).toList) == (((rd_T28 x543002 (wrap64 (x6 - x543000))).f2).toList)))) = true then (spec_Shared.l0 k (wrap64 (x6 + 1)) x542000 x542001 x542002 x543000 x543001 x543002) else (some x6)) else (none)) else (none)) else (none)) else (none)) else (some x6))) else (some x6))
end
def spec_Shared.f (k : Nat) (a0_0 : Int) (a0_1 : Int) (l0_2 : List (S28)) (a1_0 : Int) (a1_1 : Int) (l1_2 : List (S28)) : Option (Int) := (spec_LogOk.f k a0_0 a0_1 l0_2).bind fun t543 => (if t543 = true then ((spec_LogOk.f k a1_0 a1_1 l1_2).bind fun t544 => (spec_Shared.j0 k (!t544) a0_0 a0_1 l0_2 a1_0 a1_1 l1_2)) else (spec_Shared.j0 k true a0_0 a0_1 l0_2 a1_0 a1_1 l1_2))
theorem spec_Shared.mono_l : ∀ k, (∀ y0 y1 y2 y3 y4 y5 y6, LeO (spec_Shared.j0 k y0 y1 y2 y3 y4 y5 y6) (spec_Shared.j0 (k + 1) y0 y1 y2 y3 y4 y5 y6)) ∧ (∀ y0 y1 y2 y3 y4 y5 y6, LeO (spec_Shared.j1 k y0 y1 y2 y3 y4 y5 y6) (spec_Shared.j1 (k + 1) y0 y1 y2 y3 y4 y5 y6)) ∧ (∀ y0 y1 y2 y3 y4 y5 y6 y7, LeO (spec_Shared.j2 k y0 y1 y2 y3 y4 y5 y6 y7) (spec_Shared.j2 (k + 1) y0 y1 y2 y3 y4 y5 y6 y7)) ∧ (∀ y0 y1 y2 y3 y4 y5 y6, LeO (spec_Shared.l0 k y0 y1 y2 y3 y4 y5 y6) (spec_Shared.l0 (k + 1) y0 y1 y2 y3 y4 y5 y6))
 | 0 => ⟨fun _ _ _ _ _ _ _ r h => by simp [spec_Shared.j0] at h, fun _ _ _ _ _ _ _ r h => by simp [spec_Shared.j1] at h, fun _ _ _ _ _ _ _ _ r h => by simp [spec_Shared.j2] at h, fun _ _ _ _ _ _ _ r h => by simp [spec_Shared.l0] at h⟩
 | k + 1 => by
  obtain ⟨ih0, ih1, ih2, ih3⟩ := spec_Shared.mono_l k
  refine ⟨?_, ?_, ?_, ?_⟩
  ·intro y0 y1 y2 y3 y4 y5 y6
   unfold spec_Shared.j0
   repeat' first
   | (with_reducible exact ih0 _ _ _ _ _ _ _)
   | (with_reducible exact ih1 _ _ _ _ _ _ _)
   | (with_reducible exact ih2 _ _ _ _ _ _ _ _)
   | (with_reducible exact ih3 _ _ _ _ _ _ _)
   | (with_reducible exact spec_LogOk.mono _ _ _ _)
   | (with_reducible first | exact LeO.refl _ | exact LeO.none _ | refine LeO.ite ?_ ?_ | refine LeO.bind ?_ (fun _ => ?_))
   | exact ih0 _ _ _ _ _ _ _
   | exact ih1 _ _ _ _ _ _ _
   | exact ih2 _ _ _ _ _ _ _ _
   | exact ih3 _ _ _ _ _ _ _
   | exact spec_LogOk.mono _ _ _ _
  ·intro y0 y1 y2 y3 y4 y5 y6
   unfold spec_Shared.j1
   repeat' first
   | (with_reducible exact ih0 _ _ _ _ _ _ _)
   | (with_reducible exact ih1 _ _ _ _ _ _ _)
   | (with_reducible exact ih2 _ _ _ _ _ _ _ _)
   | (with_reducible exact ih3 _ _ _ _ _ _ _)
   | (with_reducible exact spec_LogOk.mono _ _ _ _)
   | (with_reducible first | exact LeO.refl _ | exact LeO.none _ | refine LeO.ite ?_ ?_ | refine LeO.bind ?_ (fun _ => ?_))
   | exact ih0 _ _ _ _ _ _ _
   | exact ih1 _ _ _ _ _ _ _
   | exact ih2 _ _ _ _ _ _ _ _
   | exact ih3 _ _ _ _ _ _ _
   | exact spec_LogOk.mono _ _ _ _
  ·intro y0 y1 y2 y3 y4 y5 y6 y7
   unfold spec_Shared.j2
   repeat' first
   | (with_reducible exact ih0 _ _ _ _ _ _ _)
   | (with_reducible exact ih1 _ _ _ _ _ _ _)
   | (with_reducible exact ih2 _ _ _ _ _ _ _ _)
   | (with_reducible exact ih3 _ _ _ _ _ _ _)
   | (with_reducible exact spec_LogOk.mono _ _ _ _)
   | (with_reducible first | exact LeO.refl _ | exact LeO.none _ | refine LeO.ite ?_ ?_ | refine LeO.bind ?_ (fun _ => ?_))
   | exact ih0 _ _ _ _ _ _ _
   | exact ih1 _ _ _ _ _ _ _
   | exact ih2 _ _ _ _ _ _ _ _
   | exact ih3 _ _ _ _ _ _ _
   | exact spec_LogOk.mono _ _ _ _
  ·intro y0 y1 y2 y3 y4 y5 y6
   unfold spec_Shared.l0
   repeat' first
   | (with_reducible exact ih0 _ _ _ _ _ _ _)
   | (with_reducible exact ih1 _ _ _ _ _ _ _)
   | (with_reducible exact ih2 _ _ _ _ _ _ _ _)
   | (with_reducible exact ih3 _ _ _ _ _ _ _)
   | (with_reducible exact spec_LogOk.mono _ _ _ _)
   | (with_reducible first | exact LeO.refl _ | exact LeO.none _ | refine LeO.ite ?_ ?_ | refine LeO.bind ?_ (fun _ => ?_))
   | exact ih0 _ _ _ _ _ _ _
   | exact ih1 _ _ _ _ _ _ _
   | exact ih2 _ _ _ _ _ _ _ _
   | exact ih3 _ _ _ _ _ _ _
   | exact spec_LogOk.mono _ _ _ _
theorem spec_Shared.mono : ∀ a0 a1 a2 a3 a4 a5 k, LeO (spec_Shared.f k a0 a1 a2 a3 a4 a5) (spec_Shared.f (k + 1) a0 a1 a2 a3 a4 a5) := by
 intro a0 a1 a2 a3 a4 a5 k
 obtain ⟨ih0, ih1, ih2, ih3⟩ := spec_Shared.mono_l k
 unfold spec_Shared.f
 repeat' first
   | (with_reducible exact ih0 _ _ _ _ _ _ _)
   | (with_reducible exact ih1 _ _ _ _ _ _ _)
   | (with_reducible exact ih2 _ _ _ _ _ _ _ _)
   | (with_reducible exact ih3 _ _ _ _ _ _ _)
   | (with_reducible exact spec_LogOk.mono _ _ _ _)
   | (with_reducible first | exact LeO.refl _ | exact LeO.none _ | refine LeO.ite ?_ ?_ | refine LeO.bind ?_ (fun _ => ?_))
   | exact ih0 _ _ _ _ _ _ _
   | exact ih1 _ _ _ _ _ _ _
   | exact ih2 _ _ _ _ _ _ _ _
   | exact ih3 _ _ _ _ _ _ _
   | exact spec_LogOk.mono _ _ _ _
def spec_Shared.T6 : Bool × List (List Nat × List Nat) := (true, [([], []), ([], []), ([0, 1], [0, 1]), ([2], [2]), ([3, 2], [3]), ([4], [4]), ([4], [4]), ([5, 6, 4, 4], [4, 5, 6]), ([4], [4]), ([4], [4]), ([8, 9, 7, 4], [4, 8, 9]), ([7, 10, 4], [4, 7, 10]), ([4, 11], [4, 11])])
def spec_Shared.B6 : List Nat := [0, 0, 3, 7, 15, 31, 31, 127, 31, 31, 1023, 2047, 4095]
theorem spec_Shared.tab6 : rtab .any (opsOf Try.f20 6) = spec_Shared.T6 := by kernel_rfl
theorem spec_Shared.bits6 : waitsOk spec_Shared.T6.2 spec_Shared.B6 = true := by kernel_rfl
def spec_Shared.T9 : Bool × List (List Nat × List Nat) := (true, [([], []), ([], []), ([1], [1]), ([0, 2], [0, 2]), ([3, 2], [3]), ([4], [4]), ([4], [4]), ([6, 4, 4], [4, 6]), ([5, 7, 4], [4, 5, 7]), ([4, 8], [4, 8]), ([9, 7], [9]), ([10], [10]), ([11, 10], [10, 11]), ([10], [10]), ([10], [10]), ([14, 10], [10, 14]), ([13, 15, 10], [10, 13, 15]), ([12, 16, 10], [10, 12, 16]), ([17, 10], [10, 17]), ([10], [10]), ([19, 10], [10, 19]), ([10], [10]), ([10], [10]), ([22, 10], [10, 22]), ([21, 23, 10], [10, 21, 23]), ([20, 24, 10], [10, 20, 24]), ([25, 10], [10, 25]), ([18, 26, 10], [10, 18, 26]), ([10, 27], [10, 27])])
def spec_Shared.B9 : List Nat := [0, 0, 2, 7, 15, 31, 31, 95, 255, 511, 1023, 2047, 4095, 2047, 2047, 18431, 59391, 131071, 262143, 2047, 526335, 2047, 2047, 4196351, 14682111, 33032191, 66586623, 134217727, 268435455]
theorem spec_Shared.tab9 : rtab .any (opsOf Try.f20 9) = spec_Shared.T9 := by kernel_rfl
theorem spec_Shared.bits9 : waitsOk spec_Shared.T9.2 spec_Shared.B9 = true := by kernel_rfl
set_option maxHeartbeats 8000000 in
set_option maxRecDepth 100000 in
theorem spec_Shared.calls (k : Nat) (a0_0 : Int) (a0_1 : Int) (A0_2 : Option Addr) (c0_2 : Nat) (l0_2 : List (S28)) (a1_0 : Int) (a1_1 : Int) (A1_2 : Option Addr) (c1_2 : Nat) (l1_2 : List (S28)) (r : Int) (w : World) (hr0_2 : Kd.C k28 w A0_2 l0_2.length l0_2) (hc0_2 : l0_2.length ≤ c0_2) (hr1_2 : Kd.C k28 w A1_2 l1_2.length l1_2) (hc1_2 : l1_2.length ≤ c1_2) (h : spec_Shared.f k a0_0 a0_1 l0_2 a1_0 a1_1 l1_2 = some r) :
  Calls Try.prog 20 #[.agg #[.int .i64 a0_0, .int .i64 a0_1, .slice A0_2 l0_2.length c0_2], .agg #[.int .i64 a1_0, .int .i64 a1_1, .slice A1_2 l1_2.length c1_2]] w fun e w' => e = .returned (.int .i64 r) ∧ Below w.heap.size w w' := by
 have hu26 := Try.underlying26
 have hu28 := Try.underlying28
 have HR0_2 := Aside0.mk hr0_2
 have HC0_2 := Aside0.mk hc0_2
 clear hr0_2 hc0_2
 have HR1_2 := Aside0.mk hr1_2
 have HC1_2 := Aside0.mk hc1_2
 clear hr1_2 hc1_2
 have HB := Aside0.mk (Below.refl w.heap.size w)
 have H : ((spec_LogOk.f k a0_0 a0_1 l0_2).bind fun t543 => (if t543 = true then ((spec_LogOk.f k a1_0 a1_1 l1_2).bind fun t544 => (spec_Shared.j0 k (!t544) a0_0 a0_1 l0_2 a1_0 a1_1 l1_2)) else (spec_Shared.j0 k true a0_0 a0_1 l0_2 a1_0 a1_1 l1_2))) = some r := h
 clear h
 have HC3 := Aside0.mk H
 clear H
 go_enter Try.func20, Try.ntmps20
 go_upto_region 1 with (first | ((with_reducible refine gate_dst (N := 2) rfl ?_); refine box_event ?hg (N := 2) ?hd (cs := #[.int .i64 a0_0, .int .i64 a0_1, .slice A0_2 l0_2.length c0_2]) (t := 26) ?hr ?_; (case hd => rfl); (case hg => rfl); (case hr => first | (go_simp; done) | (go_simp; rfl)); intro gb541 hg w4 hbox hb; have BK541 := Aside0.mk (hbox); have GW541 := Aside0.mk ((bs hg (below_size HB.out))); have GE541 := Aside0.mk ((bs hg (below_size HB.out))); replace HB := Aside0.mk (below_step (by repeat (first | (with_reducible first | exact HB.out | apply below_alloc | apply pw_below_drewN | apply below_drew1) | exact HB.out)) hb); clear hb hbox hg) | ((with_reducible refine gate_dst (N := 3) rfl ?_); refine box_event ?hg (N := 3) ?hd (cs := #[.int .i64 a1_0, .int .i64 a1_1, .slice A1_2 l1_2.length c1_2]) (t := 26) ?hr ?_; (case hd => rfl); (case hg => rfl); (case hr => first | (go_simp; done) | (go_simp; rfl)); intro gb542 hg w5 hbox hb; have BK542 := Aside0.mk (hbox); have GW542 := Aside0.mk ((bs hg (below_size HB.out))); have GE542 := Aside0.mk ((bs hg (below_size HB.out))); replace HB := Aside0.mk (below_step (by repeat (first | (with_reducible first | exact HB.out | apply below_alloc | apply pw_below_drewN | apply below_drew1 | refine below_set ?_ GE541.out) | exact HB.out)) hb); have NB541_542 := Aside0.mk ((nl hg (blk_lt BK541.out))); have NB542_541 := Aside0.mk ((ng hg (blk_lt BK541.out))); replace BK541 := Aside0.mk (bb BK541.out hb); clear hb hbox hg))
 (try simp only [Act.put, List.setIfInBounds_toArray, List.set_cons_zero, List.set_cons_succ])
 go_cut [14] (fun v14 wc => ∃ (kq : Nat) (x14_2 : Bool), v14 = .bool x14_2 ∧ Aside0 (spec_Shared.j0 kq x14_2 a0_0 a0_1 l0_2 a1_0 a1_1 l1_2 = some r) ∧ Aside0 (kq ≤ k) ∧ Aside0 (wc.heap[gb541]? = some (.cells #[.int .i64 a0_0, .int .i64 a0_1, (.slice A0_2 l0_2.length c0_2)] 26 (0, 0))) ∧ Aside0 (wc.heap[gb542]? = some (.cells #[.int .i64 a1_0, .int .i64 a1_1, (.slice A1_2 l1_2.length c1_2)] 26 (0, 0))) ∧ Aside0 (Below w.heap.size w wc))
 case first =>
  have H := HC3.out
  clear HC3
  replace H := bsi H
  obtain ⟨t543, A6, H⟩ := H
  (try dsimp only at H)
  by_cases c7 : t543 = true
  ·subst c7
   rw [if_pos rfl] at H
   replace H := bsi H
   obtain ⟨t544, A8, H⟩ := H
   (try dsimp only at H)
   have H' := Aside0.mk H
   clear H
   have hnb9 := NB541_542.out
   have hnc9 := NB542_541.out
   obtain ⟨hcz10_0, hcz10_1, hcz10_2⟩ := cl3 BK541.out
   obtain ⟨hfz10_0, hfz10_1, hfz10_2⟩ := fr3 BK541.out
   go_wp2_with (first | ((with_reducible refine gate_callee (f := 12) rfl ?_); refine goesL_ (some 8) rfl rfl Try.func12 B15x6_ rfl #[.agg #[.int .i64 a0_0, .int .i64 a0_1, .slice A0_2 l0_2.length c0_2]] rfl B15x1_ ?_; (with_reducible refine (spec_LogOk.calls k a0_0 a0_1 _ _ l0_2 true _ ?side1 ?side2 A6.out).mono ?_); (case side1 => exact B15x2_); (case side2 => exact HC0_2.out); rintro e w11 ⟨rfl, hb⟩; refine ⟨_, rfl, ?_⟩; replace BK541 := Aside0.mk (bb BK541.out hb); replace BK542 := Aside0.mk (bb BK542.out hb); replace HB := Aside0.mk (below_step B15x0_ hb); (try clear hb); obtain ⟨hcz12_0, hcz12_1, hcz12_2⟩ := cl3 BK542.out; obtain ⟨hfz12_0, hfz12_1, hfz12_2⟩ := fr3 BK542.out) | (go_at_call 12; (with_reducible refine (spec_LogOk.calls k a1_0 a1_1 _ _ l1_2 t544 _ ?side1 ?side2 A8.out).mono ?_); (case side1 => exact B15x5_); (case side2 => exact HC1_2.out); rintro e w13 ⟨rfl, hb⟩; replace BK541 := Aside0.mk (bb BK541.out hb); replace BK542 := Aside0.mk (bb BK542.out hb); replace HB := Aside0.mk (below_step B15x0_ hb); (try clear hb)))
   go_meet
   case rel => exact ⟨_, (!t544), (be_), H', ⟨(by first | omega | exact Nat.le_refl _)⟩, ⟨B15x3_⟩, ⟨B15x4_⟩, ⟨B15x0_⟩⟩
  ·replace c7 := Bool.eq_false_iff.mpr c7
   subst c7
   rw [if_neg (show ¬ (false = true) by decide)] at H
   have H' := Aside0.mk H
   clear H
   have hnb14 := NB541_542.out
   have hnc14 := NB542_541.out
   obtain ⟨hcz15_0, hcz15_1, hcz15_2⟩ := cl3 BK541.out
   obtain ⟨hfz15_0, hfz15_1, hfz15_2⟩ := fr3 BK541.out
   go_wp2_with (first | ((with_reducible refine gate_callee (f := 12) rfl ?_); refine goesL_ (some 8) rfl rfl Try.func12 B15x6_ rfl #[.agg #[.int .i64 a0_0, .int .i64 a0_1, .slice A0_2 l0_2.length c0_2]] rfl B15x1_ ?_; (with_reducible refine (spec_LogOk.calls k a0_0 a0_1 _ _ l0_2 false _ ?side1 ?side2 A6.out).mono ?_); (case side1 => exact B15x2_); (case side2 => exact HC0_2.out); rintro e w16 ⟨rfl, hb⟩; refine ⟨_, rfl, ?_⟩; replace BK541 := Aside0.mk (bb BK541.out hb); replace BK542 := Aside0.mk (bb BK542.out hb); replace HB := Aside0.mk (below_step B15x0_ hb); (try clear hb)))
   go_meet
   case rel => exact ⟨_, (true), (be_), H', ⟨(by first | omega | exact Nat.le_refl _)⟩, ⟨B15x3_⟩, ⟨B15x4_⟩, ⟨B15x0_⟩⟩
 case rest =>
  clear HC3
  obtain ⟨kq, x14_2, rfl, HA, HJ2, BK541, BK542, HB⟩ := hcut
  cases kq with
  | zero => exact absurd HA.out (by simp [spec_Shared.j0])
  | succ kj2 =>
   have H := HA.out
   clear HA
   simp only [spec_Shared.j0] at H
   by_cases c17 : x14_2 = true
   ·subst c17
    rw [if_pos rfl] at H
    obtain rfl := Option.some.inj H
    go_wp2
    go_ret
    exact ⟨B15x8_, B15x0_⟩
   replace c17 := Bool.eq_false_iff.mpr c17
   subst c17
   rw [if_neg (show ¬ (false = true) by decide)] at H
   have HC18 := Aside0.mk H
   clear H
   have hnb19 := NB541_542.out
   have hnc19 := NB542_541.out
   obtain ⟨hcz20_0, hcz20_1, hcz20_2⟩ := cl3 BK541.out
   obtain ⟨hfz20_0, hfz20_1, hfz20_2⟩ := fr3 BK541.out
   obtain ⟨hcz21_0, hcz21_1, hcz21_2⟩ := cl3 BK542.out
   obtain ⟨hfz21_0, hfz21_1, hfz21_2⟩ := fr3 BK542.out
   go_upto_if 20 with (fail)
   go_cut [5] (fun v5 wc => ∃ (kq : Nat) (x5_17 : Int), v5 = .int .i64 x5_17 ∧ Aside0 (spec_Shared.j1 kq x5_17 a0_0 a0_1 l0_2 a1_0 a1_1 l1_2 = some r) ∧ Aside0 (kq ≤ kj2) ∧ Aside0 (wc.heap[gb541]? = some (.cells #[.int .i64 a0_0, .int .i64 a0_1, (.slice A0_2 l0_2.length c0_2)] 26 (0, 0))) ∧ Aside0 (wc.heap[gb542]? = some (.cells #[.int .i64 a1_0, .int .i64 a1_1, (.slice A1_2 l1_2.length c1_2)] 26 (0, 0))) ∧ Aside0 (Below w.heap.size w wc))
   case first =>
    have H := HC18.out
    clear HC18
    by_cases c22 : a1_0 > a0_0
    ·rw [if_pos c22] at H
     have c22b0 : decide (a0_0 < a1_0) = true := decide_eq_true c22
     clear c22
     (first | rw [c22b0] | (simp only [i64_w, i32_w]; rw [c22b0]) | skip)
     have H' := Aside0.mk H
     clear H
     have hnb23 := NB542_541.out
     have hnc23 := NB541_542.out
     obtain ⟨hcz24_0, hcz24_1, hcz24_2⟩ := cl3 BK542.out
     obtain ⟨hfz24_0, hfz24_1, hfz24_2⟩ := fr3 BK542.out
     go_wp2
     go_meet
     case rel => exact ⟨_, (a1_0), (be_), H', ⟨B15x10_⟩, ⟨B15x3_⟩, ⟨B15x4_⟩, ⟨B15x0_⟩⟩
    ·rw [if_neg c22] at H
     have c22b0 : decide (a0_0 < a1_0) = false := decide_eq_false c22
     clear c22
     (first | rw [c22b0] | (simp only [i64_w, i32_w]; rw [c22b0]) | skip)
     have H' := Aside0.mk H
     clear H
     go_wp2
     go_meet
     case rel => exact ⟨_, (a0_0), (be_), H', ⟨B15x10_⟩, ⟨B15x3_⟩, ⟨B15x4_⟩, ⟨B15x0_⟩⟩
   case rest =>
    clear HC18
    try clear c17
    try clear hcz20_0
    try clear hcz20_1
    try clear hcz20_2
    try clear hcz21_0
    try clear hcz21_1
    try clear hcz21_2
    try clear hfz20_0
    try clear hfz20_1
    try clear hfz20_2
    try clear hfz21_0
    try clear hfz21_1
    try clear hfz21_2
    obtain ⟨kq, x5_17, rfl, HA, HJ17, BK541, BK542, HB⟩ := hcut
    cases kq with
    | zero => exact absurd HA.out (by simp [spec_Shared.j1])
    | succ kj17 =>
     have H := HA.out
     clear HA
     simp only [spec_Shared.j1] at H
     have HC25 := Aside0.mk H
     clear H
     go_upto_region 6 with (fail)
     go_cut [35] (fun v35 wc => ∃ (kq : Nat) (x35_24 : Bool), v35 = .bool x35_24 ∧ Aside0 (spec_Shared.j2 kq x5_17 x35_24 a0_0 a0_1 l0_2 a1_0 a1_1 l1_2 = some r) ∧ Aside0 (kq ≤ kj17) ∧ Aside0 (wc.heap[gb541]? = some (.cells #[.int .i64 a0_0, .int .i64 a0_1, (.slice A0_2 l0_2.length c0_2)] 26 (0, 0))) ∧ Aside0 (wc.heap[gb542]? = some (.cells #[.int .i64 a1_0, .int .i64 a1_1, (.slice A1_2 l1_2.length c1_2)] 26 (0, 0))) ∧ Aside0 (Below w.heap.size w wc))
     case first =>
      have H := HC25.out
      clear HC25
      replace H := bsi H
      obtain ⟨t545, A26, H⟩ := H
      (try dsimp only at H)
      by_cases c27 : t545 < 0
      ·rw [if_pos c27] at H
       have c27b0 : decide (t545 < 0) = true := decide_eq_true c27
       clear c27
       (first | rw [c27b0] | (simp only [i64_w, i32_w]; rw [c27b0]) | skip)
       have H' := Aside0.mk H
       clear H
       try go_wp2
       replace BK541 := Aside0.mk (blk_drew BK541.out)
       replace BK542 := Aside0.mk (blk_drew BK542.out)
       replace HB := Aside0.mk (below_drew1 HB.out)
       refine start_ (n := 13) (S := fun w' => w'.cell? ⟨gb541, 0, none⟩ = some (.int .i64 a0_0) ∧ w'.cell? ⟨gb541, 1, none⟩ = some (.int .i64 a0_1) ∧ w'.cell? ⟨gb541, 2, none⟩ = some (.slice A0_2 l0_2.length c0_2)) (ds := []) #[false, false, false, false, false, false, false, false, false, false, false, false, false] B15x6_ rfl rfl ⟨(blk_cell BK541.out 0).trans rfl, (blk_cell BK541.out 1).trans rfl, (blk_cell BK541.out 2).trans rfl⟩ (fun hHeld => ?_); refine with_tabW spec_Shared.tab6 spec_Shared.bits6 (fun HT_ HW_ => ?_)
       generalize wc.drew = w28 at BK541 BK542 HB hHeld ⊢
       refine pu_ 1 24 HT_ ?_
       refine ta_ 0 23 HT_ HW_ hHeld ?_
       refine one_ (i := 2) (N := some 25) #[true, true, true, false, false, false, false, false, false, false, false, false, false] rfl rfl (one_of HT_.out B15x6_) (by decide) (fun K hK => ?_)
       refine goes_ Try.func56 B15x6_ rfl #[.agg #[.int .i64 a0_0, .int .i64 a0_1, .slice A0_2 l0_2.length c0_2], .int .i64 x5_17] (by rfl) rfl rfl B15x1_ ?_
       with_reducible refine (spec_LogTerm.calls a0_0 a0_1 _ _ l0_2 x5_17 t545 _ ?side1 ?side2 A26.out).mono ?_
       (case side1 => exact B15x2_)
       (case side2 => exact HC0_2.out)
       rintro e w29 ⟨rfl, hb⟩
       refine ⟨_, rfl, ?_⟩
       replace BK541 := Aside0.mk (bb BK541.out hb)
       replace BK542 := Aside0.mk (bb BK542.out hb)
       replace HB := Aside0.mk (below_step B15x0_ hb)
       (try clear hb)
       (try clear hb2)
       (try clear hk)
       (try clear hi)
       refine hK.out _ _ ⟨(blk_cell BK541.out 0).trans rfl, (blk_cell BK541.out 1).trans rfl, (blk_cell BK541.out 2).trans rfl⟩ (fun hHeld => ?_)
       clear hK K
       refine norm_ (a' := ?_) ?_ ?_
       rotate_left
       ·show Act.put _ (some 25) _ = _
        simp only [Act.put, List.setIfInBounds_toArray, List.set_cons_zero, List.set_cons_succ, i64_w, i32_w]
        rfl
       refine pu_ 3 26 HT_ ?_
       refine pu_ 4 27 HT_ ?_
       refine of_ 5 28 HT_ ?_
       refine of_ 6 29 HT_ ?_
       refine of_ 7 30 HT_ ?_
       refine of_ 8 31 HT_ ?_
       refine of_ 9 32 HT_ ?_
       refine of_ 10 33 HT_ ?_
       refine of_ 11 34 HT_ ?_
       refine pu_ 12 35 HT_ ?_
       refine done_ (done_of HT_.out B15x6_) ?_
       try go_wp2
       go_meet
       case rel => exact ⟨_, (true), (be_), H', ⟨B15x9_⟩, ⟨B15x3_⟩, ⟨B15x4_⟩, ⟨B15x0_⟩⟩
      ·rw [if_neg c27] at H
       have c27b0 : decide (t545 < 0) = false := decide_eq_false c27
       clear c27
       (first | rw [c27b0] | (simp only [i64_w, i32_w]; rw [c27b0]) | skip)
       replace H := bsi H
       obtain ⟨t546, A30, H⟩ := H
       (try dsimp only at H)
       replace H := bsi H
       obtain ⟨t547, A31, H⟩ := H
       (try dsimp only at H)
       have H' := Aside0.mk H
       clear H
       try go_wp2
       replace BK541 := Aside0.mk (blk_drew BK541.out)
       replace BK542 := Aside0.mk (blk_drew BK542.out)
       replace HB := Aside0.mk (below_drew1 HB.out)
       refine start_ (n := 13) (S := fun w' => w'.cell? ⟨gb541, 0, none⟩ = some (.int .i64 a0_0) ∧ w'.cell? ⟨gb541, 1, none⟩ = some (.int .i64 a0_1) ∧ w'.cell? ⟨gb541, 2, none⟩ = some (.slice A0_2 l0_2.length c0_2) ∧ w'.cell? ⟨gb542, 0, none⟩ = some (.int .i64 a1_0) ∧ w'.cell? ⟨gb542, 1, none⟩ = some (.int .i64 a1_1) ∧ w'.cell? ⟨gb542, 2, none⟩ = some (.slice A1_2 l1_2.length c1_2)) (ds := []) #[false, false, false, false, false, false, false, false, false, false, false, false, false] B15x6_ rfl rfl ⟨(blk_cell BK541.out 0).trans rfl, (blk_cell BK541.out 1).trans rfl, (blk_cell BK541.out 2).trans rfl, (blk_cell BK542.out 0).trans rfl, (blk_cell BK542.out 1).trans rfl, (blk_cell BK542.out 2).trans rfl⟩ (fun hHeld => ?_); refine with_tabW spec_Shared.tab6 spec_Shared.bits6 (fun HT_ HW_ => ?_)
       generalize wc.drew = w32 at BK541 BK542 HB hHeld ⊢
       refine pu_ 1 24 HT_ ?_
       refine ta_ 0 23 HT_ HW_ hHeld ?_
       refine one_ (i := 2) (N := some 25) #[true, true, true, false, false, false, false, false, false, false, false, false, false] rfl rfl (one_of HT_.out B15x6_) (by decide) (fun K hK => ?_)
       refine goes_ Try.func56 B15x6_ rfl #[.agg #[.int .i64 a0_0, .int .i64 a0_1, .slice A0_2 l0_2.length c0_2], .int .i64 x5_17] (by rfl) rfl rfl B15x1_ ?_
       with_reducible refine (spec_LogTerm.calls a0_0 a0_1 _ _ l0_2 x5_17 t545 _ ?side1 ?side2 A26.out).mono ?_
       (case side1 => exact B15x2_)
       (case side2 => exact HC0_2.out)
       rintro e w33 ⟨rfl, hb⟩
       refine ⟨_, rfl, ?_⟩
       replace BK541 := Aside0.mk (bb BK541.out hb)
       replace BK542 := Aside0.mk (bb BK542.out hb)
       replace HB := Aside0.mk (below_step B15x0_ hb)
       (try clear hb)
       (try clear hb2)
       (try clear hk)
       (try clear hi)
       refine hK.out _ _ ⟨(blk_cell BK541.out 0).trans rfl, (blk_cell BK541.out 1).trans rfl, (blk_cell BK541.out 2).trans rfl, (blk_cell BK542.out 0).trans rfl, (blk_cell BK542.out 1).trans rfl, (blk_cell BK542.out 2).trans rfl⟩ (fun hHeld => ?_)
       clear hK K
       refine norm_ (a' := ?_) ?_ ?_
       rotate_left
       ·show Act.put _ (some 25) _ = _
        simp only [Act.put, List.setIfInBounds_toArray, List.set_cons_zero, List.set_cons_succ, i64_w, i32_w]
        rfl
       refine pu_ 3 26 HT_ ?_
       refine pu_ 4 27 HT_ ?_
       refine pu_ 6 29 HT_ ?_
       refine pu_ 9 32 HT_ ?_
       refine ta_ 5 28 HT_ HW_ hHeld ?_
       refine ta_ 8 31 HT_ HW_ hHeld ?_
       refine one_ (i := 7) (N := some 30) #[true, true, true, true, true, true, true, true, true, true, false, false, false] rfl rfl (one_of HT_.out B15x6_) (by decide) (fun K hK => ?_)
       refine goes_ Try.func56 B15x6_ rfl #[.agg #[.int .i64 a0_0, .int .i64 a0_1, .slice A0_2 l0_2.length c0_2], .int .i64 x5_17] (by rfl) rfl rfl B15x1_ ?_
       with_reducible refine (spec_LogTerm.calls a0_0 a0_1 _ _ l0_2 x5_17 t546 _ ?side1 ?side2 A30.out).mono ?_
       (case side1 => exact B15x2_)
       (case side2 => exact HC0_2.out)
       rintro e w34 ⟨rfl, hb⟩
       refine ⟨_, rfl, ?_⟩
       replace BK541 := Aside0.mk (bb BK541.out hb)
       replace BK542 := Aside0.mk (bb BK542.out hb)
       replace HB := Aside0.mk (below_step B15x0_ hb)
       (try clear hb)
       (try clear hb2)
       (try clear hk)
       (try clear hi)
       refine hK.out _ _ ⟨(blk_cell BK541.out 0).trans rfl, (blk_cell BK541.out 1).trans rfl, (blk_cell BK541.out 2).trans rfl, (blk_cell BK542.out 0).trans rfl, (blk_cell BK542.out 1).trans rfl, (blk_cell BK542.out 2).trans rfl⟩ (fun hHeld => ?_)
       clear hK K
       refine norm_ (a' := ?_) ?_ ?_
       rotate_left
       ·show Act.put _ (some 30) _ = _
        simp only [Act.put, List.setIfInBounds_toArray, List.set_cons_zero, List.set_cons_succ, i64_w, i32_w]
        rfl
       refine one_ (i := 10) (N := some 33) #[true, true, true, true, true, true, true, true, true, true, true, false, false] rfl rfl (one_of HT_.out B15x6_) (by decide) (fun K hK => ?_)
       refine goes_ Try.func56 B15x6_ rfl #[.agg #[.int .i64 a1_0, .int .i64 a1_1, .slice A1_2 l1_2.length c1_2], .int .i64 x5_17] (by rfl) rfl rfl B15x1_ ?_
       with_reducible refine (spec_LogTerm.calls a1_0 a1_1 _ _ l1_2 x5_17 t547 _ ?side1 ?side2 A31.out).mono ?_
       (case side1 => exact B15x5_)
       (case side2 => exact HC1_2.out)
       rintro e w35 ⟨rfl, hb⟩
       refine ⟨_, rfl, ?_⟩
       replace BK541 := Aside0.mk (bb BK541.out hb)
       replace BK542 := Aside0.mk (bb BK542.out hb)
       replace HB := Aside0.mk (below_step B15x0_ hb)
       (try clear hb)
       (try clear hb2)
       (try clear hk)
       (try clear hi)
       refine hK.out _ _ ⟨(blk_cell BK541.out 0).trans rfl, (blk_cell BK541.out 1).trans rfl, (blk_cell BK541.out 2).trans rfl, (blk_cell BK542.out 0).trans rfl, (blk_cell BK542.out 1).trans rfl, (blk_cell BK542.out 2).trans rfl⟩ (fun hHeld => ?_)
       clear hK K
       refine norm_ (a' := ?_) ?_ ?_
       rotate_left
       ·show Act.put _ (some 33) _ = _
        simp only [Act.put, List.setIfInBounds_toArray, List.set_cons_zero, List.set_cons_succ, i64_w, i32_w]
        rfl
       refine pu_ 11 34 HT_ ?_
       refine pu_ 12 35 HT_ ?_
       refine done_ (done_of HT_.out B15x6_) ?_
       try go_wp2
       go_meet
       case rel => exact ⟨_, ((t546 != t547)), (be_), H', ⟨B15x9_⟩, ⟨B15x3_⟩, ⟨B15x4_⟩, ⟨B15x0_⟩⟩
     case rest =>
      clear HC25
      try clear c17
      try clear hcz20_0
      try clear hcz20_1
      try clear hcz20_2
      try clear hcz21_0
      try clear hcz21_1
      try clear hcz21_2
      try clear hfz20_0
      try clear hfz20_1
      try clear hfz20_2
      try clear hfz21_0
      try clear hfz21_1
      try clear hfz21_2
      obtain ⟨kq, x35_24, rfl, HA, HJ24, BK541, BK542, HB⟩ := hcut
      cases kq with
      | zero => exact absurd HA.out (by simp [spec_Shared.j2])
      | succ kj24 =>
       have H := HA.out
       clear HA
       simp only [spec_Shared.j2] at H
       by_cases c36 : x35_24 = true
       ·subst c36
        rw [if_pos rfl] at H
        obtain rfl := Option.some.inj H
        go_wp2
        go_ret
        exact ⟨B15x8_, B15x0_⟩
       replace c36 := Bool.eq_false_iff.mpr c36
       subst c36
       rw [if_neg (show ¬ (false = true) by decide)] at H
       have H' := Aside0.mk H
       clear H
       go_wp2
       go_loopg [6] kj24 (fun kq v6 w' => ∃ (x6_4 : Int), v6 = .int .i64 x6_4 ∧ Aside0 (spec_Shared.l0 kq x6_4 a0_0 a0_1 l0_2 a1_0 a1_1 l1_2 = some r) ∧ Aside0 (kq ≤ kj24) ∧ Aside0 (w'.heap[gb541]? = some (.cells #[.int .i64 a0_0, .int .i64 a0_1, (.slice A0_2 l0_2.length c0_2)] 26 (0, 0))) ∧ Aside0 (w'.heap[gb542]? = some (.cells #[.int .i64 a1_0, .int .i64 a1_1, (.slice A1_2 l1_2.length c1_2)] 26 (0, 0))) ∧ Aside0 (Below w.heap.size w w'))
       case atStart => exact ⟨(x5_17), (be_), H', ⟨Nat.le_refl _⟩, ⟨B15x3_⟩, ⟨B15x4_⟩, ⟨B15x0_⟩⟩
       case round =>
        clear H'
        try clear c17
        try clear c36
        try clear hcz20_0
        try clear hcz20_1
        try clear hcz20_2
        try clear hcz21_0
        try clear hcz21_1
        try clear hcz21_2
        try clear hfz20_0
        try clear hfz20_1
        try clear hfz20_2
        try clear hfz21_0
        try clear hfz21_1
        try clear hfz21_2
        obtain ⟨x6_4, rfl, HA, HK4, BK541, BK542, HB⟩ := hrel
        cases gk with
        | zero => exact absurd HA.out (by simp [spec_Shared.l0])
        | succ k4 =>
         have H := HA.out
         clear HA
         simp only [spec_Shared.l0] at H
         replace H := bsi H
         obtain ⟨t548, A37, H⟩ := H
         (try dsimp only at H)
         by_cases c38 : x6_4 < t548
         ·rw [if_pos c38] at H
          have c38b0 : decide (x6_4 < t548) = true := decide_eq_true c38
          clear c38
          replace H := bsi H
          obtain ⟨t549, A39, H⟩ := H
          (try dsimp only at H)
          by_cases c40 : x6_4 < t549
          ·rw [if_pos c40] at H
           have c40b0 : decide (x6_4 < t549) = true := decide_eq_true c40
           clear c40
           obtain ⟨ji41, hji41⟩ : ∃ j_ : Int, (wrap64 (x6_4 - a0_0)) = j_ := ⟨_, rfl⟩
           replace H : (if 0 ≤ (ji41) then (if (ji41) < (l0_2.length : Int) then (if 0 ≤ (wrap64 (x6_4 - a1_0)) then (if (wrap64 (x6_4 - a1_0)) < (l1_2.length : Int) then (if (((rd_T28 l0_2 (ji41)).f0) == ((rd_T28 l1_2 (wrap64 (x6_4 - a1_0))).f0) && (((rd_T28 l0_2 (ji41)).f1) == ((rd_T28 l1_2 (wrap64 (x6_4 - a1_0))).f1) && ((((rd_T28 l0_2 (ji41)).f2).toList) == (((rd_T28 l1_2 (wrap64 (x6_4 - a1_0))).f2).toList)))) = true then (spec_Shared.l0 k4 (wrap64 (x6_4 + 1)) a0_0 a0_1 l0_2 a1_0 a1_1 l1_2) else (some x6_4)) else (none)) else (none)) else (none)) else (none)) = some r := by first | (rw [hji41] at H; exact H) | (simp only [hji41] at H ⊢; exact H)
           (try rw [hji41] at A37)
           (try rw [hji41] at A39)
           have hji41w : (IntKind.i64.wrap (x6_4 - a0_0)) = ji41 := (i64_w _).trans hji41
           by_cases c42 : 0 ≤ (ji41)
           rotate_left
           ·rw [if_neg c42] at H
            exact absurd H (by simp)
           rw [if_pos c42] at H
           have c42b0 : decide (0 ≤ (ji41)) = true := decide_eq_true c42
           clear c42
           by_cases c43 : (ji41) < (l0_2.length : Int)
           rotate_left
           ·rw [if_neg c43] at H
            exact absurd H (by simp)
           rw [if_pos c43] at H
           have c43b0 : decide ((ji41) < (l0_2.length : Int)) = true := decide_eq_true c43
           clear c43
           obtain ⟨ji44, hji44⟩ : ∃ j_ : Int, (wrap64 (x6_4 - a1_0)) = j_ := ⟨_, rfl⟩
           replace H : (if 0 ≤ (ji44) then (if (ji44) < (l1_2.length : Int) then (if (((rd_T28 l0_2 (ji41)).f0) == ((rd_T28 l1_2 (ji44)).f0) && (((rd_T28 l0_2 (ji41)).f1) == ((rd_T28 l1_2 (ji44)).f1) && ((((rd_T28 l0_2 (ji41)).f2).toList) == (((rd_T28 l1_2 (ji44)).f2).toList)))) = true then (spec_Shared.l0 k4 (wrap64 (x6_4 + 1)) a0_0 a0_1 l0_2 a1_0 a1_1 l1_2) else (some x6_4)) else (none)) else (none)) = some r := by first | (rw [hji44] at H; exact H) | (simp only [hji44] at H ⊢; exact H)
           (try rw [hji44] at A37)
           (try rw [hji44] at A39)
           have hji44w : (IntKind.i64.wrap (x6_4 - a1_0)) = ji44 := (i64_w _).trans hji44
           by_cases c45 : 0 ≤ (ji44)
           rotate_left
           ·rw [if_neg c45] at H
            exact absurd H (by simp)
           rw [if_pos c45] at H
           have c45b0 : decide (0 ≤ (ji44)) = true := decide_eq_true c45
           clear c45
           by_cases c46 : (ji44) < (l1_2.length : Int)
           rotate_left
           ·rw [if_neg c46] at H
            exact absurd H (by simp)
           rw [if_pos c46] at H
           have c46b0 : decide ((ji44) < (l1_2.length : Int)) = true := decide_eq_true c46
           clear c46
           by_cases c47 : (((rd_T28 l0_2 (ji41)).f0) == ((rd_T28 l1_2 (ji44)).f0) && (((rd_T28 l0_2 (ji41)).f1) == ((rd_T28 l1_2 (ji44)).f1) && ((((rd_T28 l0_2 (ji41)).f2).toList) == (((rd_T28 l1_2 (ji44)).f2).toList)))) = true
           ·rw [if_pos c47] at H
            have c47b0 : (((rd_T28 l0_2 (ji41)).f0) == ((rd_T28 l1_2 (ji44)).f0) && (((rd_T28 l0_2 (ji41)).f1) == ((rd_T28 l1_2 (ji44)).f1) && ((((rd_T28 l0_2 (ji41)).f2).toList) == (((rd_T28 l1_2 (ji44)).f2).toList)))) = true := c47
            (try (have c47b1 : decide (((rd_T28 l0_2 (ji41)).f0) = ((rd_T28 l1_2 (ji44)).f0) && (((rd_T28 l0_2 (ji41)).f1) == ((rd_T28 l1_2 (ji44)).f1) && ((((rd_T28 l0_2 (ji41)).f2).toList) == (((rd_T28 l1_2 (ji44)).f2).toList)))) = true := by simpa using c47))
            (try (have c47b2 : (((rd_T28 l0_2 (ji41)).f0) == ((rd_T28 l1_2 (ji44)).f0) && (((rd_T28 l0_2 (ji41)).f1) == ((rd_T28 l1_2 (ji44)).f1) && ((((rd_T28 l0_2 (ji41)).f2).toList) == (((rd_T28 l1_2 (ji44)).f2).toList)))) = true := by simpa using c47))
            clear c47
            have H' := Aside0.mk H
            clear H
            try go_wp2
            replace BK541 := Aside0.mk (blk_drew BK541.out)
            replace BK542 := Aside0.mk (blk_drew BK542.out)
            replace HB := Aside0.mk (below_drew1 HB.out)
            have p550 : 0 ≤ ((ji41) : Int) := of_decide_eq_true B15x7_
            have q550 : (ji41) < (l0_2.length : Int) := of_decide_eq_true B15x7_
            obtain ⟨ad550, e550, hx550_0, hx550_1, hx550_2⟩ := at_T28 HR0_2.out (ji41) p550 q550
            have hw550_2 := hx550_2
            have hw550_1 := hx550_1
            have hw550_0 := hx550_0
            cases e550
            replace hx550_0 := (HB.out.cell (World.block_lt_of_cell? w _ hx550_0)).trans hx550_0
            replace hx550_1 := (HB.out.cell (World.block_lt_of_cell? w _ hx550_1)).trans hx550_1
            replace hx550_2 := (HB.out.cell (World.block_lt_of_cell? w _ hx550_2)).trans hx550_2
            replace p550 := eq_true p550
            replace q550 := eq_true q550
            have p551 : 0 ≤ ((ji44) : Int) := of_decide_eq_true B15x7_
            have q551 : (ji44) < (l1_2.length : Int) := of_decide_eq_true B15x7_
            obtain ⟨ad551, e551, hx551_0, hx551_1, hx551_2⟩ := at_T28 HR1_2.out (ji44) p551 q551
            have hw551_2 := hx551_2
            have hw551_1 := hx551_1
            have hw551_0 := hx551_0
            cases e551
            replace hx551_0 := (HB.out.cell (World.block_lt_of_cell? w _ hx551_0)).trans hx551_0
            replace hx551_1 := (HB.out.cell (World.block_lt_of_cell? w _ hx551_1)).trans hx551_1
            replace hx551_2 := (HB.out.cell (World.block_lt_of_cell? w _ hx551_2)).trans hx551_2
            replace p551 := eq_true p551
            replace q551 := eq_true q551
            refine start_ (n := 29) (S := fun w' => w'.cell? ⟨gb541, 0, none⟩ = some (.int .i64 a0_0) ∧ w'.cell? ⟨gb541, 1, none⟩ = some (.int .i64 a0_1) ∧ w'.cell? ⟨gb541, 2, none⟩ = some (.slice (some ad550) l0_2.length c0_2) ∧ w'.cell? ⟨gb542, 0, none⟩ = some (.int .i64 a1_0) ∧ w'.cell? ⟨gb542, 1, none⟩ = some (.int .i64 a1_1) ∧ w'.cell? ⟨gb542, 2, none⟩ = some (.slice (some ad551) l1_2.length c1_2) ∧ w'.cell? (ad550.add (((ji41)).toNat * 3)) = some (.int .i64 ((rd_T28 l0_2 (ji41)).f0)) ∧ w'.cell? ⟨(ad550.add (((ji41)).toNat * 3)).block, (ad550.add (((ji41)).toNat * 3)).off + 1, none⟩ = some (.int .i64 ((rd_T28 l0_2 (ji41)).f1)) ∧ w'.cell? ⟨(ad550.add (((ji41)).toNat * 3)).block, (ad550.add (((ji41)).toNat * 3)).off + 2, none⟩ = some (.string ((rd_T28 l0_2 (ji41)).f2)) ∧ w'.cell? (ad551.add (((ji44)).toNat * 3)) = some (.int .i64 ((rd_T28 l1_2 (ji44)).f0)) ∧ w'.cell? ⟨(ad551.add (((ji44)).toNat * 3)).block, (ad551.add (((ji44)).toNat * 3)).off + 1, none⟩ = some (.int .i64 ((rd_T28 l1_2 (ji44)).f1)) ∧ w'.cell? ⟨(ad551.add (((ji44)).toNat * 3)).block, (ad551.add (((ji44)).toNat * 3)).off + 2, none⟩ = some (.string ((rd_T28 l1_2 (ji44)).f2))) (ds := []) #[false, false, false, false, false, false, false, false, false, false, false, false, false, false, false, false, false, false, false, false, false, false, false, false, false, false, false, false, false] B15x6_ rfl rfl ⟨(blk_cell BK541.out 0).trans rfl, (blk_cell BK541.out 1).trans rfl, (blk_cell BK541.out 2).trans rfl, (blk_cell BK542.out 0).trans rfl, (blk_cell BK542.out 1).trans rfl, (blk_cell BK542.out 2).trans rfl, ((HB.out.cell (World.block_lt_of_cell? w _ hw550_0)).trans hw550_0), ((HB.out.cell (World.block_lt_of_cell? w _ hw550_1)).trans hw550_1), ((HB.out.cell (World.block_lt_of_cell? w _ hw550_2)).trans hw550_2), ((HB.out.cell (World.block_lt_of_cell? w _ hw551_0)).trans hw551_0), ((HB.out.cell (World.block_lt_of_cell? w _ hw551_1)).trans hw551_1), ((HB.out.cell (World.block_lt_of_cell? w _ hw551_2)).trans hw551_2)⟩ (fun hHeld => ?_); refine with_tabW spec_Shared.tab9 spec_Shared.bits9 (fun HT_ HW_ => ?_)
            generalize wr.drew = w48 at BK541 BK542 HB hx550_0 hx550_1 hx550_2 hx551_0 hx551_1 hx551_2 hHeld ⊢
            refine pu_ 0 37 HT_ ?_
            refine ta_ 1 38 HT_ HW_ hHeld ?_
            refine one_ (i := 2) (N := some 39) #[true, true, true, false, false, false, false, false, false, false, false, false, false, false, false, false, false, false, false, false, false, false, false, false, false, false, false, false, false] rfl rfl (one_of HT_.out B15x6_) (by decide) (fun K hK => ?_)
            refine goes_ Try.func48 B15x6_ rfl #[.agg #[.int .i64 a0_0, .int .i64 a0_1, .slice (some ad550) l0_2.length c0_2]] (by rfl) rfl rfl B15x1_ ?_
            with_reducible refine (spec_l06Last.calls a0_0 a0_1 _ _ l0_2 t548 _ ?side1 ?side2 A37.out).mono ?_
            (case side1 => exact B15x2_)
            (case side2 => exact HC0_2.out)
            rintro e w49 ⟨rfl, hb⟩
            refine ⟨_, rfl, ?_⟩
            replace BK541 := Aside0.mk (bb BK541.out hb)
            replace BK542 := Aside0.mk (bb BK542.out hb)
            replace HB := Aside0.mk (below_step B15x0_ hb)
            (try clear hb)
            (try clear hb2)
            (try clear hk)
            (try clear hi)
            refine hK.out _ _ ⟨(blk_cell BK541.out 0).trans rfl, (blk_cell BK541.out 1).trans rfl, (blk_cell BK541.out 2).trans rfl, (blk_cell BK542.out 0).trans rfl, (blk_cell BK542.out 1).trans rfl, (blk_cell BK542.out 2).trans rfl, ((HB.out.cell (World.block_lt_of_cell? w _ hw550_0)).trans hw550_0), ((HB.out.cell (World.block_lt_of_cell? w _ hw550_1)).trans hw550_1), ((HB.out.cell (World.block_lt_of_cell? w _ hw550_2)).trans hw550_2), ((HB.out.cell (World.block_lt_of_cell? w _ hw551_0)).trans hw551_0), ((HB.out.cell (World.block_lt_of_cell? w _ hw551_1)).trans hw551_1), ((HB.out.cell (World.block_lt_of_cell? w _ hw551_2)).trans hw551_2)⟩ (fun hHeld => ?_)
            clear hK K
            refine norm_ (a' := ?_) ?_ ?_
            rotate_left
            ·show Act.put _ (some 39) _ = _
             simp only [Act.put, List.setIfInBounds_toArray, List.set_cons_zero, List.set_cons_succ, i64_w, i32_w]
             rfl
            refine pu_ 3 40 HT_ ?_
            refine pu_ 4 41 HT_ ?_
            refine pu_ 5 42 HT_ ?_
            refine ta_ 6 43 HT_ HW_ hHeld ?_
            refine one_ (i := 7) (N := some 44) #[true, true, true, true, true, true, true, true, false, false, false, false, false, false, false, false, false, false, false, false, false, false, false, false, false, false, false, false, false] rfl rfl (one_of HT_.out B15x6_) (by decide) (fun K hK => ?_)
            refine goes_ Try.func48 B15x6_ rfl #[.agg #[.int .i64 a1_0, .int .i64 a1_1, .slice (some ad551) l1_2.length c1_2]] (by rfl) rfl rfl B15x1_ ?_
            with_reducible refine (spec_l06Last.calls a1_0 a1_1 _ _ l1_2 t549 _ ?side1 ?side2 A39.out).mono ?_
            (case side1 => exact B15x5_)
            (case side2 => exact HC1_2.out)
            rintro e w50 ⟨rfl, hb⟩
            refine ⟨_, rfl, ?_⟩
            replace BK541 := Aside0.mk (bb BK541.out hb)
            replace BK542 := Aside0.mk (bb BK542.out hb)
            replace HB := Aside0.mk (below_step B15x0_ hb)
            (try clear hb)
            (try clear hb2)
            (try clear hk)
            (try clear hi)
            refine hK.out _ _ ⟨(blk_cell BK541.out 0).trans rfl, (blk_cell BK541.out 1).trans rfl, (blk_cell BK541.out 2).trans rfl, (blk_cell BK542.out 0).trans rfl, (blk_cell BK542.out 1).trans rfl, (blk_cell BK542.out 2).trans rfl, ((HB.out.cell (World.block_lt_of_cell? w _ hw550_0)).trans hw550_0), ((HB.out.cell (World.block_lt_of_cell? w _ hw550_1)).trans hw550_1), ((HB.out.cell (World.block_lt_of_cell? w _ hw550_2)).trans hw550_2), ((HB.out.cell (World.block_lt_of_cell? w _ hw551_0)).trans hw551_0), ((HB.out.cell (World.block_lt_of_cell? w _ hw551_1)).trans hw551_1), ((HB.out.cell (World.block_lt_of_cell? w _ hw551_2)).trans hw551_2)⟩ (fun hHeld => ?_)
            clear hK K
            refine norm_ (a' := ?_) ?_ ?_
            rotate_left
            ·show Act.put _ (some 44) _ = _
             simp only [Act.put, List.setIfInBounds_toArray, List.set_cons_zero, List.set_cons_succ, i64_w, i32_w]
             rfl
            refine pu_ 8 45 HT_ ?_
            refine pu_ 9 46 HT_ ?_
            refine pu_ 10 47 HT_ ?_
            refine pu_ 11 48 HT_ ?_
            refine pu_ 13 50 HT_ ?_
            refine pu_ 14 51 HT_ ?_
            refine pu_ 19 56 HT_ ?_
            refine pu_ 21 58 HT_ ?_
            refine pu_ 22 59 HT_ ?_
            refine ta_ 12 49 HT_ HW_ hHeld ?_
            refine ta_ 15 52 HT_ HW_ hHeld ?_
            refine pu_ 16 53 HT_ ?_
            refine pu_ 17 54 HT_ ?_
            refine ta_ 18 55 HT_ HW_ hHeld ?_
            refine ta_ 20 57 HT_ HW_ hHeld ?_
            refine ta_ 23 60 HT_ HW_ hHeld ?_
            refine pu_ 24 61 HT_ ?_
            refine pu_ 25 62 HT_ ?_
            refine ta_ 26 63 HT_ HW_ hHeld ?_
            refine pu_ 27 64 HT_ ?_
            refine pu_ 28 65 HT_ ?_
            refine done_ (done_of HT_.out B15x6_) ?_
            try go_wp2
            go_roundg k4
            case measure => have := HJ2.out; have := HJ17.out; have := HJ24.out; have := HK4.out; omega
            case rel => exact ⟨(wrap64 (x6_4 + 1)), (be_), H', ⟨(by have := HJ2.out; have := HJ17.out; have := HJ24.out; have := HK4.out; omega)⟩, ⟨B15x3_⟩, ⟨B15x4_⟩, ⟨B15x0_⟩⟩
           ·rw [if_neg c47] at H
            have c47b0 : (((rd_T28 l0_2 (ji41)).f0) == ((rd_T28 l1_2 (ji44)).f0) && (((rd_T28 l0_2 (ji41)).f1) == ((rd_T28 l1_2 (ji44)).f1) && ((((rd_T28 l0_2 (ji41)).f2).toList) == (((rd_T28 l1_2 (ji44)).f2).toList)))) = false := by simpa using c47
            (try (have c47b1 : decide (((rd_T28 l0_2 (ji41)).f0) = ((rd_T28 l1_2 (ji44)).f0) && (((rd_T28 l0_2 (ji41)).f1) == ((rd_T28 l1_2 (ji44)).f1) && ((((rd_T28 l0_2 (ji41)).f2).toList) == (((rd_T28 l1_2 (ji44)).f2).toList)))) = false := by simpa using c47))
            (try (have c47b2 : (((rd_T28 l0_2 (ji41)).f0) == ((rd_T28 l1_2 (ji44)).f0) && (((rd_T28 l0_2 (ji41)).f1) == ((rd_T28 l1_2 (ji44)).f1) && ((((rd_T28 l0_2 (ji41)).f2).toList) == (((rd_T28 l1_2 (ji44)).f2).toList)))) = false := by simpa using c47))
            (try (have c47b3 : ¬ (((rd_T28 l0_2 (ji41)).f0) = ((rd_T28 l1_2 (ji44)).f0) && (((rd_T28 l0_2 (ji41)).f1) == ((rd_T28 l1_2 (ji44)).f1) && ((((rd_T28 l0_2 (ji41)).f2).toList) == (((rd_T28 l1_2 (ji44)).f2).toList)))) := by simpa using c47))
            clear c47
            obtain rfl := Option.some.inj H
            try go_wp2
            replace BK541 := Aside0.mk (blk_drew BK541.out)
            replace BK542 := Aside0.mk (blk_drew BK542.out)
            replace HB := Aside0.mk (below_drew1 HB.out)
            have p550 : 0 ≤ ((ji41) : Int) := of_decide_eq_true B15x7_
            have q550 : (ji41) < (l0_2.length : Int) := of_decide_eq_true B15x7_
            obtain ⟨ad550, e550, hx550_0, hx550_1, hx550_2⟩ := at_T28 HR0_2.out (ji41) p550 q550
            have hw550_2 := hx550_2
            have hw550_1 := hx550_1
            have hw550_0 := hx550_0
            cases e550
            replace hx550_0 := (HB.out.cell (World.block_lt_of_cell? w _ hx550_0)).trans hx550_0
            replace hx550_1 := (HB.out.cell (World.block_lt_of_cell? w _ hx550_1)).trans hx550_1
            replace hx550_2 := (HB.out.cell (World.block_lt_of_cell? w _ hx550_2)).trans hx550_2
            replace p550 := eq_true p550
            replace q550 := eq_true q550
            have p551 : 0 ≤ ((ji44) : Int) := of_decide_eq_true B15x7_
            have q551 : (ji44) < (l1_2.length : Int) := of_decide_eq_true B15x7_
            obtain ⟨ad551, e551, hx551_0, hx551_1, hx551_2⟩ := at_T28 HR1_2.out (ji44) p551 q551
            have hw551_2 := hx551_2
            have hw551_1 := hx551_1
            have hw551_0 := hx551_0
            cases e551
            replace hx551_0 := (HB.out.cell (World.block_lt_of_cell? w _ hx551_0)).trans hx551_0
            replace hx551_1 := (HB.out.cell (World.block_lt_of_cell? w _ hx551_1)).trans hx551_1
            replace hx551_2 := (HB.out.cell (World.block_lt_of_cell? w _ hx551_2)).trans hx551_2
            replace p551 := eq_true p551
            replace q551 := eq_true q551
            refine start_ (n := 29) (S := fun w' => w'.cell? ⟨gb541, 0, none⟩ = some (.int .i64 a0_0) ∧ w'.cell? ⟨gb541, 1, none⟩ = some (.int .i64 a0_1) ∧ w'.cell? ⟨gb541, 2, none⟩ = some (.slice (some ad550) l0_2.length c0_2) ∧ w'.cell? ⟨gb542, 0, none⟩ = some (.int .i64 a1_0) ∧ w'.cell? ⟨gb542, 1, none⟩ = some (.int .i64 a1_1) ∧ w'.cell? ⟨gb542, 2, none⟩ = some (.slice (some ad551) l1_2.length c1_2) ∧ w'.cell? (ad550.add (((ji41)).toNat * 3)) = some (.int .i64 ((rd_T28 l0_2 (ji41)).f0)) ∧ w'.cell? ⟨(ad550.add (((ji41)).toNat * 3)).block, (ad550.add (((ji41)).toNat * 3)).off + 1, none⟩ = some (.int .i64 ((rd_T28 l0_2 (ji41)).f1)) ∧ w'.cell? ⟨(ad550.add (((ji41)).toNat * 3)).block, (ad550.add (((ji41)).toNat * 3)).off + 2, none⟩ = some (.string ((rd_T28 l0_2 (ji41)).f2)) ∧ w'.cell? (ad551.add (((ji44)).toNat * 3)) = some (.int .i64 ((rd_T28 l1_2 (ji44)).f0)) ∧ w'.cell? ⟨(ad551.add (((ji44)).toNat * 3)).block, (ad551.add (((ji44)).toNat * 3)).off + 1, none⟩ = some (.int .i64 ((rd_T28 l1_2 (ji44)).f1)) ∧ w'.cell? ⟨(ad551.add (((ji44)).toNat * 3)).block, (ad551.add (((ji44)).toNat * 3)).off + 2, none⟩ = some (.string ((rd_T28 l1_2 (ji44)).f2))) (ds := []) #[false, false, false, false, false, false, false, false, false, false, false, false, false, false, false, false, false, false, false, false, false, false, false, false, false, false, false, false, false] B15x6_ rfl rfl ⟨(blk_cell BK541.out 0).trans rfl, (blk_cell BK541.out 1).trans rfl, (blk_cell BK541.out 2).trans rfl, (blk_cell BK542.out 0).trans rfl, (blk_cell BK542.out 1).trans rfl, (blk_cell BK542.out 2).trans rfl, ((HB.out.cell (World.block_lt_of_cell? w _ hw550_0)).trans hw550_0), ((HB.out.cell (World.block_lt_of_cell? w _ hw550_1)).trans hw550_1), ((HB.out.cell (World.block_lt_of_cell? w _ hw550_2)).trans hw550_2), ((HB.out.cell (World.block_lt_of_cell? w _ hw551_0)).trans hw551_0), ((HB.out.cell (World.block_lt_of_cell? w _ hw551_1)).trans hw551_1), ((HB.out.cell (World.block_lt_of_cell? w _ hw551_2)).trans hw551_2)⟩ (fun hHeld => ?_); refine with_tabW spec_Shared.tab9 spec_Shared.bits9 (fun HT_ HW_ => ?_)
            generalize wr.drew = w51 at BK541 BK542 HB hx550_0 hx550_1 hx550_2 hx551_0 hx551_1 hx551_2 hHeld ⊢
            refine pu_ 0 37 HT_ ?_
            refine ta_ 1 38 HT_ HW_ hHeld ?_
            refine one_ (i := 2) (N := some 39) #[true, true, true, false, false, false, false, false, false, false, false, false, false, false, false, false, false, false, false, false, false, false, false, false, false, false, false, false, false] rfl rfl (one_of HT_.out B15x6_) (by decide) (fun K hK => ?_)
            refine goes_ Try.func48 B15x6_ rfl #[.agg #[.int .i64 a0_0, .int .i64 a0_1, .slice (some ad550) l0_2.length c0_2]] (by rfl) rfl rfl B15x1_ ?_
            with_reducible refine (spec_l06Last.calls a0_0 a0_1 _ _ l0_2 t548 _ ?side1 ?side2 A37.out).mono ?_
            (case side1 => exact B15x2_)
            (case side2 => exact HC0_2.out)
            rintro e w52 ⟨rfl, hb⟩
            refine ⟨_, rfl, ?_⟩
            replace BK541 := Aside0.mk (bb BK541.out hb)
            replace BK542 := Aside0.mk (bb BK542.out hb)
            replace HB := Aside0.mk (below_step B15x0_ hb)
            (try clear hb)
            (try clear hb2)
            (try clear hk)
            (try clear hi)
            refine hK.out _ _ ⟨(blk_cell BK541.out 0).trans rfl, (blk_cell BK541.out 1).trans rfl, (blk_cell BK541.out 2).trans rfl, (blk_cell BK542.out 0).trans rfl, (blk_cell BK542.out 1).trans rfl, (blk_cell BK542.out 2).trans rfl, ((HB.out.cell (World.block_lt_of_cell? w _ hw550_0)).trans hw550_0), ((HB.out.cell (World.block_lt_of_cell? w _ hw550_1)).trans hw550_1), ((HB.out.cell (World.block_lt_of_cell? w _ hw550_2)).trans hw550_2), ((HB.out.cell (World.block_lt_of_cell? w _ hw551_0)).trans hw551_0), ((HB.out.cell (World.block_lt_of_cell? w _ hw551_1)).trans hw551_1), ((HB.out.cell (World.block_lt_of_cell? w _ hw551_2)).trans hw551_2)⟩ (fun hHeld => ?_)
            clear hK K
            refine norm_ (a' := ?_) ?_ ?_
            rotate_left
            ·show Act.put _ (some 39) _ = _
             simp only [Act.put, List.setIfInBounds_toArray, List.set_cons_zero, List.set_cons_succ, i64_w, i32_w]
             rfl
            refine pu_ 3 40 HT_ ?_
            refine pu_ 4 41 HT_ ?_
            refine pu_ 5 42 HT_ ?_
            refine ta_ 6 43 HT_ HW_ hHeld ?_
            refine one_ (i := 7) (N := some 44) #[true, true, true, true, true, true, true, true, false, false, false, false, false, false, false, false, false, false, false, false, false, false, false, false, false, false, false, false, false] rfl rfl (one_of HT_.out B15x6_) (by decide) (fun K hK => ?_)
            refine goes_ Try.func48 B15x6_ rfl #[.agg #[.int .i64 a1_0, .int .i64 a1_1, .slice (some ad551) l1_2.length c1_2]] (by rfl) rfl rfl B15x1_ ?_
            with_reducible refine (spec_l06Last.calls a1_0 a1_1 _ _ l1_2 t549 _ ?side1 ?side2 A39.out).mono ?_
            (case side1 => exact B15x5_)
            (case side2 => exact HC1_2.out)
            rintro e w53 ⟨rfl, hb⟩
            refine ⟨_, rfl, ?_⟩
            replace BK541 := Aside0.mk (bb BK541.out hb)
            replace BK542 := Aside0.mk (bb BK542.out hb)
            replace HB := Aside0.mk (below_step B15x0_ hb)
            (try clear hb)
            (try clear hb2)
            (try clear hk)
            (try clear hi)
            refine hK.out _ _ ⟨(blk_cell BK541.out 0).trans rfl, (blk_cell BK541.out 1).trans rfl, (blk_cell BK541.out 2).trans rfl, (blk_cell BK542.out 0).trans rfl, (blk_cell BK542.out 1).trans rfl, (blk_cell BK542.out 2).trans rfl, ((HB.out.cell (World.block_lt_of_cell? w _ hw550_0)).trans hw550_0), ((HB.out.cell (World.block_lt_of_cell? w _ hw550_1)).trans hw550_1), ((HB.out.cell (World.block_lt_of_cell? w _ hw550_2)).trans hw550_2), ((HB.out.cell (World.block_lt_of_cell? w _ hw551_0)).trans hw551_0), ((HB.out.cell (World.block_lt_of_cell? w _ hw551_1)).trans hw551_1), ((HB.out.cell (World.block_lt_of_cell? w _ hw551_2)).trans hw551_2)⟩ (fun hHeld => ?_)
            clear hK K
            refine norm_ (a' := ?_) ?_ ?_
            rotate_left
            ·show Act.put _ (some 44) _ = _
             simp only [Act.put, List.setIfInBounds_toArray, List.set_cons_zero, List.set_cons_succ, i64_w, i32_w]
             rfl
            refine pu_ 8 45 HT_ ?_
            refine pu_ 9 46 HT_ ?_
            refine pu_ 10 47 HT_ ?_
            refine pu_ 11 48 HT_ ?_
            refine pu_ 13 50 HT_ ?_
            refine pu_ 14 51 HT_ ?_
            refine pu_ 19 56 HT_ ?_
            refine pu_ 21 58 HT_ ?_
            refine pu_ 22 59 HT_ ?_
            refine ta_ 12 49 HT_ HW_ hHeld ?_
            refine ta_ 15 52 HT_ HW_ hHeld ?_
            refine pu_ 16 53 HT_ ?_
            refine pu_ 17 54 HT_ ?_
            refine ta_ 18 55 HT_ HW_ hHeld ?_
            refine ta_ 20 57 HT_ HW_ hHeld ?_
            refine ta_ 23 60 HT_ HW_ hHeld ?_
            refine pu_ 24 61 HT_ ?_
            refine pu_ 25 62 HT_ ?_
            refine ta_ 26 63 HT_ HW_ hHeld ?_
            refine pu_ 27 64 HT_ ?_
            refine pu_ 28 65 HT_ ?_
            refine done_ (done_of HT_.out B15x6_) ?_
            try go_wp2
            go_ret
            exact ⟨(by first | rfl | (simp [errW_none, errW_some] <;> rfl) | (simp only [← hji41, ← hji44]; first | rfl | (simp [errW_none, errW_some] <;> rfl)) | (simp [*, errW_none, errW_some] <;> rfl)), B15x0_⟩
          ·rw [if_neg c40] at H
           have c40b0 : decide (x6_4 < t549) = false := decide_eq_false c40
           clear c40
           obtain rfl := Option.some.inj H
           try go_wp2
           replace BK541 := Aside0.mk (blk_drew BK541.out)
           replace BK542 := Aside0.mk (blk_drew BK542.out)
           replace HB := Aside0.mk (below_drew1 HB.out)
           refine start_ (n := 29) (S := fun w' => w'.cell? ⟨gb541, 0, none⟩ = some (.int .i64 a0_0) ∧ w'.cell? ⟨gb541, 1, none⟩ = some (.int .i64 a0_1) ∧ w'.cell? ⟨gb541, 2, none⟩ = some (.slice A0_2 l0_2.length c0_2) ∧ w'.cell? ⟨gb542, 0, none⟩ = some (.int .i64 a1_0) ∧ w'.cell? ⟨gb542, 1, none⟩ = some (.int .i64 a1_1) ∧ w'.cell? ⟨gb542, 2, none⟩ = some (.slice A1_2 l1_2.length c1_2)) (ds := []) #[false, false, false, false, false, false, false, false, false, false, false, false, false, false, false, false, false, false, false, false, false, false, false, false, false, false, false, false, false] B15x6_ rfl rfl ⟨(blk_cell BK541.out 0).trans rfl, (blk_cell BK541.out 1).trans rfl, (blk_cell BK541.out 2).trans rfl, (blk_cell BK542.out 0).trans rfl, (blk_cell BK542.out 1).trans rfl, (blk_cell BK542.out 2).trans rfl⟩ (fun hHeld => ?_); refine with_tabW spec_Shared.tab9 spec_Shared.bits9 (fun HT_ HW_ => ?_)
           generalize wr.drew = w54 at BK541 BK542 HB hHeld ⊢
           refine pu_ 0 37 HT_ ?_
           refine ta_ 1 38 HT_ HW_ hHeld ?_
           refine one_ (i := 2) (N := some 39) #[true, true, true, false, false, false, false, false, false, false, false, false, false, false, false, false, false, false, false, false, false, false, false, false, false, false, false, false, false] rfl rfl (one_of HT_.out B15x6_) (by decide) (fun K hK => ?_)
           refine goes_ Try.func48 B15x6_ rfl #[.agg #[.int .i64 a0_0, .int .i64 a0_1, .slice A0_2 l0_2.length c0_2]] (by rfl) rfl rfl B15x1_ ?_
           with_reducible refine (spec_l06Last.calls a0_0 a0_1 _ _ l0_2 t548 _ ?side1 ?side2 A37.out).mono ?_
           (case side1 => exact B15x2_)
           (case side2 => exact HC0_2.out)
           rintro e w55 ⟨rfl, hb⟩
           refine ⟨_, rfl, ?_⟩
           replace BK541 := Aside0.mk (bb BK541.out hb)
           replace BK542 := Aside0.mk (bb BK542.out hb)
           replace HB := Aside0.mk (below_step B15x0_ hb)
           (try clear hb)
           (try clear hb2)
           (try clear hk)
           (try clear hi)
           refine hK.out _ _ ⟨(blk_cell BK541.out 0).trans rfl, (blk_cell BK541.out 1).trans rfl, (blk_cell BK541.out 2).trans rfl, (blk_cell BK542.out 0).trans rfl, (blk_cell BK542.out 1).trans rfl, (blk_cell BK542.out 2).trans rfl⟩ (fun hHeld => ?_)
           clear hK K
           refine norm_ (a' := ?_) ?_ ?_
           rotate_left
           ·show Act.put _ (some 39) _ = _
            simp only [Act.put, List.setIfInBounds_toArray, List.set_cons_zero, List.set_cons_succ, i64_w, i32_w]
            rfl
           refine pu_ 3 40 HT_ ?_
           refine pu_ 4 41 HT_ ?_
           refine pu_ 5 42 HT_ ?_
           refine ta_ 6 43 HT_ HW_ hHeld ?_
           refine one_ (i := 7) (N := some 44) #[true, true, true, true, true, true, true, true, false, false, false, false, false, false, false, false, false, false, false, false, false, false, false, false, false, false, false, false, false] rfl rfl (one_of HT_.out B15x6_) (by decide) (fun K hK => ?_)
           refine goes_ Try.func48 B15x6_ rfl #[.agg #[.int .i64 a1_0, .int .i64 a1_1, .slice A1_2 l1_2.length c1_2]] (by rfl) rfl rfl B15x1_ ?_
           with_reducible refine (spec_l06Last.calls a1_0 a1_1 _ _ l1_2 t549 _ ?side1 ?side2 A39.out).mono ?_
           (case side1 => exact B15x5_)
           (case side2 => exact HC1_2.out)
           rintro e w56 ⟨rfl, hb⟩
           refine ⟨_, rfl, ?_⟩
           replace BK541 := Aside0.mk (bb BK541.out hb)
           replace BK542 := Aside0.mk (bb BK542.out hb)
           replace HB := Aside0.mk (below_step B15x0_ hb)
           (try clear hb)
           (try clear hb2)
           (try clear hk)
           (try clear hi)
           refine hK.out _ _ ⟨(blk_cell BK541.out 0).trans rfl, (blk_cell BK541.out 1).trans rfl, (blk_cell BK541.out 2).trans rfl, (blk_cell BK542.out 0).trans rfl, (blk_cell BK542.out 1).trans rfl, (blk_cell BK542.out 2).trans rfl⟩ (fun hHeld => ?_)
           clear hK K
           refine norm_ (a' := ?_) ?_ ?_
           rotate_left
           ·show Act.put _ (some 44) _ = _
            simp only [Act.put, List.setIfInBounds_toArray, List.set_cons_zero, List.set_cons_succ, i64_w, i32_w]
            rfl
           refine pu_ 8 45 HT_ ?_
           refine pu_ 9 46 HT_ ?_
           refine pu_ 10 47 HT_ ?_
           refine of_ 11 48 HT_ ?_
           refine of_ 12 49 HT_ ?_
           refine of_ 13 50 HT_ ?_
           refine of_ 14 51 HT_ ?_
           refine of_ 15 52 HT_ ?_
           refine of_ 16 53 HT_ ?_
           refine of_ 17 54 HT_ ?_
           refine of_ 18 55 HT_ ?_
           refine of_ 19 56 HT_ ?_
           refine of_ 20 57 HT_ ?_
           refine of_ 21 58 HT_ ?_
           refine of_ 22 59 HT_ ?_
           refine of_ 23 60 HT_ ?_
           refine of_ 24 61 HT_ ?_
           refine of_ 25 62 HT_ ?_
           refine of_ 26 63 HT_ ?_
           refine of_ 27 64 HT_ ?_
           refine pu_ 28 65 HT_ ?_
           refine done_ (done_of HT_.out B15x6_) ?_
           try go_wp2
           go_ret
           exact ⟨B15x8_, B15x0_⟩
         ·rw [if_neg c38] at H
          have c38b0 : decide (x6_4 < t548) = false := decide_eq_false c38
          clear c38
          obtain rfl := Option.some.inj H
          try go_wp2
          replace BK541 := Aside0.mk (blk_drew BK541.out)
          replace BK542 := Aside0.mk (blk_drew BK542.out)
          replace HB := Aside0.mk (below_drew1 HB.out)
          refine start_ (n := 29) (S := fun w' => w'.cell? ⟨gb541, 0, none⟩ = some (.int .i64 a0_0) ∧ w'.cell? ⟨gb541, 1, none⟩ = some (.int .i64 a0_1) ∧ w'.cell? ⟨gb541, 2, none⟩ = some (.slice A0_2 l0_2.length c0_2)) (ds := []) #[false, false, false, false, false, false, false, false, false, false, false, false, false, false, false, false, false, false, false, false, false, false, false, false, false, false, false, false, false] B15x6_ rfl rfl ⟨(blk_cell BK541.out 0).trans rfl, (blk_cell BK541.out 1).trans rfl, (blk_cell BK541.out 2).trans rfl⟩ (fun hHeld => ?_); refine with_tabW spec_Shared.tab9 spec_Shared.bits9 (fun HT_ HW_ => ?_)
          generalize wr.drew = w57 at BK541 BK542 HB hHeld ⊢
          refine pu_ 0 37 HT_ ?_
          refine ta_ 1 38 HT_ HW_ hHeld ?_
          refine one_ (i := 2) (N := some 39) #[true, true, true, false, false, false, false, false, false, false, false, false, false, false, false, false, false, false, false, false, false, false, false, false, false, false, false, false, false] rfl rfl (one_of HT_.out B15x6_) (by decide) (fun K hK => ?_)
          refine goes_ Try.func48 B15x6_ rfl #[.agg #[.int .i64 a0_0, .int .i64 a0_1, .slice A0_2 l0_2.length c0_2]] (by rfl) rfl rfl B15x1_ ?_
          with_reducible refine (spec_l06Last.calls a0_0 a0_1 _ _ l0_2 t548 _ ?side1 ?side2 A37.out).mono ?_
          (case side1 => exact B15x2_)
          (case side2 => exact HC0_2.out)
          rintro e w58 ⟨rfl, hb⟩
          refine ⟨_, rfl, ?_⟩
          replace BK541 := Aside0.mk (bb BK541.out hb)
          replace BK542 := Aside0.mk (bb BK542.out hb)
          replace HB := Aside0.mk (below_step B15x0_ hb)
          (try clear hb)
          (try clear hb2)
          (try clear hk)
          (try clear hi)
          refine hK.out _ _ ⟨(blk_cell BK541.out 0).trans rfl, (blk_cell BK541.out 1).trans rfl, (blk_cell BK541.out 2).trans rfl⟩ (fun hHeld => ?_)
          clear hK K
          refine norm_ (a' := ?_) ?_ ?_
          rotate_left
          ·show Act.put _ (some 39) _ = _
           simp only [Act.put, List.setIfInBounds_toArray, List.set_cons_zero, List.set_cons_succ, i64_w, i32_w]
           rfl
          refine pu_ 3 40 HT_ ?_
          refine pu_ 4 41 HT_ ?_
          refine of_ 5 42 HT_ ?_
          refine of_ 6 43 HT_ ?_
          refine of_ 7 44 HT_ ?_
          refine of_ 8 45 HT_ ?_
          refine pu_ 9 46 HT_ ?_
          refine pu_ 10 47 HT_ ?_
          refine of_ 11 48 HT_ ?_
          refine of_ 12 49 HT_ ?_
          refine of_ 13 50 HT_ ?_
          refine of_ 14 51 HT_ ?_
          refine of_ 15 52 HT_ ?_
          refine of_ 16 53 HT_ ?_
          refine of_ 17 54 HT_ ?_
          refine of_ 18 55 HT_ ?_
          refine of_ 19 56 HT_ ?_
          refine of_ 20 57 HT_ ?_
          refine of_ 21 58 HT_ ?_
          refine of_ 22 59 HT_ ?_
          refine of_ 23 60 HT_ ?_
          refine of_ 24 61 HT_ ?_
          refine of_ 25 62 HT_ ?_
          refine of_ 26 63 HT_ ?_
          refine of_ 27 64 HT_ ?_
          refine pu_ 28 65 HT_ ?_
          refine done_ (done_of HT_.out B15x6_) ?_
          try go_wp2
          go_ret
          exact ⟨B15x8_, B15x0_⟩

end Go.Proofs.Ytgffdijodnpolaa.QFnLogs
