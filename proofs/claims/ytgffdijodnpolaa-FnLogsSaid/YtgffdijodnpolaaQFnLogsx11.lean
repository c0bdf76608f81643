/- Functions that a law reaches, as functions of Lean, and the walks that show that the calls come to their answers: written by a program of this project out of the translation. No condition. -/
import Derived.Test.YtgffdijodnpolaaQFnLogsx0
import Derived.Test.YtgffdijodnpolaaQFnLogsx2
import Derived.Test.YtgffdijodnpolaaQFnLogsx5
import Derived.Test.YtgffdijodnpolaaQFnLogsx8
import Derived.Test.YtgffdijodnpolaaQFnLogsx10
import Derived.Test.YtgffdijodnpolaaVFnLogsShort4
import Derived.Test.YtgffdijodnpolaaVFnLogshort3
import Derived.Test.YtgffdijodnpolaaVFnLogsShort2
import Derived.Test.YtgffdijodnpolaaVFnLogsShort
namespace Go.Proofs.Ytgffdijodnpolaa.QFnLogs
open Go.RowKit Go.Proofs.YtgffdijodnpolaaW.PrintWords Go.Proofs.YtgffdijodnpolaaW.PrintLast Go.Proofs.YtgffdijodnpolaaW.PrintMore Go.Proofs.Ytgffdijodnpolaa.Short
attribute [local go_sem] max2_int min2_int max_two min_two max_three min_three max_four min_four   -- for this text's walks alone
set_option linter.unusedVariables false
set_option linter.unusedSimpArgs false

theorem B11x0_ {p : Prop} (h : p := by repeat (first | (with_reducible first | exact HI0.out | apply IsS107.alloc | apply IsS107.drewN | apply IsS107.drew | apply IsS107.set_1 | apply IsS107.set_2 | refine IsS107.far ?_ NB0_400.out _ | refine IsS107.far ?_ NB0_401.out _ | refine IsS107.far ?_ NB0_420.out _) | exact HI0.out)) : p := h
theorem B11x1_ {p : Prop} (h : p := by repeat (first | (with_reducible first | exact HK.out | apply KeepBut.set_ | apply keep_drewN | apply keep_drew | apply keep_alloc | refine keep_far ?_ GW400.out _ | refine keep_far ?_ GW401.out _ | refine keep_far ?_ GW420.out _) | exact HK.out)) : p := h
theorem B11x2_ {p : Prop} (h : p := by repeat (first | (with_reducible first | exact HB.out | apply below_alloc | apply pw_below_drewN | apply below_drew1 | refine below_set ?_ (IsS107.ge HI0.out) | refine below_set ?_ GE400.out | refine below_set ?_ GE401.out | refine below_set ?_ GE420.out) | exact HB.out)) : p := h
theorem B11x3_ {p : Prop} (h : p := by repeat (first | (with_reducible first | exact HK.out | apply KeepBut.set_ | apply keep_drewN | apply keep_drew | apply keep_alloc | refine keep_far ?_ GW400.out _ | refine keep_far ?_ GW401.out _) | exact HK.out)) : p := h
theorem B11x4_ {p : Prop} (h : p := by repeat (first | (with_reducible first | exact HI0.out | apply IsS107.alloc | apply IsS107.drewN | apply IsS107.drew | apply IsS107.set_1 | apply IsS107.set_2 | refine IsS107.far ?_ NB0_400.out _ | refine IsS107.far ?_ NB0_401.out _) | exact HI0.out)) : p := h
theorem B11x5_ {p : Prop} (h : p := by repeat (first | (with_reducible first | exact HB.out | apply below_alloc | apply pw_below_drewN | apply below_drew1 | refine below_set ?_ (IsS107.ge HI0.out) | refine below_set ?_ GE400.out | refine below_set ?_ GE401.out) | exact HB.out)) : p := h
theorem B11x6_ {p : Prop} (h : p := by (try simp only [List.map_toArray, List.map_cons, List.map_nil]); first | done | rfl | (simp only [List.length_drop, List.length_take]; rfl)) : p := h
theorem B11x7_ {p : Prop} (h : p := by repeat (first | (with_reducible exact HR416.out) | (with_reducible refine Kd.C_alloc ?_ _) | (with_reducible refine Kd.C_drewN ?_ _) | (with_reducible refine Kd.C_drew ?_) | exact HR416.out)) : p := h
theorem B11x8_ {p : Prop} (h : p := by (with_reducible repeat (first | apply Kd.R_alloc | apply Kd.R_drewN | apply Kd.R_drew)); exact HO_421002.out) : p := h
theorem B11x9_ {p : Prop} (h : p := by (with_reducible repeat (first | refine blk_drewN ?_ _ | refine blk_drew ?_ | refine blk_alloc ?_ _)); exact BK400.out) : p := h
theorem B11x10_ {p : Prop} (h : p := by (with_reducible repeat (first | refine blk_drewN ?_ _ | refine blk_drew ?_ | refine blk_alloc ?_ _)); exact BK401.out) : p := h
theorem B11x11_ {p : Prop} (h : p := by (with_reducible repeat (first | refine blk_drewN ?_ _ | refine blk_drew ?_ | refine blk_alloc ?_ _)); exact BK420.out) : p := h
theorem B11x12_ {p : Prop} (h : p := by (repeat (with_reducible (first | exact BK401.out | apply blk_drewN | apply blk_drew | apply blk_alloc | apply blk_put | apply bf NB401_420.out))); repeat (first | exact BK401.out | (simp only [List.setIfInBounds_toArray, List.set_cons_zero, List.set_cons_succ]; with_reducible rfl) | rfl)) : p := h
theorem B11x13_ {p : Prop} (h : p := by kernel_rfl) : p := h
theorem B11x14_ {p : Prop} (h : p := by (with_reducible repeat (first | apply Kd.R_alloc | apply Kd.R_drewN | apply Kd.R_drew)); exact HO412.out) : p := h
theorem B11x15_ {p : Prop} (h : p := by (with_reducible repeat (first | apply Kd.R_alloc | apply Kd.R_drewN | apply Kd.R_drew)); exact HO419.out) : p := h
theorem B11x16_ {p : Prop} (h : p := by repeat (first | exact B11x7_ | (with_reducible refine Kd.C_alloc ?_ _) | (with_reducible refine Kd.C_drewN ?_ _) | (with_reducible refine Kd.C_drew ?_))) : p := h
theorem B11x17_ {p : Prop} (h : p := by (repeat (with_reducible (first | exact BK400.out | apply blk_drewN | apply blk_drew | apply blk_alloc | apply blk_put | apply bf NB400_420.out))); repeat (first | exact BK400.out | (simp only [List.setIfInBounds_toArray, List.set_cons_zero, List.set_cons_succ]; with_reducible rfl) | rfl)) : p := h
theorem B11x18_ {p : Prop} (h : p := by (repeat (with_reducible (first | exact BK420.out | apply blk_drewN | apply blk_drew | apply blk_alloc | apply blk_put))); repeat (first | exact BK420.out | (simp only [List.setIfInBounds_toArray, List.set_cons_zero, List.set_cons_succ]; with_reducible rfl) | rfl)) : p := h
theorem B11x19_ {p : Prop} (h : p := by (with_reducible repeat (first | apply Kd.R_alloc | apply Kd.R_drewN | apply Kd.R_drew)); exact (Kd.R_mono (Kd.R_far (p := ⟨gb420, 2, none⟩) (Kd.R_types HO434.out BK420.out (by decide)) (fun _ hk => hk.2) (.slice Ao43 y432.length co43)) (fun _ h_ => h_.1))) : p := h
theorem B11x20_ {p : Prop} (h : p := by first | (go_simp; done) | (go_simp; rfl)) : p := h
theorem B11x21_ {p : Prop} (h : p := by rw [Ny413.out]; exact Kd.C_take (m := (x7_4 : Int).toNat) (Kd.C_foot_now HR1_2.out (show KeepBut w w25 g none from (KeepBut.trans B11x1_ (KeepBut.of_grown hg g) (Kd.R_base2 HO412.out)))) KL21.out) : p := h
theorem B11x22_ {p : Prop} (h : p := by simp only [putAll, Act.put, List.setIfInBounds_toArray, List.set_cons_zero, List.set_cons_succ]) : p := h
theorem B11x23_ {p : Prop} (h : p := by repeat (first | exact (Kd.R_reads' HO_421002.out).2.2 | (with_reducible refine Kd.C_alloc ?_ _) | (with_reducible refine Kd.C_drewN ?_ _) | (with_reducible refine Kd.C_drew ?_))) : p := h
theorem B11x24_ {p : Prop} (h : p := by exact (keep_size (w := w) (g := g) (row := none) B11x1_)) : p := h
theorem B11x25_ {p : Prop} (h : p := by first | (with_reducible assumption) | assumption) : p := h
/-! ### spec_l06Next: function 51 -/
mutual
def spec_l06Next.j0 : Nat → Int → Int → List Int → Int → Int → Int → Int → List (S28) → Option (Int × Int × (List (S28)) × Int × Int)
 | 0, _, _, _, _, _, _, _, _ => none
 | k + 1, x6, x7, x1000, x1001, x1002, x401000, x401001, x401002 => (some (([] : List (S28)) : List (S28))).bind fun y410 => (if 0 ≤ x7 then (if x7 ≤ (x401002.length : Int) then ((some (x401002.take (x7 : Int).toNat : List (S28))).bind fun y413 => (if y410.length + y413.length < 4398046511104 then (spec_l06Next.l0 k x6 0 x1000 x1001 x1002 x401000 x401001 (y410 ++ y413)) else (none))) else (none)) else (none))
def spec_l06Next.l0 : Nat → Int → Int → List Int → Int → Int → Int → Int → List (S28) → Option (Int × Int × (List (S28)) × Int × Int)
 | 0, _, _, _, _, _, _, _, _ => none
 | k + 1, x6, x9, x1000, x1001, x1002, x421000, x421001, x421002 => (spec_l01Below.f x1000 x1001 x1002 4).bind fun bt421 => (if x9 < bt421.1 then ((spec_l01Below.f x1000 bt421.2.1 bt421.2.2 2).bind fun bt424 => ((spec_l05Right.f k x1000 bt424.2.1 bt424.2.2 (wrap64 (x6 + bt424.1))).bind fun bt427 => (if x421002.length < 4398046511104 then ((some (x421002 ++ [(⟨bt427.1, bt427.2.1, bt427.2.2.1⟩ : S28)] : List (S28))).bind fun y432 => ((spec_LogLast.f x421000 x421001 y432).bind fun bt435 => (spec_l06Next.l0 k bt435.2 (wrap64 (x9 + 1)) x1000 bt427.2.2.2.1 bt427.2.2.2.2 x421000 x421001 y432))) else (none)))) else ((spec_l01Once.f x1000 bt421.2.1 bt421.2.2 4).bind fun bt437 => (if bt437.1 = true then ((spec_l01Below.f x1000 bt437.2.1 bt437.2.2 (wrap64 ((x421002.length : Int) + 1))).bind fun bt440 => ((spec_LogTerm.f x421000 x421001 x421002 (wrap64 (x421000 + bt440.1))).bind fun t443 => ((spec_LogBehind.f k x421000 x421001 x421002 (wrap64 (x421000 + bt440.1)) t443).bind fun bt444 => (some (bt444.1, bt444.2.1, bt444.2.2, bt440.2.1, bt440.2.2))))) else (some (x421000, x421001, x421002, bt437.2.1, bt437.2.2)))))
end
def spec_l06Next.f (k : Nat) (s0_0 : List Int) (s0_1 : Int) (s0_2 : Int) (a1_0 : Int) (a1_1 : Int) (l1_2 : List (S28)) : Option (Int × Int × (List (S28)) × Int × Int) := (spec_LogLast.f a1_0 a1_1 l1_2).bind fun bt402 => ((spec_l01Once.f s0_0 s0_1 s0_2 2).bind fun bt404 => (if bt404.1 = true then ((spec_l01Below.f s0_0 bt404.2.1 bt404.2.2 (wrap64 ((l1_2.length : Int) + 1))).bind fun bt407 => (spec_l06Next.j0 k bt402.2 bt407.1 s0_0 bt407.2.1 bt407.2.2 a1_0 a1_1 l1_2)) else (spec_l06Next.j0 k bt402.2 (l1_2.length : Int) s0_0 bt404.2.1 bt404.2.2 a1_0 a1_1 l1_2)))
theorem spec_l06Next.mono_l : ∀ k, (∀ y0 y1 y2 y3 y4 y5 y6 y7, LeO (spec_l06Next.j0 k y0 y1 y2 y3 y4 y5 y6 y7) (spec_l06Next.j0 (k + 1) y0 y1 y2 y3 y4 y5 y6 y7)) ∧ (∀ y0 y1 y2 y3 y4 y5 y6 y7, LeO (spec_l06Next.l0 k y0 y1 y2 y3 y4 y5 y6 y7) (spec_l06Next.l0 (k + 1) y0 y1 y2 y3 y4 y5 y6 y7))
 | 0 => ⟨fun _ _ _ _ _ _ _ _ r h => by simp [spec_l06Next.j0] at h, fun _ _ _ _ _ _ _ _ r h => by simp [spec_l06Next.l0] at h⟩
 | k + 1 => by
  obtain ⟨ih0, ih1⟩ := spec_l06Next.mono_l k
  refine ⟨?_, ?_⟩
  ·intro y0 y1 y2 y3 y4 y5 y6 y7
   unfold spec_l06Next.j0
   repeat' first
   | (with_reducible exact ih0 _ _ _ _ _ _ _ _)
   | (with_reducible exact ih1 _ _ _ _ _ _ _ _)
   | (with_reducible exact spec_LogBehind.mono _ _ _ _ _ _)
   | (with_reducible exact spec_l05Right.mono _ _ _ _ _)
   | (with_reducible first | exact LeO.refl _ | exact LeO.none _ | refine LeO.ite ?_ ?_ | refine LeO.bind ?_ (fun _ => ?_))
   | exact ih0 _ _ _ _ _ _ _ _
   | exact ih1 _ _ _ _ _ _ _ _
   | exact spec_LogBehind.mono _ _ _ _ _ _
   | exact spec_l05Right.mono _ _ _ _ _
  ·intro y0 y1 y2 y3 y4 y5 y6 y7
   unfold spec_l06Next.l0
   repeat' first
   | (with_reducible exact ih0 _ _ _ _ _ _ _ _)
   | (with_reducible exact ih1 _ _ _ _ _ _ _ _)
   | (with_reducible exact spec_LogBehind.mono _ _ _ _ _ _)
   | (with_reducible exact spec_l05Right.mono _ _ _ _ _)
   | (with_reducible first | exact LeO.refl _ | exact LeO.none _ | refine LeO.ite ?_ ?_ | refine LeO.bind ?_ (fun _ => ?_))
   | exact ih0 _ _ _ _ _ _ _ _
   | exact ih1 _ _ _ _ _ _ _ _
   | exact spec_LogBehind.mono _ _ _ _ _ _
   | exact spec_l05Right.mono _ _ _ _ _
theorem spec_l06Next.mono : ∀ a0 a1 a2 a3 a4 a5 k, LeO (spec_l06Next.f k a0 a1 a2 a3 a4 a5) (spec_l06Next.f (k + 1) a0 a1 a2 a3 a4 a5) := by
 intro a0 a1 a2 a3 a4 a5 k
 obtain ⟨ih0, ih1⟩ := spec_l06Next.mono_l k
 unfold spec_l06Next.f
 repeat' first
   | (with_reducible exact ih0 _ _ _ _ _ _ _ _)
   | (with_reducible exact ih1 _ _ _ _ _ _ _ _)
   | (with_reducible exact spec_LogBehind.mono _ _ _ _ _ _)
   | (with_reducible exact spec_l05Right.mono _ _ _ _ _)
   | (with_reducible first | exact LeO.refl _ | exact LeO.none _ | refine LeO.ite ?_ ?_ | refine LeO.bind ?_ (fun _ => ?_))
   | exact ih0 _ _ _ _ _ _ _ _
   | exact ih1 _ _ _ _ _ _ _ _
   | exact spec_LogBehind.mono _ _ _ _ _ _
   | exact spec_l05Right.mono _ _ _ _ _
def spec_l06Next.T5 : Bool × List (List Nat × List Nat) := (true, [([], []), ([0], [0]), ([], []), ([2], [2]), ([], []), ([], []), ([5], [5]), ([], []), ([6, 7], [6, 7]), ([4, 8], [4, 8]), ([1, 3, 9], [1, 3, 9]), ([], []), ([11, 10, 9, 0, 1, 2, 3, 4, 5, 6, 7, 8, 9, 10, 11], [10, 11])])
def spec_l06Next.B5 : List Nat := [0, 1, 0, 4, 0, 0, 32, 0, 224, 496, 1023, 0, 4095]
theorem spec_l06Next.tab5 : rtab .any (opsOf Try.f51 5) = spec_l06Next.T5 := by kernel_rfl
theorem spec_l06Next.bits5 : waitsOk spec_l06Next.T5.2 spec_l06Next.B5 = true := by kernel_rfl
def spec_l06Next.T9 : Bool × List (List Nat × List Nat) := (true, [([], []), ([0], [0]), ([], []), ([], []), ([], []), ([4], [4]), ([3, 5], [3, 5]), ([2, 6, 5], [2, 6]), ([7], [7]), ([1, 8, 7], [1, 8]), ([0, 1, 2, 3, 4, 5, 6, 7, 8, 9], []), ([10, 9, 9, 0, 1, 2, 3, 4, 5, 6, 7, 8, 9], [9, 10])])
def spec_l06Next.B9 : List Nat := [0, 1, 0, 0, 0, 16, 56, 124, 252, 511, 1023, 2047]
theorem spec_l06Next.tab9 : rtab .any (opsOf Try.f51 9) = spec_l06Next.T9 := by kernel_rfl
theorem spec_l06Next.bits9 : waitsOk spec_l06Next.T9.2 spec_l06Next.B9 = true := by kernel_rfl
def spec_l06Next.T13 : Bool × List (List Nat × List Nat) := (true, [([], []), ([], []), ([1], [1]), ([], []), ([2, 3], [2, 3]), ([], []), ([], []), ([6], [6]), ([], []), ([7, 8], [7, 8]), ([5, 9], [5, 9]), ([0, 4, 10, 10], [0, 4, 10]), ([11, 11, 0, 1, 2, 3, 4, 5, 6, 7, 8, 9, 10, 11], [11])])
def spec_l06Next.B13 : List Nat := [0, 0, 2, 0, 14, 0, 0, 64, 0, 448, 992, 2047, 4095]
theorem spec_l06Next.tab13 : rtab .any (opsOf Try.f51 13) = spec_l06Next.T13 := by kernel_rfl
theorem spec_l06Next.bits13 : waitsOk spec_l06Next.T13.2 spec_l06Next.B13 = true := by kernel_rfl
set_option maxHeartbeats 8000000 in
set_option maxRecDepth 100000 in
theorem spec_l06Next.calls (k : Nat) (g : Nat) (s0_0 : List Int) (s0_1 : Int) (s0_2 : Int) (a1_0 : Int) (a1_1 : Int) (A1_2 : Option Addr) (c1_2 : Nat) (l1_2 : List (S28)) (r1 : Int) (r2 : Int) (r3 : List (S28)) (r4 : Int) (r5 : Int) (w0 w : World) (hI : IsS107 w0 w g s0_0 s0_1 s0_2) (hB : Below w0.heap.size w0 w) (hr1_2 : ∀ W_, KeepBut w W_ g none → Kd.C k28 W_ A1_2 l1_2.length l1_2) (hc1_2 : l1_2.length ≤ c1_2) (h : spec_l06Next.f k s0_0 s0_1 s0_2 a1_0 a1_1 l1_2 = some (r1, r2, r3, r4, r5)) :
  Calls Try.prog 51 #[.pointer (some ⟨g, 0, none⟩), .agg #[.int .i64 a1_0, .int .i64 a1_1, .slice A1_2 l1_2.length c1_2]] w fun e w' => ∃ v2_ : Value, e = .returned (.agg #[.int .i64 r1, .int .i64 r2, v2_]) ∧ Kd.R k28 28 w' w.heap.size (fun _ => True) v2_ r3 ∧ IsS107 w0 w' g s0_0 r4 r5 ∧ Below w0.heap.size w0 w' ∧ KeepBut w w' g none := by
 have hu26 := Try.underlying26
 have HR1_2 := Aside0.mk hr1_2
 have HC1_2 := Aside0.mk hc1_2
 clear hr1_2 hc1_2
 have HI0 := Aside0.mk hI
 have HK := Aside0.mk (KeepBut.refl w g none)
 have HL := Aside0.mk hB.size
 clear hI
 have HW0 := Aside0.mk hB.size
 have HB := Aside0.mk hB
 clear hB
 have H : ((spec_LogLast.f a1_0 a1_1 l1_2).bind fun bt402 => ((spec_l01Once.f s0_0 s0_1 s0_2 2).bind fun bt404 => (if bt404.1 = true then ((spec_l01Below.f s0_0 bt404.2.1 bt404.2.2 (wrap64 ((l1_2.length : Int) + 1))).bind fun bt407 => (spec_l06Next.j0 k bt402.2 bt407.1 s0_0 bt407.2.1 bt407.2.2 a1_0 a1_1 l1_2)) else (spec_l06Next.j0 k bt402.2 (l1_2.length : Int) s0_0 bt404.2.1 bt404.2.2 a1_0 a1_1 l1_2)))) = some (r1, r2, r3, r4, r5) := h
 clear h
 replace H := bsi H
 obtain ⟨⟨t402, t403⟩, A3, H⟩ := H
 (try dsimp only at H)
 replace H := bsi H
 obtain ⟨⟨t404, t405, t406⟩, A4, H⟩ := H
 (try dsimp only at H)
 have HC5 := Aside0.mk H
 clear H
 go_enter Try.func51, Try.ntmps51
 go_upto_if 19 with (first | ((with_reducible refine gate_dst (N := 3) rfl ?_); refine box_event ?hg (N := 3) ?hd (cs := #[.int .i64 a1_0, .int .i64 a1_1, .slice A1_2 l1_2.length c1_2]) (t := 26) ?hr ?_; (case hd => rfl); (case hg => rfl); (case hr => exact B11x20_); intro gb400 hg w6 hbox hb; replace HB := Aside0.mk (below_step (by repeat (first | (with_reducible first | exact HB.out | apply below_alloc | apply pw_below_drewN | apply below_drew1 | refine below_set ?_ (IsS107.ge HI0.out)) | exact HB.out)) hb); have BK400 := Aside0.mk (hbox); have GW400 := Aside0.mk ((bs hg (keep_size HK.out))); have GE400 := Aside0.mk ((Nat.le_trans HW0.out (bs hg (keep_size HK.out)) : w0.heap.size ≤ gb400)); replace HK := Aside0.mk (KeepBut.trans (by repeat (first | (with_reducible first | exact HK.out | apply KeepBut.set_ | apply keep_drewN | apply keep_drew | apply keep_alloc) | exact HK.out)) (KeepBut.of_below hb g none) (.inl rfl)); have NB0_400 := Aside0.mk ((nl hg (IsS107.lt HI0.out))); have NB400_0 := Aside0.mk ((ng hg (IsS107.lt HI0.out))); replace HI0 := Aside0.mk (IsS107.below (by repeat (first | (with_reducible first | exact HI0.out | apply IsS107.alloc | apply IsS107.drewN | apply IsS107.drew | apply IsS107.set_1 | apply IsS107.set_2) | exact HI0.out)) hb); clear hb hbox hg) | ((with_reducible refine gate_dst (N := 4) rfl ?_); refine box_event ?hg (N := 4) ?hd (cs := #[.int .i64 0, .int .i64 0, .slice none 0 0]) (t := 26) ?hr ?_; (case hd => rfl); (case hg => rfl); (case hr => exact B11x20_); intro gb401 hg w7 hbox hb; replace HB := Aside0.mk (below_step (by repeat (first | (with_reducible first | exact HB.out | apply below_alloc | apply pw_below_drewN | apply below_drew1 | refine below_set ?_ (IsS107.ge HI0.out) | refine below_set ?_ GE400.out) | exact HB.out)) hb); have BK401 := Aside0.mk (hbox); have GW401 := Aside0.mk ((bs hg (keep_size HK.out))); have GE401 := Aside0.mk ((Nat.le_trans HW0.out (bs hg (keep_size HK.out)) : w0.heap.size ≤ gb401)); replace HK := Aside0.mk (KeepBut.trans (by repeat (first | (with_reducible first | exact HK.out | apply KeepBut.set_ | apply keep_drewN | apply keep_drew | apply keep_alloc | refine keep_far ?_ GW400.out _) | exact HK.out)) (KeepBut.of_below hb g none) (.inl rfl)); have NB400_401 := Aside0.mk ((nl hg (blk_lt BK400.out))); have NB401_400 := Aside0.mk ((ng hg (blk_lt BK400.out))); replace BK400 := Aside0.mk (bb BK400.out hb); have NB0_401 := Aside0.mk ((nl hg (IsS107.lt HI0.out))); have NB401_0 := Aside0.mk ((ng hg (IsS107.lt HI0.out))); replace HI0 := Aside0.mk (IsS107.below (by repeat (first | (with_reducible first | exact HI0.out | apply IsS107.alloc | apply IsS107.drewN | apply IsS107.drew | apply IsS107.set_1 | apply IsS107.set_2 | refine IsS107.far ?_ NB0_400.out _) | exact HI0.out)) hb); clear hb hbox hg; have hnb8 := NB400_401.out; have hnc8 := NB401_400.out; have hnb9 := NB400_0.out; have hnc9 := NB0_400.out; obtain ⟨hcz10_0, hcz10_1, hcz10_2⟩ := cl3 BK400.out; obtain ⟨hfz10_0, hfz10_1, hfz10_2⟩ := fr3 BK400.out) | ((with_reducible refine gate_callee (f := 39) rfl ?_); refine goesL_ (some 12) rfl rfl Try.func39 B11x13_ rfl #[.agg #[.int .i64 a1_0, .int .i64 a1_1, .slice A1_2 l1_2.length c1_2]] rfl B11x6_ ?_; (with_reducible refine (spec_LogLast.calls a1_0 a1_1 _ _ l1_2 t402 t403 _ ?side1 ?side2 A3.out).mono ?_); (case side1 => exact Kd.C_foot_now HR1_2.out B11x3_); (case side2 => exact HC1_2.out); rintro e w11 ⟨rfl, hb⟩; refine ⟨_, rfl, ?_⟩; replace BK400 := Aside0.mk (bb BK400.out hb); replace BK401 := Aside0.mk (bb BK401.out hb); replace HK := Aside0.mk (KeepBut.trans B11x3_ (KeepBut.of_below hb g none) (.inl rfl)); replace HB := Aside0.mk (below_step B11x5_ hb); replace HI0 := Aside0.mk (IsS107.below B11x4_ hb); (try clear hb); obtain ⟨hcz12_0, hcz12_1, hcz12_2⟩ := cl3 BK400.out; obtain ⟨hfz12_0, hfz12_1, hfz12_2⟩ := fr3 BK400.out) | ((with_reducible refine gate_callee (f := 42) rfl ?_); refine goesL_ (some 19) rfl rfl Try.func42 B11x13_ rfl #[.pointer (some ⟨g, 0, none⟩), .int .i64 2] rfl B11x6_ ?_; (with_reducible refine (spec_l01Once.calls g s0_0 s0_1 s0_2 2 t404 t405 t406 w0 _ ?side1 ?side2 A4.out).mono ?_); (case side1 => exact B11x4_); (case side2 => exact B11x5_); rintro e w13 ⟨rfl, hi, hb, hk⟩; refine ⟨_, rfl, ?_⟩; replace BK400 := Aside0.mk (kb hk BK400.out NB400_0.out); replace BK401 := Aside0.mk (kb hk BK401.out NB401_0.out); replace HK := Aside0.mk (KeepBut.trans B11x3_ hk (.inl rfl)); replace HB := Aside0.mk (hb); replace HI0 := Aside0.mk (hi); (try clear hb hk hi)))
 (try simp only [Act.put, List.setIfInBounds_toArray, List.set_cons_zero, List.set_cons_succ])
 go_cut [7] (fun v7 wc => ∃ (kq : Nat) (x7_4 : Int) (x1001_4 : Int) (x1002_4 : Int), v7 = .int .i64 x7_4 ∧ Aside0 (spec_l06Next.j0 kq t403 x7_4 s0_0 x1001_4 x1002_4 a1_0 a1_1 l1_2 = some (r1, r2, r3, r4, r5)) ∧ Aside0 (kq ≤ k) ∧ Aside0 (wc.heap[gb400]? = some (.cells #[.int .i64 a1_0, .int .i64 a1_1, (.slice A1_2 l1_2.length c1_2)] 26 (0, 0))) ∧ Aside0 (wc.heap[gb401]? = some (.cells #[.int .i64 0, .int .i64 0, (.slice none 0 0)] 26 (0, 0))) ∧ Aside0 (IsS107 w0 wc g s0_0 x1001_4 x1002_4) ∧ Aside0 (KeepBut w wc g none) ∧ Aside0 (Below w0.heap.size w0 wc))
 case first =>
  have H := HC5.out
  clear HC5
  by_cases c14 : t404 = true
  ·subst c14
   rw [if_pos rfl] at H
   replace H := bsi H
   obtain ⟨⟨t407, t408, t409⟩, A15, H⟩ := H
   (try dsimp only at H)
   have H' := Aside0.mk H
   clear H
   go_wp2_with (first | ((with_reducible refine gate_callee (f := 41) rfl ?_); refine goesL_ (some 23) rfl rfl Try.func41 B11x13_ rfl #[.pointer (some ⟨g, 0, none⟩), .int .i64 (wrap64 ((l1_2.length : Int) + 1))] rfl B11x6_ ?_; (with_reducible refine (spec_l01Below.calls g s0_0 t405 t406 (wrap64 ((l1_2.length : Int) + 1)) t407 t408 t409 w0 _ ?side1 ?side2 A15.out).mono ?_); (case side1 => exact B11x4_); (case side2 => exact B11x5_); rintro e w16 ⟨rfl, hi, hb, hk⟩; refine ⟨_, rfl, ?_⟩; replace BK400 := Aside0.mk (kb hk BK400.out NB400_0.out); replace BK401 := Aside0.mk (kb hk BK401.out NB401_0.out); replace HK := Aside0.mk (KeepBut.trans B11x3_ hk (.inl rfl)); replace HB := Aside0.mk (hb); replace HI0 := Aside0.mk (hi); (try clear hb hk hi)))
   go_meet
   case rel => exact ⟨_, (t407), (t408), (t409), (be_), H', ⟨(by first | omega | exact Nat.le_refl _)⟩, ⟨B11x9_⟩, ⟨B11x10_⟩, ⟨B11x4_⟩, ⟨B11x3_⟩, ⟨B11x5_⟩⟩
  ·replace c14 := Bool.eq_false_iff.mpr c14
   subst c14
   rw [if_neg (show ¬ (false = true) by decide)] at H
   have H' := Aside0.mk H
   clear H
   go_wp2
   go_meet
   case rel => exact ⟨_, ((l1_2.length : Int)), (t405), (t406), (be_), H', ⟨(by first | omega | exact Nat.le_refl _)⟩, ⟨B11x9_⟩, ⟨B11x10_⟩, ⟨B11x4_⟩, ⟨B11x3_⟩, ⟨B11x5_⟩⟩
 case rest =>
  clear HC5
  try clear hcz10_0
  try clear hcz10_1
  try clear hcz10_2
  try clear hcz12_0
  try clear hcz12_1
  try clear hcz12_2
  try clear hfz10_0
  try clear hfz10_1
  try clear hfz10_2
  try clear hfz12_0
  try clear hfz12_1
  try clear hfz12_2
  obtain ⟨kq, x7_4, x1001_4, x1002_4, rfl, HA, HJ4, BK400, BK401, HI0, HK, HB⟩ := hcut
  cases kq with
  | zero => exact absurd HA.out (by simp [spec_l06Next.j0])
  | succ kj4 =>
   have H := HA.out
   clear HA
   simp only [spec_l06Next.j0] at H
   obtain ⟨y410, hy410⟩ : ∃ y_ : List (S28), y_ = (([] : List (S28))) := ⟨_, rfl⟩
   replace H : (if 0 ≤ x7_4 then (if x7_4 ≤ (l1_2.length : Int) then ((some (l1_2.take (x7_4 : Int).toNat : List (S28))).bind fun y413 => (if y410.length + y413.length < 4398046511104 then (spec_l06Next.l0 kj4 t403 0 s0_0 x1001_4 x1002_4 a1_0 a1_1 (y410 ++ y413)) else (none))) else (none)) else (none)) = some (r1, r2, r3, r4, r5) := by first | (rw [hy410]; with_reducible exact H) | (have H2_ := (Option.bind_some _ _).symm.trans H; rw [hy410]; with_reducible exact H2_) | (have H2_ := (Option.bind_some _ _).symm.trans H; with_reducible exact H2_) | with_reducible exact H | (rw [hy410]; exact H) | exact H
   have Ny410 := Aside0.mk hy410
   clear hy410
   by_cases c17 : 0 ≤ x7_4
   rotate_left
   ·rw [if_neg c17] at H
    exact absurd H (by simp)
   rw [if_pos c17] at H
   have c17b0 := eq_true c17
   have c17b1 : decide (0 ≤ x7_4) = true := decide_eq_true c17
   clear c17
   by_cases c18 : x7_4 ≤ (l1_2.length : Int)
   rotate_left
   ·rw [if_neg c18] at H
    exact absurd H (by simp)
   rw [if_pos c18] at H
   have c18b0 := eq_true c18
   have c18b1 : decide (x7_4 ≤ (l1_2.length : Int)) = true := decide_eq_true c18
   clear c18
   obtain ⟨y413, hy413⟩ : ∃ y_ : List (S28), y_ = (l1_2.take (x7_4 : Int).toNat) := ⟨_, rfl⟩
   replace H : (if y410.length + y413.length < 4398046511104 then (spec_l06Next.l0 kj4 t403 0 s0_0 x1001_4 x1002_4 a1_0 a1_1 (y410 ++ y413)) else (none)) = some (r1, r2, r3, r4, r5) := by first | (rw [hy413]; with_reducible exact H) | (have H2_ := (Option.bind_some _ _).symm.trans H; rw [hy413]; with_reducible exact H2_) | (have H2_ := (Option.bind_some _ _).symm.trans H; with_reducible exact H2_) | with_reducible exact H | (rw [hy413]; exact H) | exact H
   have Ny413 := Aside0.mk hy413
   clear hy413
   by_cases c19 : y410.length + y413.length < 4398046511104
   rotate_left
   ·rw [if_neg c19] at H
    exact absurd H (by simp)
   rw [if_pos c19] at H
   have LMc19 := Aside0.mk c19
   clear c19
   obtain ⟨y417, hy417⟩ : ∃ y_ : List (S28), y_ = (y410 ++ y413) := ⟨_, rfl⟩
   replace H : (spec_l06Next.l0 kj4 t403 0 s0_0 x1001_4 x1002_4 a1_0 a1_1 y417) = some (r1, r2, r3, r4, r5) := by first | (rw [hy417]; with_reducible exact H) | (have H2_ := (Option.bind_some _ _).symm.trans H; rw [hy417]; with_reducible exact H2_) | (have H2_ := (Option.bind_some _ _).symm.trans H; with_reducible exact H2_) | with_reducible exact H | (rw [hy417]; exact H) | exact H
   have Ny417 := Aside0.mk hy417
   clear hy417
   have H' := Aside0.mk H
   clear H
   try go_wp2
   replace BK400 := Aside0.mk (blk_drew BK400.out)
   replace BK401 := Aside0.mk (blk_drew BK401.out)
   replace HI0 := Aside0.mk (IsS107.drew HI0.out)
   replace HK := Aside0.mk (keep_drew HK.out)
   replace HB := Aside0.mk (below_drew1 HB.out)
   have q21 : (x7_4 : Int) ≤ ((l1_2.length : Int) : Int) := of_decide_eq_true B11x25_
   obtain ⟨i021, hi021, _, hsz21, _⟩ := info_parts info28
   have hroom21 : l1_2.length ≤ c1_2 := HC1_2.out
   have hC21 : Kd.C k28 _ A1_2 l1_2.length l1_2 := (Kd.C_foot_now HR1_2.out HK.out)
   have hcut21 := cut_to (P := Try.prog) 24 28 .i64 Try.underlying24 hi021 A1_2 l1_2.length c1_2 x7_4 (of_decide_eq_true B11x25_) q21 hroom21
   have hr21 := Kd.C_take (m := (x7_4 : Int).toNat) hC21 (by omega)
   have hy21 : y413.length = (x7_4 : Int).toNat := (by rw [Ny413.out, List.length_take]; omega)
   rw [← Ny413.out] at hr21
   rw [← hy21] at hcut21
   have HR416 := Aside0.mk hr21
   have HC416 := Aside0.mk (show y413.length ≤ c1_2 from (by omega))
   clear hr21 hC21 hroom21 hi021 hsz21
   have KY21 := Aside0.mk hy21
   clear hy21
   have KL21 := Aside0.mk (show (x7_4 : Int).toNat ≤ l1_2.length from (by omega))
   replace q21 := eq_true q21
   refine start_ (n := 13) (S := fun w' => w'.cell? ⟨gb400, 0, none⟩ = some (.int .i64 a1_0) ∧ w'.cell? ⟨gb400, 1, none⟩ = some (.int .i64 a1_1) ∧ w'.cell? ⟨gb400, 2, none⟩ = some (.slice A1_2 l1_2.length c1_2)) (ds := []) #[false, false, false, false, false, false, false, false, false, false, false, false, false] B11x13_ rfl rfl ⟨(blk_cell BK400.out 0).trans rfl, (blk_cell BK400.out 1).trans rfl, (blk_cell BK400.out 2).trans rfl⟩ (fun hHeld => ?_); refine with_tabW spec_l06Next.tab5 spec_l06Next.bits5 (fun HT_ HW_ => ?_)
   generalize wc.drew = w20 at BK400 BK401 HI0 HK HB HR416 hHeld ⊢
   refine pu_ 0 24 HT_ ?_
   refine pu_ 2 26 HT_ ?_
   refine pu_ 5 29 HT_ ?_
   refine pu_ 7 31 HT_ ?_
   refine ta_ 1 25 HT_ HW_ hHeld ?_
   refine ta_ 3 27 HT_ HW_ hHeld ?_
   refine ta_ 6 30 HT_ HW_ hHeld ?_
   refine pu_ 8 32 HT_ ?_
   refine join_ (σ := Value × Value × Nat) 1 #[true, true, true, true, true, true, true, true, true, true, true, true, false] (fun s_ => [(28, s_.1), (33, s_.2.1), (8, .pointer (some ⟨s_.2.2, 0, none⟩)), (34, .agg #[.int .i64 a1_0, .int .i64 a1_1, s_.2.1])]) (fun s_ w' => (w'.cell? ⟨gb400, 0, none⟩ = some (.int .i64 a1_0) ∧ w'.cell? ⟨gb400, 1, none⟩ = some (.int .i64 a1_1) ∧ w'.cell? ⟨gb400, 2, none⟩ = some (.slice A1_2 l1_2.length c1_2)) ∧ (Kd.R k28 28 w' w.heap.size (fun _ => True) s_.2.1 y417) ∧ (w'.heap[gb400]? = some (.cells #[.int .i64 a1_0, .int .i64 a1_1, .slice A1_2 l1_2.length c1_2] 26 (0, 0))) ∧ (w'.heap[gb401]? = some (.cells #[.int .i64 0, .int .i64 0, .slice none 0 0] 26 (0, 0))) ∧ (w'.heap[s_.2.2]? = some (.cells #[.int .i64 0, .int .i64 0, .slice none 0 0] 26 (0, 0))) ∧ (w.heap.size ≤ s_.2.2) ∧ (w0.heap.size ≤ s_.2.2) ∧ (g ≠ s_.2.2) ∧ (s_.2.2 ≠ g) ∧ (gb400 ≠ s_.2.2) ∧ (s_.2.2 ≠ gb400) ∧ (gb401 ≠ s_.2.2) ∧ (s_.2.2 ≠ gb401) ∧ (IsS107 w0 w' g s0_0 x1001_4 x1002_4) ∧ (KeepBut w w' g none) ∧ (Below w0.heap.size w0 w')) ?_ ?_
   rotate_left
   ·intro hCont
    refine two_ (i := 4) (j := 11) (Ni := some 28) (Nj := some 8) #[true, true, true, true, true, true, true, true, true, false, false, false, false] #[true, true, true, true, false, true, true, true, true, false, false, true, false] rfl rfl rfl rfl (two_of HT_.out B11x13_) (by decide) (by decide) (fun K hK => ?_) (fun K hK => ?_)
    ·skip
     refine Kd.R_lit_step k28 _ 28 ?hg (N := 28) ?hd (xs := ([] : List (S28))) (inner := []) (ok := fun _ => True) (okp := fun _ => True) ?hr ?hp (fun _ hk => hk) trivial (Below.refl _ _) (Nat.le_refl _) (by simp) ?_; (case hd => rfl); (case hg => rfl); (case hr => exact B11x20_); (case hp => exact (Reps.none _ _))
     intro v411 w22 ho23 hb hg_ hnew_
     clear hg_ hnew_
     (first | rw [← Ny410.out] at ho23 | (simp only [Int.reduceToNat] at ho23; rw [← Ny410.out] at ho23))
     have HO412 := Aside0.mk (Kd.R_lower ho23 (keep_size (w := w) (g := g) (row := none) B11x3_))
     replace BK400 := Aside0.mk (bb BK400.out hb)
     replace BK401 := Aside0.mk (bb BK401.out hb)
     replace HR416 := Aside0.mk (Kd.C_below B11x7_ hb)
     replace HK := Aside0.mk (KeepBut.trans B11x3_ (KeepBut.of_below hb g none) (.inl rfl))
     replace HB := Aside0.mk (below_step B11x5_ hb)
     replace HI0 := Aside0.mk (IsS107.below B11x4_ hb)
     clear hb ho23
     refine hK.out _ _ ⟨(blk_cell BK400.out 0).trans rfl, (blk_cell BK400.out 1).trans rfl, (blk_cell BK400.out 2).trans rfl⟩ (fun hHeld => ?_)
     clear hK K
     refine norm_ (a' := ?_) ?_ ?_
     rotate_left
     ·show Act.put _ (some 28) _ = _
      simp only [Act.put, List.setIfInBounds_toArray, List.set_cons_zero, List.set_cons_succ, i64_w, i32_w]
      rfl
     refine two_ (i := 9) (j := 11) (Ni := some 33) (Nj := some 8) #[true, true, true, true, true, true, true, true, true, true, false, false, false] #[true, true, true, true, true, true, true, true, true, false, false, true, false] rfl rfl rfl rfl (two_of HT_.out B11x13_) (by decide) (by decide) (fun K hK => ?_) (fun K hK => ?_)
     ·skip
      refine Kd.R_append_rows_step k28 w.heap.size (by rfl) (.tmp 28) (.tmp 32) 24 28 (.agg #[(.int .i64 0), (.int .i64 0), (.string ⟨#[]⟩)]) 32 rfl Try.underlying24 info28 rfl (by decide) (by omega) v411 y410 y413 _ _ _ (fun _ => True) (fun _ => False) rfl rfl ?aO ?aR (fun _ _ h => h) (fun _ h => h.elim) ?aF (Below.refl _ _) ?aS ?aL ?_
      (case aR => exact B11x16_)
      (case aF => exact (fun _ _ => trivial))
      (case aO => exact B11x14_)
      (case aS => exact (keep_size (w := w) (g := g) (row := none) B11x3_))
      (case aL => have := LMc19.out; omega)
      intro v418 w24 ho hb hg hat
      rw [← Ny417.out] at ho
      replace BK400 := Aside0.mk (blk_grown (g := gb400) (o := .cells #[.int .i64 a1_0, .int .i64 a1_1, .slice A1_2 l1_2.length c1_2] 26 (0, 0)) B11x9_ hg (Kd.R_ne HO412.out BK400.out (by decide)))
      replace BK401 := Aside0.mk (blk_grown (g := gb401) (o := .cells #[.int .i64 0, .int .i64 0, .slice none 0 0] 26 (0, 0)) B11x10_ hg (Kd.R_ne HO412.out BK401.out (by decide)))
      replace HB := Aside0.mk (below_weaken B11x5_ HL.out hb)
      replace HI0 := Aside0.mk (IsS107.grown B11x4_ hg (IsS107.own_ne HI0.out HO412.out (by decide)))
      replace HR416 := Aside0.mk ((show Kd.C k28 w24 A1_2 y413.length y413 from (by rw [Ny413.out]; exact Kd.C_take (m := (x7_4 : Int).toNat) (Kd.C_foot_now HR1_2.out (show KeepBut w w24 g none from (KeepBut.trans B11x3_ (KeepBut.of_grown hg g) (Kd.R_base2 HO412.out)))) KL21.out)))
      replace HK := Aside0.mk (KeepBut.trans B11x3_ (KeepBut.of_grown hg g) (Kd.R_base2 HO412.out))
      have HO419 := Aside0.mk (ho)
      clear HO412
      clear ho hb hg hat
      obtain ⟨Ao25, co25, eo25⟩ := Kd.R_slice HO419.out
      (first | subst eo25 | (injection eo25 with f1_ f2_ f3_; have f4_ := f1_.symm; have f5_ := f3_.symm; clear f1_ f2_ f3_; subst f4_; subst f5_))
      refine hK.out _ _ ⟨(blk_cell BK400.out 0).trans rfl, (blk_cell BK400.out 1).trans rfl, (blk_cell BK400.out 2).trans rfl⟩ (fun hHeld => ?_)
      clear hK K
      refine norm_ (a' := ?_) ?_ ?_
      rotate_left
      ·show Act.put _ (some 33) _ = _
       simp only [Act.put, List.setIfInBounds_toArray, List.set_cons_zero, List.set_cons_succ, i64_w, i32_w]
       rfl
      refine pu_ 10 34 HT_ ?_
      refine one_ (i := 11) (N := some 8) #[true, true, true, true, true, true, true, true, true, true, true, true, false] rfl rfl (one_of HT_.out B11x13_) (by decide) (fun K hK => ?_)
      refine box_step ?hg (N := 8) ?hd (cs := #[.int .i64 0, .int .i64 0, .slice none 0 0]) (t := 26) ?hr ?_; (case hd => rfl); (case hg => rfl); (case hr => exact B11x20_)
      intro gb420 hg w26 hbox hb
      replace HO419 := Aside0.mk (Kd.R_below B11x15_ hb)
      replace HR416 := Aside0.mk (Kd.C_below B11x7_ hb)
      replace HB := Aside0.mk (below_step B11x5_ hb)
      have BK420 := Aside0.mk (hbox)
      have GW420 := Aside0.mk ((bs hg (keep_size HK.out)))
      have GE420 := Aside0.mk ((Nat.le_trans HW0.out (bs hg (keep_size HK.out)) : w0.heap.size ≤ gb420))
      replace HK := Aside0.mk (KeepBut.trans B11x3_ (KeepBut.of_below hb g none) (.inl rfl))
      have NB400_420 := Aside0.mk ((nl hg (blk_lt BK400.out)))
      have NB420_400 := Aside0.mk ((ng hg (blk_lt BK400.out)))
      replace BK400 := Aside0.mk (bb BK400.out hb)
      have NB401_420 := Aside0.mk ((nl hg (blk_lt BK401.out)))
      have NB420_401 := Aside0.mk ((ng hg (blk_lt BK401.out)))
      replace BK401 := Aside0.mk (bb BK401.out hb)
      have NB0_420 := Aside0.mk ((nl hg (IsS107.lt HI0.out)))
      have NB420_0 := Aside0.mk ((ng hg (IsS107.lt HI0.out)))
      replace HI0 := Aside0.mk (IsS107.below B11x4_ hb)
      clear hb hbox hg
      refine hK.out _ _ ⟨(blk_cell BK400.out 0).trans rfl, (blk_cell BK400.out 1).trans rfl, (blk_cell BK400.out 2).trans rfl⟩ (fun hHeld => ?_)
      clear hK K
      refine norm_ (a' := ?_) ?_ ?_
      rotate_left
      ·show Act.put _ (some 8) _ = _
       simp only [Act.put, List.setIfInBounds_toArray, List.set_cons_zero, List.set_cons_succ, i64_w, i32_w]
       rfl
      exact norm_ B11x22_ (hCont (v411, .slice Ao25 y417.length co25, gb420) _ ⟨hHeld, B11x15_, B11x9_, B11x10_, B11x11_, GW420.out, GE420.out, NB0_420.out, NB420_0.out, NB400_420.out, NB420_400.out, NB401_420.out, NB420_401.out, B11x0_, B11x1_, B11x2_⟩)
     ·skip
      refine box_step ?hg (N := 8) ?hd (cs := #[.int .i64 0, .int .i64 0, .slice none 0 0]) (t := 26) ?hr ?_; (case hd => rfl); (case hg => rfl); (case hr => exact B11x20_)
      intro gb420 hg w24 hbox hb
      replace HO412 := Aside0.mk (Kd.R_below B11x14_ hb)
      replace HR416 := Aside0.mk (Kd.C_below B11x7_ hb)
      replace HB := Aside0.mk (below_step B11x5_ hb)
      have BK420 := Aside0.mk (hbox)
      have GW420 := Aside0.mk ((bs hg (keep_size HK.out)))
      have GE420 := Aside0.mk ((Nat.le_trans HW0.out (bs hg (keep_size HK.out)) : w0.heap.size ≤ gb420))
      replace HK := Aside0.mk (KeepBut.trans B11x3_ (KeepBut.of_below hb g none) (.inl rfl))
      have NB400_420 := Aside0.mk ((nl hg (blk_lt BK400.out)))
      have NB420_400 := Aside0.mk ((ng hg (blk_lt BK400.out)))
      replace BK400 := Aside0.mk (bb BK400.out hb)
      have NB401_420 := Aside0.mk ((nl hg (blk_lt BK401.out)))
      have NB420_401 := Aside0.mk ((ng hg (blk_lt BK401.out)))
      replace BK401 := Aside0.mk (bb BK401.out hb)
      have NB0_420 := Aside0.mk ((nl hg (IsS107.lt HI0.out)))
      have NB420_0 := Aside0.mk ((ng hg (IsS107.lt HI0.out)))
      replace HI0 := Aside0.mk (IsS107.below B11x4_ hb)
      clear hb hbox hg
      refine hK.out _ _ ⟨(blk_cell BK400.out 0).trans rfl, (blk_cell BK400.out 1).trans rfl, (blk_cell BK400.out 2).trans rfl⟩ (fun hHeld => ?_)
      clear hK K
      refine norm_ (a' := ?_) ?_ ?_
      rotate_left
      ·show Act.put _ (some 8) _ = _
       simp only [Act.put, List.setIfInBounds_toArray, List.set_cons_zero, List.set_cons_succ, i64_w, i32_w]
       rfl
      refine one_ (i := 9) (N := some 33) #[true, true, true, true, true, true, true, true, true, true, false, true, false] rfl rfl (one_of HT_.out B11x13_) (by decide) (fun K hK => ?_)
      refine Kd.R_append_rows_step k28 w.heap.size (by rfl) (.tmp 28) (.tmp 32) 24 28 (.agg #[(.int .i64 0), (.int .i64 0), (.string ⟨#[]⟩)]) 32 rfl Try.underlying24 info28 rfl (by decide) (by omega) v411 y410 y413 _ _ _ (fun _ => True) (fun _ => False) rfl rfl ?aO ?aR (fun _ _ h => h) (fun _ h => h.elim) ?aF (Below.refl _ _) ?aS ?aL ?_
      (case aR => exact B11x16_)
      (case aF => exact (fun _ _ => trivial))
      (case aO => exact B11x14_)
      (case aS => exact B11x24_)
      (case aL => have := LMc19.out; omega)
      intro v418 w25 ho hb hg hat
      rw [← Ny417.out] at ho
      replace BK400 := Aside0.mk (blk_grown (g := gb400) (o := .cells #[.int .i64 a1_0, .int .i64 a1_1, .slice A1_2 l1_2.length c1_2] 26 (0, 0)) B11x9_ hg (Kd.R_ne HO412.out BK400.out (by decide)))
      replace BK401 := Aside0.mk (blk_grown (g := gb401) (o := .cells #[.int .i64 0, .int .i64 0, .slice none 0 0] 26 (0, 0)) B11x10_ hg (Kd.R_ne HO412.out BK401.out (by decide)))
      replace BK420 := Aside0.mk (blk_grown (g := gb420) (o := .cells #[.int .i64 0, .int .i64 0, .slice none 0 0] 26 (0, 0)) B11x11_ hg (Kd.R_ne HO412.out BK420.out (by decide)))
      replace HB := Aside0.mk (below_weaken B11x2_ HL.out hb)
      replace HI0 := Aside0.mk (IsS107.grown B11x0_ hg (IsS107.own_ne HI0.out HO412.out (by decide)))
      replace HR416 := Aside0.mk ((show Kd.C k28 w25 A1_2 y413.length y413 from B11x21_))
      replace HK := Aside0.mk (KeepBut.trans B11x1_ (KeepBut.of_grown hg g) (Kd.R_base2 HO412.out))
      have HO419 := Aside0.mk (ho)
      clear HO412
      clear ho hb hg hat
      obtain ⟨Ao26, co26, eo26⟩ := Kd.R_slice HO419.out
      (first | subst eo26 | (injection eo26 with f1_ f2_ f3_; have f4_ := f1_.symm; have f5_ := f3_.symm; clear f1_ f2_ f3_; subst f4_; subst f5_))
      refine hK.out _ _ ⟨(blk_cell BK400.out 0).trans rfl, (blk_cell BK400.out 1).trans rfl, (blk_cell BK400.out 2).trans rfl⟩ (fun hHeld => ?_)
      clear hK K
      refine norm_ (a' := ?_) ?_ ?_
      rotate_left
      ·show Act.put _ (some 33) _ = _
       simp only [Act.put, List.setIfInBounds_toArray, List.set_cons_zero, List.set_cons_succ, i64_w, i32_w]
       rfl
      refine pu_ 10 34 HT_ ?_
      exact norm_ B11x22_ (hCont (v411, .slice Ao26 y417.length co26, gb420) _ ⟨hHeld, B11x15_, B11x9_, B11x10_, B11x11_, GW420.out, GE420.out, NB0_420.out, NB420_0.out, NB400_420.out, NB420_400.out, NB401_420.out, NB420_401.out, B11x0_, B11x1_, B11x2_⟩)
    ·skip
     refine box_step ?hg (N := 8) ?hd (cs := #[.int .i64 0, .int .i64 0, .slice none 0 0]) (t := 26) ?hr ?_; (case hd => rfl); (case hg => rfl); (case hr => exact B11x20_)
     intro gb420 hg w22 hbox hb
     replace HR416 := Aside0.mk (Kd.C_below B11x7_ hb)
     replace HB := Aside0.mk (below_step B11x5_ hb)
     have BK420 := Aside0.mk (hbox)
     have GW420 := Aside0.mk ((bs hg (keep_size HK.out)))
     have GE420 := Aside0.mk ((Nat.le_trans HW0.out (bs hg (keep_size HK.out)) : w0.heap.size ≤ gb420))
     replace HK := Aside0.mk (KeepBut.trans B11x3_ (KeepBut.of_below hb g none) (.inl rfl))
     have NB400_420 := Aside0.mk ((nl hg (blk_lt BK400.out)))
     have NB420_400 := Aside0.mk ((ng hg (blk_lt BK400.out)))
     replace BK400 := Aside0.mk (bb BK400.out hb)
     have NB401_420 := Aside0.mk ((nl hg (blk_lt BK401.out)))
     have NB420_401 := Aside0.mk ((ng hg (blk_lt BK401.out)))
     replace BK401 := Aside0.mk (bb BK401.out hb)
     have NB0_420 := Aside0.mk ((nl hg (IsS107.lt HI0.out)))
     have NB420_0 := Aside0.mk ((ng hg (IsS107.lt HI0.out)))
     replace HI0 := Aside0.mk (IsS107.below B11x4_ hb)
     clear hb hbox hg
     refine hK.out _ _ ⟨(blk_cell BK400.out 0).trans rfl, (blk_cell BK400.out 1).trans rfl, (blk_cell BK400.out 2).trans rfl⟩ (fun hHeld => ?_)
     clear hK K
     refine norm_ (a' := ?_) ?_ ?_
     rotate_left
     ·show Act.put _ (some 8) _ = _
      simp only [Act.put, List.setIfInBounds_toArray, List.set_cons_zero, List.set_cons_succ, i64_w, i32_w]
      rfl
     refine one_ (i := 4) (N := some 28) #[true, true, true, true, true, true, true, true, true, false, false, true, false] rfl rfl (one_of HT_.out B11x13_) (by decide) (fun K hK => ?_)
     refine Kd.R_lit_step k28 _ 28 ?hg (N := 28) ?hd (xs := ([] : List (S28))) (inner := []) (ok := fun _ => True) (okp := fun _ => True) ?hr ?hp (fun _ hk => hk) trivial (Below.refl _ _) (Nat.le_refl _) (by simp) ?_; (case hd => rfl); (case hg => rfl); (case hr => exact B11x20_); (case hp => exact (Reps.none _ _))
     intro v411 w23 ho24 hb hg_ hnew_
     clear hg_ hnew_
     (first | rw [← Ny410.out] at ho24 | (simp only [Int.reduceToNat] at ho24; rw [← Ny410.out] at ho24))
     have HO412 := Aside0.mk (Kd.R_lower ho24 (keep_size (w := w) (g := g) (row := none) B11x1_))
     replace BK400 := Aside0.mk (bb BK400.out hb)
     replace BK401 := Aside0.mk (bb BK401.out hb)
     replace HR416 := Aside0.mk (Kd.C_below B11x7_ hb)
     replace BK420 := Aside0.mk (bb BK420.out hb)
     replace HK := Aside0.mk (KeepBut.trans B11x1_ (KeepBut.of_below hb g none) (.inl rfl))
     replace HB := Aside0.mk (below_step B11x2_ hb)
     replace HI0 := Aside0.mk (IsS107.below B11x0_ hb)
     clear hb ho24
     refine hK.out _ _ ⟨(blk_cell BK400.out 0).trans rfl, (blk_cell BK400.out 1).trans rfl, (blk_cell BK400.out 2).trans rfl⟩ (fun hHeld => ?_)
     clear hK K
     refine norm_ (a' := ?_) ?_ ?_
     rotate_left
     ·show Act.put _ (some 28) _ = _
      simp only [Act.put, List.setIfInBounds_toArray, List.set_cons_zero, List.set_cons_succ, i64_w, i32_w]
      rfl
     refine one_ (i := 9) (N := some 33) #[true, true, true, true, true, true, true, true, true, true, false, true, false] rfl rfl (one_of HT_.out B11x13_) (by decide) (fun K hK => ?_)
     refine Kd.R_append_rows_step k28 w.heap.size (by rfl) (.tmp 28) (.tmp 32) 24 28 (.agg #[(.int .i64 0), (.int .i64 0), (.string ⟨#[]⟩)]) 32 rfl Try.underlying24 info28 rfl (by decide) (by omega) v411 y410 y413 _ _ _ (fun _ => True) (fun _ => False) rfl rfl ?aO ?aR (fun _ _ h => h) (fun _ h => h.elim) ?aF (Below.refl _ _) ?aS ?aL ?_
     (case aR => exact B11x16_)
     (case aF => exact (fun _ _ => trivial))
     (case aO => exact B11x14_)
     (case aS => exact B11x24_)
     (case aL => have := LMc19.out; omega)
     intro v418 w25 ho hb hg hat
     rw [← Ny417.out] at ho
     replace BK400 := Aside0.mk (blk_grown (g := gb400) (o := .cells #[.int .i64 a1_0, .int .i64 a1_1, .slice A1_2 l1_2.length c1_2] 26 (0, 0)) B11x9_ hg (Kd.R_ne HO412.out BK400.out (by decide)))
     replace BK401 := Aside0.mk (blk_grown (g := gb401) (o := .cells #[.int .i64 0, .int .i64 0, .slice none 0 0] 26 (0, 0)) B11x10_ hg (Kd.R_ne HO412.out BK401.out (by decide)))
     replace BK420 := Aside0.mk (blk_grown (g := gb420) (o := .cells #[.int .i64 0, .int .i64 0, .slice none 0 0] 26 (0, 0)) B11x11_ hg (Kd.R_ne HO412.out BK420.out (by decide)))
     replace HB := Aside0.mk (below_weaken B11x2_ HL.out hb)
     replace HI0 := Aside0.mk (IsS107.grown B11x0_ hg (IsS107.own_ne HI0.out HO412.out (by decide)))
     replace HR416 := Aside0.mk ((show Kd.C k28 w25 A1_2 y413.length y413 from B11x21_))
     replace HK := Aside0.mk (KeepBut.trans B11x1_ (KeepBut.of_grown hg g) (Kd.R_base2 HO412.out))
     have HO419 := Aside0.mk (ho)
     clear HO412
     clear ho hb hg hat
     obtain ⟨Ao26, co26, eo26⟩ := Kd.R_slice HO419.out
     (first | subst eo26 | (injection eo26 with f1_ f2_ f3_; have f4_ := f1_.symm; have f5_ := f3_.symm; clear f1_ f2_ f3_; subst f4_; subst f5_))
     refine hK.out _ _ ⟨(blk_cell BK400.out 0).trans rfl, (blk_cell BK400.out 1).trans rfl, (blk_cell BK400.out 2).trans rfl⟩ (fun hHeld => ?_)
     clear hK K
     refine norm_ (a' := ?_) ?_ ?_
     rotate_left
     ·show Act.put _ (some 33) _ = _
      simp only [Act.put, List.setIfInBounds_toArray, List.set_cons_zero, List.set_cons_succ, i64_w, i32_w]
      rfl
     refine pu_ 10 34 HT_ ?_
     exact norm_ B11x22_ (hCont (v411, .slice Ao26 y417.length co26, gb420) _ ⟨hHeld, B11x15_, B11x9_, B11x10_, B11x11_, GW420.out, GE420.out, NB0_420.out, NB420_0.out, NB400_420.out, NB420_400.out, NB401_420.out, NB420_401.out, B11x0_, B11x1_, B11x2_⟩)
   rintro ⟨v411, v418, gb420⟩ w27 ⟨hS_, h0_, h1_, h2_, h3_, h4_, h5_, h6_, h7_, h8_, h9_, h10_, h11_, h12_, h13_, h14_⟩
   have n0_ : Aside0 (Kd.R k28 28 w27 w.heap.size (fun _ => True) v418 y417) := ⟨h0_⟩
   have n1_ : Aside0 (w27.heap[gb400]? = some (.cells #[.int .i64 a1_0, .int .i64 a1_1, .slice A1_2 l1_2.length c1_2] 26 (0, 0))) := ⟨h1_⟩
   have n2_ : Aside0 (w27.heap[gb401]? = some (.cells #[.int .i64 0, .int .i64 0, .slice none 0 0] 26 (0, 0))) := ⟨h2_⟩
   have n3_ : Aside0 (w27.heap[gb420]? = some (.cells #[.int .i64 0, .int .i64 0, .slice none 0 0] 26 (0, 0))) := ⟨h3_⟩
   have n4_ : Aside0 (w.heap.size ≤ gb420) := ⟨h4_⟩
   have n5_ : Aside0 (w0.heap.size ≤ gb420) := ⟨h5_⟩
   have n6_ : Aside0 (g ≠ gb420) := ⟨h6_⟩
   have n7_ : Aside0 (gb420 ≠ g) := ⟨h7_⟩
   have n8_ : Aside0 (gb400 ≠ gb420) := ⟨h8_⟩
   have n9_ : Aside0 (gb420 ≠ gb400) := ⟨h9_⟩
   have n10_ : Aside0 (gb401 ≠ gb420) := ⟨h10_⟩
   have n11_ : Aside0 (gb420 ≠ gb401) := ⟨h11_⟩
   have n12_ : Aside0 (IsS107 w0 w27 g s0_0 x1001_4 x1002_4) := ⟨h12_⟩
   have n13_ : Aside0 (KeepBut w w27 g none) := ⟨h13_⟩
   have n14_ : Aside0 (Below w0.heap.size w0 w27) := ⟨h14_⟩
   clear BK400
   clear BK401
   clear HI0
   clear HK
   clear HB
   clear h0_ h1_ h2_ h3_ h4_ h5_ h6_ h7_ h8_ h9_ h10_ h11_ h12_ h13_ h14_
   have HO419 := n0_
   have BK400 := n1_
   have BK401 := n2_
   have BK420 := n3_
   have GW420 := n4_
   have GE420 := n5_
   have NB0_420 := n6_
   have NB420_0 := n7_
   have NB400_420 := n8_
   have NB420_400 := n9_
   have NB401_420 := n10_
   have NB420_401 := n11_
   have HI0 := n12_
   have HK := n13_
   have HB := n14_
   clear n0_ n1_ n2_ n3_ n4_ n5_ n6_ n7_ n8_ n9_ n10_ n11_ n12_ n13_ n14_
   have hHeld : w27.cell? ⟨gb400, 0, none⟩ = some (.int .i64 a1_0) ∧ w27.cell? ⟨gb400, 1, none⟩ = some (.int .i64 a1_1) ∧ w27.cell? ⟨gb400, 2, none⟩ = some (.slice A1_2 l1_2.length c1_2) := hS_
   obtain ⟨Ao28, co28, eo28⟩ := Kd.R_slice HO419.out
   (first | subst eo28 | (injection eo28 with f1_ f2_ f3_; have f4_ := f1_.symm; have f5_ := f3_.symm; clear f1_ f2_ f3_; subst f4_; subst f5_))
   refine norm_ (a' := ?_) ?_ ?_
   rotate_left
   ·simp only [putAll, Act.put, List.setIfInBounds_toArray, List.set_cons_zero, List.set_cons_succ]
    rfl
   refine one_ (i := 12) (N := none) #[true, true, true, true, true, true, true, true, true, true, true, true, true] rfl rfl (one_of HT_.out B11x13_) (by decide) (fun K hK => ?_)
   have hs29 : w27.cell? ⟨gb420, 0, none⟩ = some (.int .i64 0) := (blk_cell BK420.out 0).trans rfl
   have hfs29 := blk_frozen BK420.out 0
   have hns29_0 := NB400_420.out
   have hns29_1 := NB401_420.out
   have hms29_0 := NB420_400.out
   have hms29_1 := NB420_401.out
   have hs30 : w27.cell? ⟨gb420, 1, none⟩ = some (.int .i64 0) := (blk_cell BK420.out 1).trans rfl
   have hfs30 := blk_frozen BK420.out 1
   have hns30_0 := NB400_420.out
   have hns30_1 := NB401_420.out
   have hms30_0 := NB420_400.out
   have hms30_1 := NB420_401.out
   have hs31 : w27.cell? ⟨gb420, 2, none⟩ = some (.slice none 0 0) := (blk_cell BK420.out 2).trans rfl
   have hfs31 := blk_frozen BK420.out 2
   have hns31_0 := NB400_420.out
   have hns31_1 := NB401_420.out
   have hms31_0 := NB420_400.out
   have hms31_1 := NB420_401.out
   refine skip_ (w1 := ?_) (by rfl) rfl ?_ ?_
   rotate_left
   ·go_simp
    rfl
   refine hK.out _ _ ⟨((cell_far (p := ⟨gb420, _, none⟩) NB400_420.out _).trans (((cell_far (p := ⟨gb420, _, none⟩) NB400_420.out _).trans (((cell_far (p := ⟨gb420, _, none⟩) NB400_420.out _).trans (hHeld.1)))))), ((cell_far (p := ⟨gb420, _, none⟩) NB400_420.out _).trans (((cell_far (p := ⟨gb420, _, none⟩) NB400_420.out _).trans (((cell_far (p := ⟨gb420, _, none⟩) NB400_420.out _).trans (hHeld.2.1)))))), ((cell_far (p := ⟨gb420, _, none⟩) NB400_420.out _).trans (((cell_far (p := ⟨gb420, _, none⟩) NB400_420.out _).trans (((cell_far (p := ⟨gb420, _, none⟩) NB400_420.out _).trans (hHeld.2.2))))))⟩ (fun hHeld => ?_)
   clear hK K
   refine done_ (done_of HT_.out B11x13_) ?_
   try go_wp2
   go_loopg [6, 9] kj4 (fun kq v6 v9 w' => ∃ (x6_2 : Int) (x9_2 : Int) (x1001_2 : Int) (x1002_2 : Int) (x421002_2 : List (S28)) (u421002 : Value), v6 = .int .i64 x6_2 ∧ v9 = .int .i64 x9_2 ∧ Aside0 (spec_l06Next.l0 kq x6_2 x9_2 s0_0 x1001_2 x1002_2 a1_0 a1_1 x421002_2 = some (r1, r2, r3, r4, r5)) ∧ Aside0 (kq ≤ kj4) ∧ Aside0 (Kd.R k28 28 w' w.heap.size (fun _ => True) u421002 x421002_2) ∧ Aside0 (w'.heap[gb400]? = some (.cells #[.int .i64 a1_0, .int .i64 a1_1, (.slice A1_2 l1_2.length c1_2)] 26 (0, 0))) ∧ Aside0 (w'.heap[gb401]? = some (.cells #[.int .i64 0, .int .i64 0, (.slice none 0 0)] 26 (0, 0))) ∧ Aside0 (w'.heap[gb420]? = some (.cells #[.int .i64 a1_0, .int .i64 a1_1, u421002] 26 (0, 0))) ∧ Aside0 (IsS107 w0 w' g s0_0 x1001_2 x1002_2) ∧ Aside0 (KeepBut w w' g none) ∧ Aside0 (Below w0.heap.size w0 w'))
   case atStart => exact ⟨(t403), (0), (x1001_4), (x1002_4), (y417), (.slice Ao28 y417.length co28), (be_), (be_), H', ⟨Nat.le_refl _⟩, ⟨(by (with_reducible repeat (first | apply Kd.R_alloc | apply Kd.R_drewN | apply Kd.R_drew)); exact Kd.R_mono (Kd.R_far (p := ⟨gb420, 2, none⟩) (Kd.R_far (p := ⟨gb420, 1, none⟩) (Kd.R_far (p := ⟨gb420, 0, none⟩) (Kd.R_types HO419.out BK420.out (by decide)) (fun _ hk => hk.2) (.int .i64 a1_0)) (fun _ hk => hk.2) (.int .i64 a1_1)) (fun _ hk => hk.2) (.slice Ao28 y417.length co28)) (fun _ hk => trivial))⟩, ⟨B11x17_⟩, ⟨B11x12_⟩, ⟨B11x18_⟩, ⟨B11x0_⟩, ⟨B11x1_⟩, ⟨B11x2_⟩⟩
   case round =>
    clear H'
    try clear c17
    try clear c17b0
    try clear c17b1
    try clear c18
    try clear c18b0
    try clear c18b1
    try clear c19
    try clear q21
    try clear hcz12_1
    try clear hcz12_2
    try clear hfz10_0
    try clear hfz10_1
    try clear hfz10_2
    try clear hfz12_0
    try clear hfz12_1
    try clear hfz12_2
    try clear q21
    obtain ⟨x6_2, x9_2, x1001_2, x1002_2, x421002_2, u421002, rfl, rfl, HA, HK2, HO_421002, BK400, BK401, BK420, HI0, HK, HB⟩ := hrel
    cases gk with
    | zero => exact absurd HA.out (by simp [spec_l06Next.l0])
    | succ k2 =>
     have H := HA.out
     clear HA
     simp only [spec_l06Next.l0] at H
     replace H := bsi H
     obtain ⟨⟨t421, t422, t423⟩, A32, H⟩ := H
     (try dsimp only at H)
     by_cases c33 : x9_2 < t421
     ·rw [if_pos c33] at H
      have c33b0 : decide (x9_2 < t421) = true := decide_eq_true c33
      clear c33
      replace H := bsi H
      obtain ⟨⟨t424, t425, t426⟩, A34, H⟩ := H
      (try dsimp only at H)
      replace H := bsi H
      obtain ⟨⟨t427, t428, t429, t430, t431⟩, A35, H⟩ := H
      (try dsimp only at H)
      by_cases c36 : x421002_2.length < 4398046511104
      rotate_left
      ·rw [if_neg c36] at H
       exact absurd H (by simp)
      rw [if_pos c36] at H
      have LMc36 := Aside0.mk c36
      clear c36
      obtain ⟨y432, hy432⟩ : ∃ y_ : List (S28), y_ = (x421002_2 ++ [(⟨t427, t428, t429⟩ : S28)]) := ⟨_, rfl⟩
      replace H : ((spec_LogLast.f a1_0 a1_1 y432).bind fun bt435 => (spec_l06Next.l0 k2 bt435.2 (wrap64 (x9_2 + 1)) s0_0 t430 t431 a1_0 a1_1 y432)) = some (r1, r2, r3, r4, r5) := by first | (rw [hy432]; with_reducible exact H) | (have H2_ := (Option.bind_some _ _).symm.trans H; rw [hy432]; with_reducible exact H2_) | (have H2_ := (Option.bind_some _ _).symm.trans H; with_reducible exact H2_) | with_reducible exact H | (rw [hy432]; exact H) | exact H
      have Ny432 := Aside0.mk hy432
      clear hy432
      replace H := bsi H
      obtain ⟨⟨t435, t436⟩, A37, H⟩ := H
      (try dsimp only at H)
      have H' := Aside0.mk H
      clear H
      try go_wp2_with (first | ((with_reducible refine gate_callee (f := 41) rfl ?_); refine goesL_ (some 37) rfl rfl Try.func41 B11x13_ rfl #[.pointer (some ⟨g, 0, none⟩), .int .i64 4] rfl B11x6_ ?_; (with_reducible refine (spec_l01Below.calls g s0_0 x1001_2 x1002_2 4 t421 t422 t423 w0 _ ?side1 ?side2 A32.out).mono ?_); (case side1 => exact B11x0_); (case side2 => exact B11x2_); rintro e w38 ⟨rfl, hi, hb, hk⟩; refine ⟨_, rfl, ?_⟩; replace HO_421002 := Aside0.mk (Kd.R_mono (Kd.R_keep (IsS107.apart (show IsS107 w0 _ g s0_0 x1001_2 x1002_2 from B11x0_) B11x8_ (by decide)) hk (fun _ h => h.2)) (fun _ h => h.1)); replace BK400 := Aside0.mk (kb hk BK400.out NB400_0.out); replace BK401 := Aside0.mk (kb hk BK401.out NB401_0.out); replace BK420 := Aside0.mk (kb hk BK420.out NB420_0.out); replace HK := Aside0.mk (KeepBut.trans B11x1_ hk (.inl rfl)); replace HB := Aside0.mk (hb); replace HI0 := Aside0.mk (hi); (try clear hb hk hi)))
      replace HO_421002 := Aside0.mk (Kd.R_drew HO_421002.out)
      replace BK400 := Aside0.mk (blk_drew BK400.out)
      replace BK401 := Aside0.mk (blk_drew BK401.out)
      replace BK420 := Aside0.mk (blk_drew BK420.out)
      replace HI0 := Aside0.mk (IsS107.drew HI0.out)
      replace HK := Aside0.mk (keep_drew HK.out)
      replace HB := Aside0.mk (below_drew1 HB.out)
      refine start_ (n := 12) (S := fun w' => w'.cell? ⟨gb420, 0, none⟩ = some (.int .i64 a1_0) ∧ w'.cell? ⟨gb420, 1, none⟩ = some (.int .i64 a1_1) ∧ w'.cell? ⟨gb420, 2, none⟩ = some (u421002)) (ds := [11]) #[false, false, false, false, false, false, false, false, false, false, false, false] B11x13_ rfl rfl ⟨(blk_cell BK420.out 0).trans rfl, (blk_cell BK420.out 1).trans rfl, (blk_cell BK420.out 2).trans rfl⟩ (fun hHeld => ?_); refine with_tabW spec_l06Next.tab9 spec_l06Next.bits9 (fun HT_ HW_ => ?_)
      generalize w38.drew = w39 at HO_421002 BK400 BK401 BK420 HI0 HK HB hHeld ⊢
      refine pu_ 0 41 HT_ ?_
      refine pu_ 2 43 HT_ ?_
      refine pu_ 3 44 HT_ ?_
      refine pu_ 4 45 HT_ ?_
      refine ta_ 1 42 HT_ HW_ hHeld ?_
      refine one_ (i := 5) (N := some 46) #[true, true, true, true, true, true, false, false, false, false, false, false] rfl rfl (one_of HT_.out B11x13_) (by decide) (fun K hK => ?_)
      refine goes_ Try.func41 B11x13_ rfl #[.pointer (some ⟨g, 0, none⟩), .int .i64 2] (by rfl) rfl rfl B11x6_ ?_
      with_reducible refine (spec_l01Below.calls g s0_0 t422 t423 2 t424 t425 t426 w0 _ ?side1 ?side2 A34.out).mono ?_
      (case side1 => exact B11x0_)
      (case side2 => exact B11x2_)
      rintro e w40 ⟨rfl, hi, hb, hk⟩
      refine ⟨_, rfl, ?_⟩
      replace HO_421002 := Aside0.mk (Kd.R_mono (Kd.R_keep (IsS107.apart (show IsS107 w0 _ g s0_0 t422 t423 from B11x0_) B11x8_ (by decide)) hk (fun _ h => h.2)) (fun _ h => h.1))
      replace BK400 := Aside0.mk (kb hk BK400.out NB400_0.out)
      replace BK401 := Aside0.mk (kb hk BK401.out NB401_0.out)
      replace BK420 := Aside0.mk (kb hk BK420.out NB420_0.out)
      replace HK := Aside0.mk (KeepBut.trans B11x1_ hk (.inl rfl))
      replace HB := Aside0.mk (hb)
      replace HI0 := Aside0.mk (hi)
      (try clear hb)
      (try clear hb2)
      (try clear hk)
      (try clear hi)
      refine hK.out _ _ ⟨(blk_cell BK420.out 0).trans rfl, (blk_cell BK420.out 1).trans rfl, (blk_cell BK420.out 2).trans rfl⟩ (fun hHeld => ?_)
      clear hK K
      refine norm_ (a' := ?_) ?_ ?_
      rotate_left
      ·show Act.put _ (some 46) _ = _
       simp only [Act.put, List.setIfInBounds_toArray, List.set_cons_zero, List.set_cons_succ, i64_w, i32_w]
       rfl
      refine pu_ 6 47 HT_ ?_
      refine one_ (i := 7) (N := some 48) #[true, true, true, true, true, true, true, true, false, false, false, false] rfl rfl (one_of HT_.out B11x13_) (by decide) (fun K hK => ?_)
      refine goes_ Try.func40 B11x13_ rfl #[.pointer (some ⟨g, 0, none⟩), .int .i64 (wrap64 (x6_2 + t424))] (by rfl) rfl rfl B11x6_ ?_
      with_reducible refine (spec_l05Right.calls k2 g s0_0 t425 t426 (wrap64 (x6_2 + t424)) t427 t428 t429 t430 t431 w0 _ ?side1 ?side2 A35.out).mono ?_
      (case side1 => exact B11x0_)
      (case side2 => exact B11x2_)
      rintro e w41 ⟨rfl, hi, hb, hk⟩
      refine ⟨_, rfl, ?_⟩
      replace HO_421002 := Aside0.mk (Kd.R_mono (Kd.R_keep (IsS107.apart (show IsS107 w0 _ g s0_0 t425 t426 from B11x0_) B11x8_ (by decide)) hk (fun _ h => h.2)) (fun _ h => h.1))
      replace BK400 := Aside0.mk (kb hk BK400.out NB400_0.out)
      replace BK401 := Aside0.mk (kb hk BK401.out NB401_0.out)
      replace BK420 := Aside0.mk (kb hk BK420.out NB420_0.out)
      replace HK := Aside0.mk (KeepBut.trans B11x1_ hk (.inl rfl))
      replace HB := Aside0.mk (hb)
      replace HI0 := Aside0.mk (hi)
      (try clear hb)
      (try clear hb2)
      (try clear hk)
      (try clear hi)
      refine hK.out _ _ ⟨(blk_cell BK420.out 0).trans rfl, (blk_cell BK420.out 1).trans rfl, (blk_cell BK420.out 2).trans rfl⟩ (fun hHeld => ?_)
      clear hK K
      refine norm_ (a' := ?_) ?_ ?_
      rotate_left
      ·show Act.put _ (some 48) _ = _
       simp only [Act.put, List.setIfInBounds_toArray, List.set_cons_zero, List.set_cons_succ, i64_w, i32_w]
       rfl
      refine one_ (i := 8) (N := some 49) #[true, true, true, true, true, true, true, true, true, false, false, false] rfl rfl (one_of HT_.out B11x13_) (by decide) (fun K hK => ?_)
      refine value_ (w1 := ?_) (v := ?_) (by rfl) rfl ?_ ?_
      rotate_left 2
      ·go_simp
       constructor
       ·rfl
       ·rfl
      refine hK.out _ _ ⟨(blk_cell (blk_alloc BK420.out _) 0).trans rfl, (blk_cell (blk_alloc BK420.out _) 1).trans rfl, (blk_cell (blk_alloc BK420.out _) 2).trans rfl⟩ (fun hHeld => ?_)
      clear hK K
      refine norm_ (a' := ?_) ?_ ?_
      rotate_left
      ·show Act.put _ (some 49) _ = _
       simp only [Act.put, List.setIfInBounds_toArray, List.set_cons_zero, List.set_cons_succ, i64_w, i32_w]
       rfl
      refine one_ (i := 9) (N := some 50) #[true, true, true, true, true, true, true, true, true, true, false, false] rfl rfl (one_of HT_.out B11x13_) (by decide) (fun K hK => ?_)
      refine Kd.R_append_step k28 w.heap.size (by rfl) (.tmp 42) (.tmp 49) 24 28 (.agg #[(.int .i64 0), (.int .i64 0), (.string ⟨#[]⟩)]) 32 rfl Try.underlying24 info28 rfl (by decide) (by omega) u421002 x421002_2 (⟨t427, t428, t429⟩ : S28) [.int .i64 t427, .int .i64 t428, .string t429] (fun _ => True) (fun _ => False) rfl rfl ?aP (fun _ hk => hk.elim) ?aF ?aO (Below.refl _ _) ?aS ?aL ?_
      (case aP => exact k28_mkM _ _ _ (⟨t427, t428, t429⟩ : S28))
      (case aF => exact (fun _ _ => trivial))
      (case aO => exact B11x8_)
      (case aS => exact B11x24_)
      (case aL => have := LMc36.out; omega)
      intro v433 w42 ho hb hg hat
      rw [← Ny432.out] at ho
      replace BK400 := Aside0.mk (blk_grown (g := gb400) (o := .cells #[.int .i64 a1_0, .int .i64 a1_1, .slice A1_2 l1_2.length c1_2] 26 (0, 0)) B11x9_ hg (Kd.R_ne HO_421002.out BK400.out (by decide)))
      replace BK401 := Aside0.mk (blk_grown (g := gb401) (o := .cells #[.int .i64 0, .int .i64 0, .slice none 0 0] 26 (0, 0)) B11x10_ hg (Kd.R_ne HO_421002.out BK401.out (by decide)))
      replace BK420 := Aside0.mk (blk_grown (g := gb420) (o := .cells #[.int .i64 a1_0, .int .i64 a1_1, u421002] 26 (0, 0)) B11x11_ hg (Kd.R_ne HO_421002.out BK420.out (by decide)))
      replace HB := Aside0.mk (below_weaken B11x2_ HL.out hb)
      replace HI0 := Aside0.mk (IsS107.grown B11x0_ hg (IsS107.own_ne HI0.out HO_421002.out (by decide)))
      replace HK := Aside0.mk (KeepBut.trans B11x1_ (KeepBut.of_grown hg g) (Kd.R_base2 HO_421002.out))
      have HO434 := Aside0.mk (ho)
      clear HO_421002
      clear ho hb hg hat
      obtain ⟨Ao43, co43, eo43⟩ := Kd.R_slice HO434.out
      (first | subst eo43 | (injection eo43 with f1_ f2_ f3_; have f4_ := f1_.symm; have f5_ := f3_.symm; clear f1_ f2_ f3_; subst f4_; subst f5_))
      refine hK.out _ _ ⟨(blk_cell BK420.out 0).trans rfl, (blk_cell BK420.out 1).trans rfl, (blk_cell BK420.out 2).trans rfl⟩ (fun hHeld => ?_)
      clear hK K
      refine norm_ (a' := ?_) ?_ ?_
      rotate_left
      ·show Act.put _ (some 50) _ = _
       simp only [Act.put, List.setIfInBounds_toArray, List.set_cons_zero, List.set_cons_succ, i64_w, i32_w]
       rfl
      refine pu_ 10 51 HT_ ?_
      refine last_ (i := 11) (N := none) #[true, true, true, true, true, true, true, true, true, true, true, true] rfl rfl (one_of HT_.out B11x13_) (by decide) (fun K hK => ?_)
      have hs44 : w42.cell? ⟨gb420, 2, none⟩ = some (u421002) := (blk_cell BK420.out 2).trans rfl
      have hfs44 := blk_frozen BK420.out 2
      have hns44_0 := NB400_420.out
      have hns44_1 := NB401_420.out
      have hms44_0 := NB420_400.out
      have hms44_1 := NB420_401.out
      refine skip_ (w1 := ?_) (by rfl) rfl ?_ ?_
      rotate_left
      ·go_simp
       rfl
      refine hK.out _ _ ?_
      clear hK K
      refine done_ (done_of HT_.out B11x13_) ?_
      have hnb45 := NB420_400.out
      have hnc45 := NB400_420.out
      have hnb46 := NB420_401.out
      have hnc46 := NB401_420.out
      have hnb47 := NB420_0.out
      have hnc47 := NB0_420.out
      obtain ⟨hcz48_0, hcz48_1, hcz48_2⟩ := cl3 BK420.out
      obtain ⟨hfz48_0, hfz48_1, hfz48_2⟩ := fr3 BK420.out
      try go_wp2_with (first | ((with_reducible refine gate_callee (f := 39) rfl ?_); refine goesL_ (some 54) rfl rfl Try.func39 B11x13_ rfl #[.agg #[.int .i64 a1_0, .int .i64 a1_1, .slice Ao43 y432.length co43]] rfl B11x6_ ?_; (with_reducible refine (spec_LogLast.calls a1_0 a1_1 _ _ y432 t435 t436 _ ?side1 ?side2 A37.out).mono ?_); (case side1 => refine (Kd.R_reads' (e := 28) (base := w.heap.size) (ok := fun k_ => True) (n := y432.length) (c := co43) ?_).2.2; exact B11x19_); (case side2 => exact (Kd.R_reads' HO434.out).2.1); rintro e w49 ⟨rfl, hb⟩; refine ⟨_, rfl, ?_⟩; replace HO434 := Aside0.mk (Kd.R_below B11x19_ hb); replace BK400 := Aside0.mk (blk_below (g := gb400) (o := .cells #[.int .i64 a1_0, .int .i64 a1_1, .slice A1_2 l1_2.length c1_2] 26 (0, 0)) B11x17_ hb); replace BK401 := Aside0.mk (blk_below (g := gb401) (o := .cells #[.int .i64 0, .int .i64 0, .slice none 0 0] 26 (0, 0)) B11x12_ hb); replace BK420 := Aside0.mk (blk_below (g := gb420) (o := .cells #[.int .i64 a1_0, .int .i64 a1_1, .slice Ao43 y432.length co43] 26 (0, 0)) B11x18_ hb); replace HK := Aside0.mk (KeepBut.trans B11x1_ (KeepBut.of_below hb g none) (.inl rfl)); replace HB := Aside0.mk (below_step B11x2_ hb); replace HI0 := Aside0.mk (IsS107.below (show IsS107 w0 (w42.setCell ⟨gb420, 2, none⟩ (.slice Ao43 y432.length co43)) g s0_0 t430 t431 from B11x0_) hb); (try clear hb)))
      go_roundg k2
      case measure => have := HJ4.out; have := HK2.out; omega
      case rel => exact ⟨(t436), (wrap64 (x9_2 + 1)), (t430), (t431), (y432), (.slice Ao43 y432.length co43), (be_), (be_), H', ⟨(by have := HJ4.out; have := HK2.out; omega)⟩, ⟨(by (with_reducible repeat (first | apply Kd.R_alloc | apply Kd.R_drewN | apply Kd.R_drew)); exact HO434.out)⟩, ⟨B11x9_⟩, ⟨B11x10_⟩, ⟨B11x11_⟩, ⟨B11x0_⟩, ⟨B11x1_⟩, ⟨B11x2_⟩⟩
     ·rw [if_neg c33] at H
      have c33b0 : decide (x9_2 < t421) = false := decide_eq_false c33
      clear c33
      replace H := bsi H
      obtain ⟨⟨t437, t438, t439⟩, A50, H⟩ := H
      (try dsimp only at H)
      by_cases c51 : t437 = true
      ·subst c51
       rw [if_pos rfl] at H
       replace H := bsi H
       obtain ⟨⟨t440, t441, t442⟩, A52, H⟩ := H
       (try dsimp only at H)
       replace H := bsi H
       obtain ⟨t443, A53, H⟩ := H
       (try dsimp only at H)
       replace H := bsi H
       obtain ⟨⟨t444, t445, t446⟩, A54, H⟩ := H
       (try dsimp only at H)
       simp only [Option.some.injEq, Prod.mk.injEq] at H
       obtain ⟨rfl, rfl, rfl, rfl, rfl⟩ := H
       try go_wp2_with (first | ((with_reducible refine gate_callee (f := 41) rfl ?_); refine goesL_ (some 37) rfl rfl Try.func41 B11x13_ rfl #[.pointer (some ⟨g, 0, none⟩), .int .i64 4] rfl B11x6_ ?_; (with_reducible refine (spec_l01Below.calls g s0_0 x1001_2 x1002_2 4 t421 t422 t423 w0 _ ?side1 ?side2 A32.out).mono ?_); (case side1 => exact B11x0_); (case side2 => exact B11x2_); rintro e w55 ⟨rfl, hi, hb, hk⟩; refine ⟨_, rfl, ?_⟩; replace HO_421002 := Aside0.mk (Kd.R_mono (Kd.R_keep (IsS107.apart (show IsS107 w0 _ g s0_0 x1001_2 x1002_2 from B11x0_) B11x8_ (by decide)) hk (fun _ h => h.2)) (fun _ h => h.1)); replace BK400 := Aside0.mk (kb hk BK400.out NB400_0.out); replace BK401 := Aside0.mk (kb hk BK401.out NB401_0.out); replace BK420 := Aside0.mk (kb hk BK420.out NB420_0.out); replace HK := Aside0.mk (KeepBut.trans B11x1_ hk (.inl rfl)); replace HB := Aside0.mk (hb); replace HI0 := Aside0.mk (hi); (try clear hb hk hi)) | ((with_reducible refine gate_callee (f := 42) rfl ?_); refine goesL_ (some 58) rfl rfl Try.func42 B11x13_ rfl #[.pointer (some ⟨g, 0, none⟩), .int .i64 4] rfl B11x6_ ?_; (with_reducible refine (spec_l01Once.calls g s0_0 t422 t423 4 true t438 t439 w0 _ ?side1 ?side2 A50.out).mono ?_); (case side1 => exact B11x0_); (case side2 => exact B11x2_); rintro e w56 ⟨rfl, hi, hb, hk⟩; refine ⟨_, rfl, ?_⟩; replace HO_421002 := Aside0.mk (Kd.R_mono (Kd.R_keep (IsS107.apart (show IsS107 w0 _ g s0_0 t422 t423 from B11x0_) B11x8_ (by decide)) hk (fun _ h => h.2)) (fun _ h => h.1)); replace BK400 := Aside0.mk (kb hk BK400.out NB400_0.out); replace BK401 := Aside0.mk (kb hk BK401.out NB401_0.out); replace BK420 := Aside0.mk (kb hk BK420.out NB420_0.out); replace HK := Aside0.mk (KeepBut.trans B11x1_ hk (.inl rfl)); replace HB := Aside0.mk (hb); replace HI0 := Aside0.mk (hi); (try clear hb hk hi); have hnb57 := NB420_400.out; have hnc57 := NB400_420.out; have hnb58 := NB420_401.out; have hnc58 := NB401_420.out; have hnb59 := NB420_0.out; have hnc59 := NB0_420.out; obtain ⟨hcz60_0, hcz60_1, hcz60_2⟩ := cl3 BK420.out; obtain ⟨hfz60_0, hfz60_1, hfz60_2⟩ := fr3 BK420.out; obtain ⟨Ao61, co61, eo61⟩ := Kd.R_slice HO_421002.out; subst eo61) | ((with_reducible refine gate_callee (f := 41) rfl ?_); refine goesL_ (some 64) rfl rfl Try.func41 B11x13_ rfl #[.pointer (some ⟨g, 0, none⟩), .int .i64 (wrap64 ((x421002_2.length : Int) + 1))] rfl B11x6_ ?_; (with_reducible refine (spec_l01Below.calls g s0_0 t438 t439 (wrap64 ((x421002_2.length : Int) + 1)) t440 t441 t442 w0 _ ?side1 ?side2 A52.out).mono ?_); (case side1 => exact B11x0_); (case side2 => exact B11x2_); rintro e w62 ⟨rfl, hi, hb, hk⟩; refine ⟨_, rfl, ?_⟩; replace HO_421002 := Aside0.mk (Kd.R_mono (Kd.R_keep (IsS107.apart (show IsS107 w0 _ g s0_0 t438 t439 from B11x0_) B11x8_ (by decide)) hk (fun _ h => h.2)) (fun _ h => h.1)); replace BK400 := Aside0.mk (kb hk BK400.out NB400_0.out); replace BK401 := Aside0.mk (kb hk BK401.out NB401_0.out); replace BK420 := Aside0.mk (kb hk BK420.out NB420_0.out); replace HK := Aside0.mk (KeepBut.trans B11x1_ hk (.inl rfl)); replace HB := Aside0.mk (hb); replace HI0 := Aside0.mk (hi); (try clear hb hk hi)))
       replace HO_421002 := Aside0.mk (Kd.R_drew HO_421002.out)
       replace BK400 := Aside0.mk (blk_drew BK400.out)
       replace BK401 := Aside0.mk (blk_drew BK401.out)
       replace BK420 := Aside0.mk (blk_drew BK420.out)
       replace HI0 := Aside0.mk (IsS107.drew HI0.out)
       replace HK := Aside0.mk (keep_drew HK.out)
       replace HB := Aside0.mk (below_drew1 HB.out)
       refine start_ (n := 13) (S := fun w' => w'.cell? ⟨gb420, 0, none⟩ = some (.int .i64 a1_0) ∧ w'.cell? ⟨gb420, 1, none⟩ = some (.int .i64 a1_1) ∧ w'.cell? ⟨gb420, 2, none⟩ = some (.slice Ao61 x421002_2.length co61)) (ds := [12]) #[false, false, false, false, false, false, false, false, false, false, false, false, false] B11x13_ rfl rfl ⟨(blk_cell BK420.out 0).trans rfl, (blk_cell BK420.out 1).trans rfl, (blk_cell BK420.out 2).trans rfl⟩ (fun hHeld => ?_); refine with_tabW spec_l06Next.tab13 spec_l06Next.bits13 (fun HT_ HW_ => ?_)
       generalize w62.drew = w63 at HO_421002 BK400 BK401 BK420 HI0 HK HB hHeld ⊢
       refine pu_ 1 66 HT_ ?_
       refine pu_ 3 68 HT_ ?_
       refine pu_ 6 71 HT_ ?_
       refine pu_ 8 73 HT_ ?_
       refine ta_ 0 65 HT_ HW_ hHeld ?_
       refine ta_ 2 67 HT_ HW_ hHeld ?_
       refine pu_ 4 69 HT_ ?_
       refine ta_ 5 70 HT_ HW_ hHeld ?_
       refine ta_ 7 72 HT_ HW_ hHeld ?_
       refine pu_ 9 74 HT_ ?_
       refine one_ (i := 10) (N := some 75) #[true, true, true, true, true, true, true, true, true, true, true, false, false] rfl rfl (one_of HT_.out B11x13_) (by decide) (fun K hK => ?_)
       refine goes_ Try.func56 B11x13_ rfl #[.agg #[.int .i64 a1_0, .int .i64 a1_1, .slice Ao61 x421002_2.length co61], .int .i64 (wrap64 (a1_0 + t440))] (by rfl) rfl rfl B11x6_ ?_
       with_reducible refine (spec_LogTerm.calls a1_0 a1_1 _ _ x421002_2 (wrap64 (a1_0 + t440)) t443 _ ?side1 ?side2 A53.out).mono ?_
       (case side1 => exact B11x23_)
       (case side2 => exact (Kd.R_reads' HO_421002.out).2.1)
       rintro e w64 ⟨rfl, hb⟩
       refine ⟨_, rfl, ?_⟩
       replace HO_421002 := Aside0.mk (Kd.R_below B11x8_ hb)
       replace BK400 := Aside0.mk (bb BK400.out hb)
       replace BK401 := Aside0.mk (bb BK401.out hb)
       replace BK420 := Aside0.mk (bb BK420.out hb)
       replace HK := Aside0.mk (KeepBut.trans B11x1_ (KeepBut.of_below hb g none) (.inl rfl))
       replace HB := Aside0.mk (below_step B11x2_ hb)
       replace HI0 := Aside0.mk (IsS107.below B11x0_ hb)
       (try clear hb)
       (try clear hb2)
       (try clear hk)
       (try clear hi)
       refine hK.out _ _ ⟨(blk_cell BK420.out 0).trans rfl, (blk_cell BK420.out 1).trans rfl, (blk_cell BK420.out 2).trans rfl⟩ (fun hHeld => ?_)
       clear hK K
       refine norm_ (a' := ?_) ?_ ?_
       rotate_left
       ·show Act.put _ (some 75) _ = _
        simp only [Act.put, List.setIfInBounds_toArray, List.set_cons_zero, List.set_cons_succ, i64_w, i32_w]
        rfl
       refine one_ (i := 11) (N := some 76) #[true, true, true, true, true, true, true, true, true, true, true, true, false] rfl rfl (one_of HT_.out B11x13_) (by decide) (fun K hK => ?_)
       refine goes_ Try.func86 B11x13_ rfl #[.agg #[.int .i64 a1_0, .int .i64 a1_1, .slice Ao61 x421002_2.length co61], .int .i64 (wrap64 (a1_0 + t440)), .int .i64 t443] (by rfl) rfl rfl B11x6_ ?_
       with_reducible refine (spec_LogBehind.calls k2 a1_0 a1_1 _ _ x421002_2 (wrap64 (a1_0 + t440)) t443 t444 t445 t446 _ ?side1 ?side2 A54.out).mono ?_
       (case side1 => exact B11x23_)
       (case side2 => exact (Kd.R_reads' HO_421002.out).2.1)
       rintro e w65 ⟨v447, rfl, ho0, hb⟩
       refine ⟨_, rfl, ?_⟩
       have HO448 := Aside0.mk (Kd.R_lower (Kd.R_new' ho0 (Kd.R_lt B11x8_)) (keep_size (w := w) (g := g) (row := none) B11x1_))
       replace HO_421002 := Aside0.mk (Kd.R_elder' B11x8_ (Kd.R_base ho0) hb)
       replace BK400 := Aside0.mk (bb BK400.out hb)
       replace BK401 := Aside0.mk (bb BK401.out hb)
       replace BK420 := Aside0.mk (bb BK420.out hb)
       replace HK := Aside0.mk (KeepBut.trans B11x1_ (KeepBut.of_below hb g none) (.inl rfl))
       replace HB := Aside0.mk (below_step B11x2_ hb)
       replace HI0 := Aside0.mk (IsS107.below B11x0_ hb)
       (try clear hb)
       (try clear hb2)
       (try clear hk)
       (try clear hi)
       (try clear ho0)
       obtain ⟨Ao68, co68, eo68⟩ := Kd.R_slice HO448.out
       (first | subst eo68 | (injection eo68 with f1_ f2_ f3_; have f4_ := f1_.symm; have f5_ := f3_.symm; clear f1_ f2_ f3_; subst f4_; subst f5_))
       refine hK.out _ _ ⟨(blk_cell BK420.out 0).trans rfl, (blk_cell BK420.out 1).trans rfl, (blk_cell BK420.out 2).trans rfl⟩ (fun hHeld => ?_)
       clear hK K
       refine norm_ (a' := ?_) ?_ ?_
       rotate_left
       ·show Act.put _ (some 76) _ = _
        simp only [Act.put, List.setIfInBounds_toArray, List.set_cons_zero, List.set_cons_succ, i64_w, i32_w]
        rfl
       refine last_ (i := 12) (N := none) #[true, true, true, true, true, true, true, true, true, true, true, true, true] rfl rfl (one_of HT_.out B11x13_) (by decide) (fun K hK => ?_)
       have hs66 : w65.cell? ⟨gb420, 0, none⟩ = some (.int .i64 a1_0) := (blk_cell BK420.out 0).trans rfl
       have hfs66 := blk_frozen BK420.out 0
       have hns66_0 := NB400_420.out
       have hns66_1 := NB401_420.out
       have hms66_0 := NB420_400.out
       have hms66_1 := NB420_401.out
       have hs67 : w65.cell? ⟨gb420, 1, none⟩ = some (.int .i64 a1_1) := (blk_cell BK420.out 1).trans rfl
       have hfs67 := blk_frozen BK420.out 1
       have hns67_0 := NB400_420.out
       have hns67_1 := NB401_420.out
       have hms67_0 := NB420_400.out
       have hms67_1 := NB420_401.out
       have hs69 : w65.cell? ⟨gb420, 2, none⟩ = some (.slice Ao61 x421002_2.length co61) := (blk_cell BK420.out 2).trans rfl
       have hfs69 := blk_frozen BK420.out 2
       have hns69_0 := NB400_420.out
       have hns69_1 := NB401_420.out
       have hms69_0 := NB420_400.out
       have hms69_1 := NB420_401.out
       refine skip_ (w1 := ?_) (by rfl) rfl ?_ ?_
       rotate_left
       ·go_simp
        rfl
       refine hK.out _ _ ?_
       clear hK K
       refine done_ (done_of HT_.out B11x13_) ?_
       obtain ⟨hcz70_0, hcz70_1, hcz70_2⟩ := cl3 BK420.out
       obtain ⟨hfz70_0, hfz70_1, hfz70_2⟩ := fr3 BK420.out
       have hnb71 := NB401_400.out
       have hnc71 := NB400_401.out
       have hnb72 := NB401_0.out
       have hnc72 := NB0_401.out
       obtain ⟨hcz73_0, hcz73_1, hcz73_2⟩ := cl3 BK401.out
       obtain ⟨hfz73_0, hfz73_1, hfz73_2⟩ := fr3 BK401.out
       try go_wp2
       refine bodyPost_ret (results_cell_row rfl _ _ gb401 26 #[.int .i64 t444, .int .i64 t445, .slice Ao68 t446.length co68] (0, 0) _ rfl B11x12_ Try.underlying26 rfl B11x13_) rfl ?_
       exact ⟨_, by first | rfl | (simp [errW_none, errW_some] <;> rfl) | (simp [*, errW_none, errW_some] <;> rfl), by (with_reducible repeat (first | apply Kd.R_alloc | apply Kd.R_drewN | apply Kd.R_drew)); exact Kd.R_mono (Kd.R_far (p := ⟨gb401, 2, none⟩) (Kd.R_far (p := ⟨gb401, 1, none⟩) (Kd.R_far (p := ⟨gb401, 0, none⟩) (Kd.R_far (p := ⟨gb420, 2, none⟩) (Kd.R_far (p := ⟨gb420, 1, none⟩) (Kd.R_far (p := ⟨gb420, 0, none⟩) (Kd.R_types (Kd.R_types HO448.out BK420.out (by decide)) BK401.out (by decide)) (fun _ hk => hk.1.2) (.int .i64 t444)) (fun _ hk => hk.1.2) (.int .i64 t445)) (fun _ hk => hk.1.2) (.slice Ao68 t446.length co68)) (fun _ hk => hk.2) (.int .i64 t444)) (fun _ hk => hk.2) (.int .i64 t445)) (fun _ hk => hk.2) (.slice Ao68 t446.length co68)) (fun _ hk => trivial), by repeat (first | (with_reducible first | exact HI0.out | apply IsS107.alloc | apply IsS107.drewN | apply IsS107.drew | apply IsS107.set_1 | apply IsS107.set_2 | refine IsS107.far ?_ NB0_400.out _ | refine IsS107.far ?_ NB0_401.out _ | refine IsS107.far ?_ NB0_420.out _) | exact HI0.out), by repeat (first | (with_reducible first | exact HB.out | apply below_alloc | apply pw_below_drewN | apply below_drew1 | refine below_set ?_ (IsS107.ge HI0.out) | refine below_set ?_ GE400.out | refine below_set ?_ GE401.out | refine below_set ?_ GE420.out) | exact HB.out), by repeat (first | (with_reducible first | exact HK.out | apply KeepBut.set_ | apply keep_drewN | apply keep_drew | apply keep_alloc | refine keep_far ?_ GW400.out _ | refine keep_far ?_ GW401.out _ | refine keep_far ?_ GW420.out _) | exact HK.out)⟩
      ·replace c51 := Bool.eq_false_iff.mpr c51
       subst c51
       rw [if_neg (show ¬ (false = true) by decide)] at H
       simp only [Option.some.injEq, Prod.mk.injEq] at H
       obtain ⟨rfl, rfl, rfl, rfl, rfl⟩ := H
       go_wp2_with (first | ((with_reducible refine gate_callee (f := 41) rfl ?_); refine goesL_ (some 37) rfl rfl Try.func41 B11x13_ rfl #[.pointer (some ⟨g, 0, none⟩), .int .i64 4] rfl B11x6_ ?_; (with_reducible refine (spec_l01Below.calls g s0_0 x1001_2 x1002_2 4 t421 t422 t423 w0 _ ?side1 ?side2 A32.out).mono ?_); (case side1 => exact B11x0_); (case side2 => exact B11x2_); rintro e w74 ⟨rfl, hi, hb, hk⟩; refine ⟨_, rfl, ?_⟩; replace HO_421002 := Aside0.mk (Kd.R_mono (Kd.R_keep (IsS107.apart (show IsS107 w0 _ g s0_0 x1001_2 x1002_2 from B11x0_) B11x8_ (by decide)) hk (fun _ h => h.2)) (fun _ h => h.1)); replace BK400 := Aside0.mk (kb hk BK400.out NB400_0.out); replace BK401 := Aside0.mk (kb hk BK401.out NB401_0.out); replace BK420 := Aside0.mk (kb hk BK420.out NB420_0.out); replace HK := Aside0.mk (KeepBut.trans B11x1_ hk (.inl rfl)); replace HB := Aside0.mk (hb); replace HI0 := Aside0.mk (hi); (try clear hb hk hi)) | ((with_reducible refine gate_callee (f := 42) rfl ?_); refine goesL_ (some 58) rfl rfl Try.func42 B11x13_ rfl #[.pointer (some ⟨g, 0, none⟩), .int .i64 4] rfl B11x6_ ?_; (with_reducible refine (spec_l01Once.calls g s0_0 t422 t423 4 false t438 t439 w0 _ ?side1 ?side2 A50.out).mono ?_); (case side1 => exact B11x0_); (case side2 => exact B11x2_); rintro e w75 ⟨rfl, hi, hb, hk⟩; refine ⟨_, rfl, ?_⟩; replace HO_421002 := Aside0.mk (Kd.R_mono (Kd.R_keep (IsS107.apart (show IsS107 w0 _ g s0_0 t422 t423 from B11x0_) B11x8_ (by decide)) hk (fun _ h => h.2)) (fun _ h => h.1)); replace BK400 := Aside0.mk (kb hk BK400.out NB400_0.out); replace BK401 := Aside0.mk (kb hk BK401.out NB401_0.out); replace BK420 := Aside0.mk (kb hk BK420.out NB420_0.out); replace HK := Aside0.mk (KeepBut.trans B11x1_ hk (.inl rfl)); replace HB := Aside0.mk (hb); replace HI0 := Aside0.mk (hi); (try clear hb hk hi); have hnb76 := NB420_400.out; have hnc76 := NB400_420.out; have hnb77 := NB420_401.out; have hnc77 := NB401_420.out; have hnb78 := NB420_0.out; have hnc78 := NB0_420.out; obtain ⟨hcz79_0, hcz79_1, hcz79_2⟩ := cl3 BK420.out; obtain ⟨hfz79_0, hfz79_1, hfz79_2⟩ := fr3 BK420.out; have hnb80 := NB401_400.out; have hnc80 := NB400_401.out; have hnb81 := NB401_0.out; have hnc81 := NB0_401.out; obtain ⟨hcz82_0, hcz82_1, hcz82_2⟩ := cl3 BK401.out; obtain ⟨hfz82_0, hfz82_1, hfz82_2⟩ := fr3 BK401.out; obtain ⟨Ao83, co83, eo83⟩ := Kd.R_slice HO_421002.out; subst eo83))
       refine bodyPost_ret (results_cell_row rfl _ _ gb401 26 #[.int .i64 a1_0, .int .i64 a1_1, .slice Ao83 x421002_2.length co83] (0, 0) _ rfl (by (repeat (with_reducible (first | exact BK401.out | apply blk_drewN | apply blk_drew | apply blk_alloc | apply blk_put))); repeat (first | exact BK401.out | (simp only [List.setIfInBounds_toArray, List.set_cons_zero, List.set_cons_succ]; with_reducible rfl) | rfl)) Try.underlying26 rfl B11x13_) rfl ?_
       exact ⟨_, by first | rfl | (simp [errW_none, errW_some] <;> rfl) | (simp [*, errW_none, errW_some] <;> rfl), by (with_reducible repeat (first | apply Kd.R_alloc | apply Kd.R_drewN | apply Kd.R_drew)); exact Kd.R_mono (Kd.R_far (p := ⟨gb401, 2, none⟩) (Kd.R_far (p := ⟨gb401, 1, none⟩) (Kd.R_far (p := ⟨gb401, 0, none⟩) (Kd.R_types HO_421002.out BK401.out (by decide)) (fun _ hk => hk.2) (.int .i64 a1_0)) (fun _ hk => hk.2) (.int .i64 a1_1)) (fun _ hk => hk.2) (.slice Ao83 x421002_2.length co83)) (fun _ hk => trivial), by repeat (first | (with_reducible first | exact HI0.out | apply IsS107.alloc | apply IsS107.drewN | apply IsS107.drew | apply IsS107.set_1 | apply IsS107.set_2 | refine IsS107.far ?_ NB0_400.out _ | refine IsS107.far ?_ NB0_401.out _ | refine IsS107.far ?_ NB0_420.out _) | exact HI0.out), by repeat (first | (with_reducible first | exact HB.out | apply below_alloc | apply pw_below_drewN | apply below_drew1 | refine below_set ?_ (IsS107.ge HI0.out) | refine below_set ?_ GE400.out | refine below_set ?_ GE401.out | refine below_set ?_ GE420.out) | exact HB.out), by repeat (first | (with_reducible first | exact HK.out | apply KeepBut.set_ | apply keep_drewN | apply keep_drew | apply keep_alloc | refine keep_far ?_ GW400.out _ | refine keep_far ?_ GW401.out _ | refine keep_far ?_ GW420.out _) | exact HK.out)⟩

end Go.Proofs.Ytgffdijodnpolaa.QFnLogs
