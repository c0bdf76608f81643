/- Functions that a law reaches, as functions of Lean, and the walks that show that the calls come to their answers: written by a program of this project out of the translation. No condition. -/
import Derived.Test.YtgffdijodnpolaaQFnLogsx0
import Derived.Test.YtgffdijodnpolaaQFnLogsx2
import Derived.Test.YtgffdijodnpolaaQFnLogsx4
import Derived.Test.YtgffdijodnpolaaQFnLogsx5
import Derived.Test.YtgffdijodnpolaaQFnLogsx7
import Derived.Test.YtgffdijodnpolaaVFnLogsShort4
import Derived.Test.YtgffdijodnpolaaVFnLogshort3
import Derived.Test.YtgffdijodnpolaaVFnLogsShort2
import Derived.Test.YtgffdijodnpolaaVFnLogsShort
namespace Go.Proofs.Ytgffdijodnpolaa.QFnLogs
open Go.RowKit Go.Proofs.YtgffdijodnpolaaW.PrintWords Go.Proofs.YtgffdijodnpolaaW.PrintLast Go.Proofs.YtgffdijodnpolaaW.PrintMore Go.Proofs.Ytgffdijodnpolaa.Short
attribute [local go_sem] max2_int min2_int max_two min_two max_three min_three max_four min_four   -- for this text's walks alone
set_option linter.unusedVariables false
set_option linter.unusedSimpArgs false

theorem B8x0_ {p : Prop} (h : p := by repeat (first | (with_reducible first | exact HI0.out | apply IsS107.alloc | apply IsS107.drewN | apply IsS107.drew | apply IsS107.set_1 | apply IsS107.set_2 | refine IsS107.far ?_ NB0_308.out _ | refine IsS107.far ?_ NB0_318.out _) | exact HI0.out)) : p := h
theorem B8x1_ {p : Prop} (h : p := by repeat (first | (with_reducible first | exact HK.out | apply KeepBut.set_ | apply keep_drewN | apply keep_drew | apply keep_alloc | refine keep_far ?_ GW308.out _ | refine keep_far ?_ GW318.out _) | exact HK.out)) : p := h
theorem B8x2_ {p : Prop} (h : p := by repeat (first | (with_reducible first | exact HB.out | apply below_alloc | apply pw_below_drewN | apply below_drew1 | refine below_set ?_ (IsS107.ge HI0.out) | refine below_set ?_ GE308.out | refine below_set ?_ GE318.out) | exact HB.out)) : p := h
theorem B8x3_ {p : Prop} (h : p := by (try simp only [List.map_toArray, List.map_cons, List.map_nil]); first | done | rfl | (simp only [List.length_drop, List.length_take]; rfl)) : p := h
theorem B8x4_ {p : Prop} (h : p := by repeat (first | (with_reducible first | exact HI0.out | apply IsS107.alloc | apply IsS107.drewN | apply IsS107.drew | apply IsS107.set_1 | apply IsS107.set_2 | refine IsS107.far ?_ NB0_283.out _) | exact HI0.out)) : p := h
theorem B8x5_ {p : Prop} (h : p := by repeat (first | (with_reducible first | exact HI0.out | apply IsS107.alloc | apply IsS107.drewN | apply IsS107.drew | apply IsS107.set_1 | apply IsS107.set_2 | refine IsS107.far ?_ NB0_283.out _ | refine IsS107.far ?_ NB0_290.out _) | exact HI0.out)) : p := h
theorem B8x6_ {p : Prop} (h : p := by repeat (first | (with_reducible first | exact HK.out | apply KeepBut.set_ | apply keep_drewN | apply keep_drew | apply keep_alloc | refine keep_far ?_ GW283.out _) | exact HK.out)) : p := h
theorem B8x7_ {p : Prop} (h : p := by repeat (first | (with_reducible first | exact HB.out | apply below_alloc | apply pw_below_drewN | apply below_drew1 | refine below_set ?_ (IsS107.ge HI0.out) | refine below_set ?_ GE283.out) | exact HB.out)) : p := h
theorem B8x8_ {p : Prop} (h : p := by repeat (first | (with_reducible first | exact HK.out | apply KeepBut.set_ | apply keep_drewN | apply keep_drew | apply keep_alloc | refine keep_far ?_ GW283.out _ | refine keep_far ?_ GW290.out _) | exact HK.out)) : p := h
theorem B8x9_ {p : Prop} (h : p := by repeat (first | (with_reducible first | exact HB.out | apply below_alloc | apply pw_below_drewN | apply below_drew1 | refine below_set ?_ (IsS107.ge HI0.out) | refine below_set ?_ GE283.out | refine below_set ?_ GE290.out) | exact HB.out)) : p := h
theorem B8x10_ {p : Prop} (h : p := by repeat (first | (with_reducible first | exact HB.out | apply below_alloc | apply pw_below_drewN | apply below_drew1) | exact HB.out)) : p := h
theorem B8x11_ {p : Prop} (h : p := by (repeat (with_reducible (first | exact BK283.out | apply blk_drewN | apply blk_drew | apply blk_alloc | apply blk_put | apply bf NB283_290.out))); repeat (first | exact BK283.out | (simp only [List.setIfInBounds_toArray, List.set_cons_zero, List.set_cons_succ]; with_reducible rfl) | rfl)) : p := h
theorem B8x12_ {p : Prop} (h : p := by (with_reducible repeat (first | apply Kd.R_alloc | apply Kd.R_drewN | apply Kd.R_drew)); exact HO_319002.out) : p := h
theorem B8x13_ {p : Prop} (h : p := by first | (go_simp; done) | (go_simp; rfl)) : p := h
theorem B8x14_ {p : Prop} (h : p := by repeat (first | (with_reducible first | exact HB.out | apply below_alloc | apply pw_below_drewN | apply below_drew1 | refine below_set ?_ GE347.out) | exact HB.out)) : p := h
theorem B8x15_ {p : Prop} (h : p := by (with_reducible repeat (first | apply Kd.R_alloc | apply Kd.R_drewN | apply Kd.R_drew)); exact (Kd.R_mono (Kd.R_far (p := ⟨gb290, 2, none⟩) (Kd.R_far (p := ⟨gb290, 1, none⟩) (Kd.R_far (p := ⟨gb290, 0, none⟩) (Kd.R_types HO286.out BK290.out (by decide)) (fun _ hk => hk.2) (.int .i64 a1)) (fun _ hk => hk.2) (.int .i64 t287)) (fun _ hk => hk.2) (.string (⟨#[]⟩ : ByteArray))) (fun _ h_ => h_.1))) : p := h
theorem B8x16_ {p : Prop} (h : p := by (with_reducible repeat (first | apply Kd.R_alloc | apply Kd.R_drewN | apply Kd.R_drew)); exact HO286.out) : p := h
theorem B8x17_ {p : Prop} (h : p := by exact (Reps.one (show Kd.M (Kd.int .i64) _ _ _ 1 [.int .i64 1] from rfl) (Reps.one (show Kd.M (Kd.int .i64) _ _ _ 2 [.int .i64 2] from rfl) (Reps.one (show Kd.M (Kd.int .i64) _ _ _ 3 [.int .i64 3] from rfl) (Reps.one (show Kd.M (Kd.int .i64) _ _ _ 3 [.int .i64 3] from rfl) (Reps.one (show Kd.M (Kd.int .i64) _ _ _ 3 [.int .i64 3] from rfl) (Reps.none _ _))))))) : p := h
theorem B8x18_ {p : Prop} (h : p := by first | rfl | (simp [errW_none, errW_some] <;> rfl) | (simp [*, errW_none, errW_some] <;> rfl)) : p := h
theorem B8x19_ {p : Prop} (h : p := by repeat (first | (with_reducible first | exact HI0.out | apply IsS107.alloc | apply IsS107.drewN | apply IsS107.drew | apply IsS107.set_1 | apply IsS107.set_2 | refine IsS107.far ?_ NB0_308.out _) | exact HI0.out)) : p := h
theorem B8x20_ {p : Prop} (h : p := by repeat (first | (with_reducible first | exact HB.out | apply below_alloc | apply pw_below_drewN | apply below_drew1 | refine below_set ?_ (IsS107.ge HI0.out) | refine below_set ?_ GE308.out) | exact HB.out)) : p := h
theorem B8x21_ {p : Prop} (h : p := by (repeat (with_reducible (first | exact BK308.out | apply blk_drewN | apply blk_drew | apply blk_alloc | apply blk_put | apply bf NB308_318.out))); repeat (first | exact BK308.out | (simp only [List.setIfInBounds_toArray, List.set_cons_zero, List.set_cons_succ]; with_reducible rfl) | rfl)) : p := h
theorem B8x22_ {p : Prop} (h : p := by repeat (first | (with_reducible first | exact HK.out | apply KeepBut.set_ | apply keep_drewN | apply keep_drew | apply keep_alloc | refine keep_far ?_ GW308.out _) | exact HK.out)) : p := h
theorem B8x23_ {p : Prop} (h : p := by (repeat (with_reducible (first | exact BK318.out | apply blk_drewN | apply blk_drew | apply blk_alloc | apply blk_put))); repeat (first | exact BK318.out | (simp only [List.setIfInBounds_toArray, List.set_cons_zero, List.set_cons_succ]; with_reducible rfl) | rfl)) : p := h
theorem B8x24_ {p : Prop} (h : p := by repeat (first | (with_reducible first | exact HI0.out | apply IsS107.alloc | apply IsS107.drewN | apply IsS107.drew | apply IsS107.set_1 | apply IsS107.set_2) | exact HI0.out)) : p := h
theorem B8x25_ {p : Prop} (h : p := by repeat (first | (with_reducible first | exact HB.out | apply below_alloc | apply pw_below_drewN | apply below_drew1 | refine below_set ?_ (IsS107.ge HI0.out)) | exact HB.out)) : p := h
theorem B8x26_ {p : Prop} (h : p := by repeat (first | (with_reducible first | exact HK.out | apply KeepBut.set_ | apply keep_drewN | apply keep_drew | apply keep_alloc) | exact HK.out)) : p := h
theorem B8x27_ {p : Prop} (h : p := by kernel_rfl) : p := h
theorem B8x28_ {p : Prop} (h : p := by repeat (first | exact (Kd.R_reads' HO286.out).2.2 | (with_reducible refine Kd.C_alloc ?_ _) | (with_reducible refine Kd.C_drewN ?_ _) | (with_reducible refine Kd.C_drew ?_))) : p := h
theorem B8x29_ {p : Prop} (h : p := by first | (with_reducible assumption) | assumption) : p := h
theorem B8x30_ {p : Prop} (h : p := by (repeat (with_reducible (first | exact BK290.out | apply blk_drewN | apply blk_drew | apply blk_alloc | apply blk_put))); repeat (first | exact BK290.out | (simp only [List.setIfInBounds_toArray, List.set_cons_zero, List.set_cons_succ]; with_reducible rfl) | rfl)) : p := h
theorem B8x31_ {p : Prop} (h : p := by repeat (first | exact (Kd.C_below HR0_2.out HB.out) | (with_reducible refine Kd.C_alloc ?_ _) | (with_reducible refine Kd.C_drewN ?_ _) | (with_reducible refine Kd.C_drew ?_))) : p := h
theorem B8x32_ {p : Prop} (h : p := by repeat (first | (with_reducible first | exact HB.out | apply below_alloc | apply pw_below_drewN | apply below_drew1 | refine below_set ?_ GE344.out) | exact HB.out)) : p := h
theorem B8x33_ {p : Prop} (h : p := by exact far_slice (IsS107.own_ne HI0.out HO286.out (by decide))) : p := h
theorem B8x34_ {p : Prop} (h : p := by (with_reducible repeat (first | refine blk_drewN ?_ _ | refine blk_drew ?_ | refine blk_alloc ?_ _)); exact BK308.out) : p := h
theorem B8x35_ {p : Prop} (h : p := by (with_reducible repeat (first | refine blk_drewN ?_ _ | refine blk_drew ?_ | refine blk_alloc ?_ _)); exact BK318.out) : p := h
theorem B8x36_ {p : Prop} (h : p := by exact (keep_size (w := w) (g := g) (row := none) B8x1_)) : p := h
/-! ### spec_l05Right: function 40 -/
def spec_l05Right.f (k : Nat) (s0_0 : List Int) (s0_1 : Int) (s0_2 : Int) (a1 : Int) : Option (Int × Int × ByteArray × Int × Int) := (spec_l01PickInt.f s0_0 s0_1 s0_2 (([1, 2, 3, 3, 3] : List Int))).bind fun bt287 => (if bt287.1 = 2 then ((spec_l05Conf.f k s0_0 bt287.2.1 bt287.2.2).bind fun bt291 => ((spec_ConfText.f k bt291.1).bind fun bt296 => (some (a1, bt287.1, bt296.1, bt291.2.1, bt291.2.2)))) else (if bt287.1 = 3 then ((spec_l16Right.f k s0_0 bt287.2.1 bt287.2.2).bind fun bt298 => ((spec_CommandText.f k bt298.1 bt298.2.1 bt298.2.2.1 bt298.2.2.2.1 bt298.2.2.2.2.1 bt298.2.2.2.2.2.1).bind fun bt306 => (some (a1, bt287.1, bt306.1, bt298.2.2.2.2.2.2.1, bt298.2.2.2.2.2.2.2)))) else (some (a1, bt287.1, (⟨#[]⟩ : ByteArray), bt287.2.1, bt287.2.2))))
theorem spec_l05Right.mono : ∀ a0 a1 a2 a3 k, LeO (spec_l05Right.f k a0 a1 a2 a3) (spec_l05Right.f (k + 1) a0 a1 a2 a3) := by
 intro a0 a1 a2 a3 k
 unfold spec_l05Right.f
 repeat' first
   | (with_reducible exact spec_CommandText.mono _ _ _ _ _ _ _)
   | (with_reducible exact spec_ConfText.mono _ _)
   | (with_reducible exact spec_l05Conf.mono _ _ _ _)
   | (with_reducible exact spec_l16Right.mono _ _ _ _)
   | (with_reducible first | exact LeO.refl _ | exact LeO.none _ | refine LeO.ite ?_ ?_ | refine LeO.bind ?_ (fun _ => ?_))
   | exact spec_CommandText.mono _ _ _ _ _ _ _
   | exact spec_ConfText.mono _ _
   | exact spec_l05Conf.mono _ _ _ _
   | exact spec_l16Right.mono _ _ _ _
set_option maxHeartbeats 8000000 in
set_option maxRecDepth 100000 in
theorem spec_l05Right.calls (k : Nat) (g : Nat) (s0_0 : List Int) (s0_1 : Int) (s0_2 : Int) (a1 : Int) (r1 : Int) (r2 : Int) (r3 : ByteArray) (r4 : Int) (r5 : Int) (w0 w : World) (hI : IsS107 w0 w g s0_0 s0_1 s0_2) (hB : Below w0.heap.size w0 w) (h : spec_l05Right.f k s0_0 s0_1 s0_2 a1 = some (r1, r2, r3, r4, r5)) :
  Calls Try.prog 40 #[.pointer (some ⟨g, 0, none⟩), .int .i64 a1] w fun e w' => e = .returned (.agg #[.int .i64 r1, .int .i64 r2, .string r3]) ∧ IsS107 w0 w' g s0_0 r4 r5 ∧ Below w0.heap.size w0 w' ∧ KeepBut w w' g none := by
 have hu28 := Try.underlying28
 have HI0 := Aside0.mk hI
 have HK := Aside0.mk (KeepBut.refl w g none)
 have HL := Aside0.mk hB.size
 clear hI
 have HW0 := Aside0.mk hB.size
 have HB := Aside0.mk hB
 clear hB
 have H : ((spec_l01PickInt.f s0_0 s0_1 s0_2 (([1, 2, 3, 3, 3] : List Int))).bind fun bt287 => (if bt287.1 = 2 then ((spec_l05Conf.f k s0_0 bt287.2.1 bt287.2.2).bind fun bt291 => ((spec_ConfText.f k bt291.1).bind fun bt296 => (some (a1, bt287.1, bt296.1, bt291.2.1, bt291.2.2)))) else (if bt287.1 = 3 then ((spec_l16Right.f k s0_0 bt287.2.1 bt287.2.2).bind fun bt298 => ((spec_CommandText.f k bt298.1 bt298.2.1 bt298.2.2.1 bt298.2.2.2.1 bt298.2.2.2.2.1 bt298.2.2.2.2.2.1).bind fun bt306 => (some (a1, bt287.1, bt306.1, bt298.2.2.2.2.2.2.1, bt298.2.2.2.2.2.2.2)))) else (some (a1, bt287.1, (⟨#[]⟩ : ByteArray), bt287.2.1, bt287.2.2))))) = some (r1, r2, r3, r4, r5) := h
 clear h
 obtain ⟨y284, hy284⟩ : ∃ y_ : List Int, y_ = (([1, 2, 3, 3, 3] : List Int)) := ⟨_, rfl⟩
 replace H : ((spec_l01PickInt.f s0_0 s0_1 s0_2 y284).bind fun bt287 => (if bt287.1 = 2 then ((spec_l05Conf.f k s0_0 bt287.2.1 bt287.2.2).bind fun bt291 => ((spec_ConfText.f k bt291.1).bind fun bt296 => (some (a1, bt287.1, bt296.1, bt291.2.1, bt291.2.2)))) else (if bt287.1 = 3 then ((spec_l16Right.f k s0_0 bt287.2.1 bt287.2.2).bind fun bt298 => ((spec_CommandText.f k bt298.1 bt298.2.1 bt298.2.2.1 bt298.2.2.2.1 bt298.2.2.2.2.1 bt298.2.2.2.2.2.1).bind fun bt306 => (some (a1, bt287.1, bt306.1, bt298.2.2.2.2.2.2.1, bt298.2.2.2.2.2.2.2)))) else (some (a1, bt287.1, (⟨#[]⟩ : ByteArray), bt287.2.1, bt287.2.2))))) = some (r1, r2, r3, r4, r5) := by first | (rw [hy284]; with_reducible exact H) | (have H2_ := (Option.bind_some _ _).symm.trans H; rw [hy284]; with_reducible exact H2_) | (have H2_ := (Option.bind_some _ _).symm.trans H; with_reducible exact H2_) | with_reducible exact H | (rw [hy284]; exact H) | exact H
 have Ny284 := Aside0.mk hy284
 clear hy284
 replace H := bsi H
 obtain ⟨⟨t287, t288, t289⟩, A3, H⟩ := H
 (try dsimp only at H)
 by_cases c4 : t287 = 2
 ·rw [if_pos c4] at H
  have c4b0 := beq_iff_eq.mpr c4
  have c4b1 := bne_eq_false_iff_eq.mpr c4
  clear c4
  replace H := bsi H
  obtain ⟨⟨t291, t294, t295⟩, A5, H⟩ := H
  (try dsimp only at H)
  replace H := bsi H
  obtain ⟨⟨t296, t297⟩, A6, H⟩ := H
  (try dsimp only at H)
  simp only [Option.some.injEq, Prod.mk.injEq] at H
  obtain ⟨rfl, rfl, rfl, rfl, rfl⟩ := H
  go_enter Try.func40, Try.ntmps40
  go_wp2_with (first | ((with_reducible refine gate_dst (N := 4) rfl ?_); refine box_event ?hg (N := 4) ?hd (cs := #[.int .i64 0, .int .i64 0, .string (⟨#[]⟩ : ByteArray)]) (t := 28) ?hr ?_; (case hd => rfl); (case hg => rfl); (case hr => exact B8x13_); intro gb283 hg w7 hbox hb; replace HB := Aside0.mk (below_step B8x25_ hb); have BK283 := Aside0.mk (hbox); have GW283 := Aside0.mk ((bs hg (keep_size HK.out))); have GE283 := Aside0.mk ((Nat.le_trans HW0.out (bs hg (keep_size HK.out)) : w0.heap.size ≤ gb283)); replace HK := Aside0.mk (KeepBut.trans B8x26_ (KeepBut.of_below hb g none) (.inl rfl)); have NB0_283 := Aside0.mk ((nl hg (IsS107.lt HI0.out))); have NB283_0 := Aside0.mk ((ng hg (IsS107.lt HI0.out))); replace HI0 := Aside0.mk (IsS107.below B8x24_ hb); clear hb hbox hg) | ((with_reducible refine gate_dst (N := 8) rfl ?_); refine Kd.R_lit (Kd.int .i64) _ 3 ?hg (N := 8) ?hd (xs := ([1, 2, 3, 3, 3] : List Int)) (inner := [.int .i64 1, .int .i64 2, .int .i64 3, .int .i64 3, .int .i64 3]) (ok := fun _ => True) (okp := fun _ => True) ?hr ?hp (fun _ hk => hk) trivial (Below.refl _ _) (Nat.le_refl _) (by simp) ?_; (case hd => rfl); (case hg => rfl); (case hr => exact B8x13_); (case hp => exact B8x17_); intro v285 w8 ho9 hb hg_ hnew_; clear hg_ hnew_; (first | rw [← Ny284.out] at ho9 | (simp only [Int.reduceToNat] at ho9; rw [← Ny284.out] at ho9)); have HO286 := Aside0.mk (Kd.R_lower ho9 (keep_size (w := w) (g := g) (row := none) B8x6_)); replace BK283 := Aside0.mk (bb BK283.out hb); replace HK := Aside0.mk (KeepBut.trans B8x6_ (KeepBut.of_below hb g none) (.inl rfl)); replace HB := Aside0.mk (below_step B8x7_ hb); replace HI0 := Aside0.mk (IsS107.below B8x4_ hb); clear hb ho9; obtain ⟨Ao10, co10, eo10⟩ := Kd.R_slice HO286.out; subst eo10) | ((with_reducible refine gate_callee (f := 80) rfl ?_); refine goesL_ (some 9) rfl rfl Try.func80 B8x27_ rfl #[.pointer (some ⟨g, 0, none⟩), .slice Ao10 y284.length co10] rfl B8x3_ ?_; (with_reducible refine (spec_l01PickInt.calls g s0_0 s0_1 s0_2 _ _ y284 t287 t288 t289 w0 _ ?side1 ?side2 ?side3 ?side4 ?side5 A3.out).mono ?_); (case side1 => exact B8x4_); (case side2 => exact B8x7_); (case side3 => exact B8x28_); (case side4 => exact (Kd.R_reads' HO286.out).2.1); (case side5 => exact B8x33_); rintro e w11 ⟨rfl, hi, hb, hk⟩; refine ⟨_, rfl, ?_⟩; replace BK283 := Aside0.mk (kb hk BK283.out NB283_0.out); replace HO286 := Aside0.mk (Kd.R_mono (Kd.R_keep (IsS107.apart (show IsS107 w0 _ g s0_0 s0_1 s0_2 from B8x4_) B8x16_ (by decide)) hk (fun _ h => h.2)) (fun _ h => h.1)); replace HK := Aside0.mk (KeepBut.trans B8x6_ hk (.inl rfl)); replace HB := Aside0.mk (hb); replace HI0 := Aside0.mk (hi); (try clear hb hk hi)) | ((with_reducible refine gate_dst (N := 5) rfl ?_); refine box_event ?hg (N := 5) ?hd (cs := #[.int .i64 0, .int .i64 0, .string (⟨#[]⟩ : ByteArray)]) (t := 28) ?hr ?_; (case hd => rfl); (case hg => rfl); (case hr => exact B8x13_); intro gb290 hg w12 hbox hb; replace HO286 := Aside0.mk (Kd.R_below B8x16_ hb); replace HB := Aside0.mk (below_step B8x7_ hb); have BK290 := Aside0.mk (hbox); have GW290 := Aside0.mk ((bs hg (keep_size HK.out))); have GE290 := Aside0.mk ((Nat.le_trans HW0.out (bs hg (keep_size HK.out)) : w0.heap.size ≤ gb290)); replace HK := Aside0.mk (KeepBut.trans B8x6_ (KeepBut.of_below hb g none) (.inl rfl)); have NB283_290 := Aside0.mk ((nl hg (blk_lt BK283.out))); have NB290_283 := Aside0.mk ((ng hg (blk_lt BK283.out))); replace BK283 := Aside0.mk (bb BK283.out hb); have NB0_290 := Aside0.mk ((nl hg (IsS107.lt HI0.out))); have NB290_0 := Aside0.mk ((ng hg (IsS107.lt HI0.out))); replace HI0 := Aside0.mk (IsS107.below B8x4_ hb); clear hb hbox hg; have hnb13 := NB290_283.out; have hnc13 := NB283_290.out; have hnb14 := NB290_0.out; have hnc14 := NB0_290.out; obtain ⟨hcz15_0, hcz15_1, hcz15_2⟩ := cl3 BK290.out; obtain ⟨hfz15_0, hfz15_1, hfz15_2⟩ := fr3 BK290.out) | ((with_reducible refine gate_callee (f := 83) rfl ?_); refine goesL_ (some 17) rfl rfl Try.func83 B8x27_ rfl #[.pointer (some ⟨g, 0, none⟩)] rfl B8x3_ ?_; (with_reducible refine (spec_l05Conf.calls k g s0_0 t288 t289 t291 t294 t295 w0 _ ?side1 ?side2 A5.out).mono ?_); (case side1 => exact B8x5_); (case side2 => exact B8x9_); rintro e w16 ⟨v292, rfl, ho0, hi, hb, hk⟩; refine ⟨_, rfl, ?_⟩; replace BK283 := Aside0.mk (KeepBut.blk hk (g' := gb283) (o := .cells #[.int .i64 0, .int .i64 0, .string (⟨#[]⟩ : ByteArray)] 28 (0, 0)) B8x11_ NB283_0.out (by simp)); have HO293 := Aside0.mk (Kd.R_lower (Kd.R_new' ho0 (Kd.R_lt B8x15_)) (keep_size (w := w) (g := g) (row := none) B8x8_)); replace HO286 := Aside0.mk (Kd.R_mono (Kd.R_told (Kd.R_oldK (IsS107.apart (show IsS107 w0 _ g s0_0 t288 t289 from B8x5_) B8x15_ (by decide)) hk) (Kd.R_base ho0)) (fun _ h_ => h_.1)); replace BK290 := Aside0.mk (KeepBut.blk hk (g' := gb290) (o := .cells #[.int .i64 a1, .int .i64 t287, .string (⟨#[]⟩ : ByteArray)] 28 (0, 0)) B8x30_ NB290_0.out (by simp)); replace HK := Aside0.mk (KeepBut.trans B8x8_ hk (.inl rfl)); replace HB := Aside0.mk (hb); replace HI0 := Aside0.mk (hi); (try clear hb hk hi); (try clear ho0); obtain ⟨Ao17, co17, eo17⟩ := Kd.R_slice HO293.out; subst eo17) | ((with_reducible refine gate_callee (f := 82) rfl ?_); refine goesL_ (some 18) rfl rfl Try.func82 B8x27_ rfl #[.slice Ao17 t291.length co17] rfl B8x3_ ?_; (with_reducible refine (spec_ConfText.calls k _ _ t291 t296 t297 _ ?side1 ?side2 A6.out).mono ?_); (case side1 => repeat (first | exact (Kd.R_reads' HO293.out).2.2 | (with_reducible refine Kd.C_alloc ?_ _) | (with_reducible refine Kd.C_drewN ?_ _) | (with_reducible refine Kd.C_drew ?_))); (case side2 => exact (Kd.R_reads' HO293.out).2.1); rintro e w18 ⟨rfl, hb⟩; refine ⟨_, rfl, ?_⟩; replace HO286 := Aside0.mk (Kd.R_below B8x16_ hb); replace HO293 := Aside0.mk (Kd.R_below (by (with_reducible repeat (first | apply Kd.R_alloc | apply Kd.R_drewN | apply Kd.R_drew)); exact HO293.out) hb); replace BK283 := Aside0.mk (bb BK283.out hb); replace BK290 := Aside0.mk (bb BK290.out hb); replace HK := Aside0.mk (KeepBut.trans B8x8_ (KeepBut.of_below hb g none) (.inl rfl)); replace HB := Aside0.mk (below_step B8x9_ hb); replace HI0 := Aside0.mk (IsS107.below B8x5_ hb); (try clear hb); obtain ⟨hcz19_0, hcz19_1, hcz19_2⟩ := cl3 BK290.out; obtain ⟨hfz19_0, hfz19_1, hfz19_2⟩ := fr3 BK290.out; have hnb20 := NB283_0.out; have hnc20 := NB0_283.out; obtain ⟨hcz21_0, hcz21_1, hcz21_2⟩ := cl3 BK283.out; obtain ⟨hfz21_0, hfz21_1, hfz21_2⟩ := fr3 BK283.out))
  refine bodyPost_ret (results_cell_row rfl _ _ gb283 28 #[.int .i64 a1, .int .i64 t287, .string t296] (0, 0) _ rfl B8x11_ Try.underlying28 rfl B8x27_) rfl ?_
  exact ⟨B8x18_, B8x5_, B8x9_, B8x8_⟩
 ·rw [if_neg c4] at H
  have c4b0 := beq_eq_false_iff_ne.mpr c4
  have c4b1 := bne_iff_ne.mpr c4
  by_cases c22 : t287 = 3
  ·rw [if_pos c22] at H
   have c22b0 := beq_iff_eq.mpr c22
   have c22b1 := bne_eq_false_iff_eq.mpr c22
   clear c22
   replace H := bsi H
   obtain ⟨⟨t298, t299, t300, t301, t302, t303, t304, t305⟩, A23, H⟩ := H
   (try dsimp only at H)
   replace H := bsi H
   obtain ⟨⟨t306, t307⟩, A24, H⟩ := H
   (try dsimp only at H)
   simp only [Option.some.injEq, Prod.mk.injEq] at H
   obtain ⟨rfl, rfl, rfl, rfl, rfl⟩ := H
   go_enter Try.func40, Try.ntmps40
   go_wp2_with (first | ((with_reducible refine gate_dst (N := 4) rfl ?_); refine box_event ?hg (N := 4) ?hd (cs := #[.int .i64 0, .int .i64 0, .string (⟨#[]⟩ : ByteArray)]) (t := 28) ?hr ?_; (case hd => rfl); (case hg => rfl); (case hr => exact B8x13_); intro gb283 hg w25 hbox hb; replace HB := Aside0.mk (below_step B8x25_ hb); have BK283 := Aside0.mk (hbox); have GW283 := Aside0.mk ((bs hg (keep_size HK.out))); have GE283 := Aside0.mk ((Nat.le_trans HW0.out (bs hg (keep_size HK.out)) : w0.heap.size ≤ gb283)); replace HK := Aside0.mk (KeepBut.trans B8x26_ (KeepBut.of_below hb g none) (.inl rfl)); have NB0_283 := Aside0.mk ((nl hg (IsS107.lt HI0.out))); have NB283_0 := Aside0.mk ((ng hg (IsS107.lt HI0.out))); replace HI0 := Aside0.mk (IsS107.below B8x24_ hb); clear hb hbox hg) | ((with_reducible refine gate_dst (N := 8) rfl ?_); refine Kd.R_lit (Kd.int .i64) _ 3 ?hg (N := 8) ?hd (xs := ([1, 2, 3, 3, 3] : List Int)) (inner := [.int .i64 1, .int .i64 2, .int .i64 3, .int .i64 3, .int .i64 3]) (ok := fun _ => True) (okp := fun _ => True) ?hr ?hp (fun _ hk => hk) trivial (Below.refl _ _) (Nat.le_refl _) (by simp) ?_; (case hd => rfl); (case hg => rfl); (case hr => exact B8x13_); (case hp => exact B8x17_); intro v285 w26 ho27 hb hg_ hnew_; clear hg_ hnew_; (first | rw [← Ny284.out] at ho27 | (simp only [Int.reduceToNat] at ho27; rw [← Ny284.out] at ho27)); have HO286 := Aside0.mk (Kd.R_lower ho27 (keep_size (w := w) (g := g) (row := none) B8x6_)); replace BK283 := Aside0.mk (bb BK283.out hb); replace HK := Aside0.mk (KeepBut.trans B8x6_ (KeepBut.of_below hb g none) (.inl rfl)); replace HB := Aside0.mk (below_step B8x7_ hb); replace HI0 := Aside0.mk (IsS107.below B8x4_ hb); clear hb ho27; obtain ⟨Ao28, co28, eo28⟩ := Kd.R_slice HO286.out; subst eo28) | ((with_reducible refine gate_callee (f := 80) rfl ?_); refine goesL_ (some 9) rfl rfl Try.func80 B8x27_ rfl #[.pointer (some ⟨g, 0, none⟩), .slice Ao28 y284.length co28] rfl B8x3_ ?_; (with_reducible refine (spec_l01PickInt.calls g s0_0 s0_1 s0_2 _ _ y284 t287 t288 t289 w0 _ ?side1 ?side2 ?side3 ?side4 ?side5 A3.out).mono ?_); (case side1 => exact B8x4_); (case side2 => exact B8x7_); (case side3 => exact B8x28_); (case side4 => exact (Kd.R_reads' HO286.out).2.1); (case side5 => exact B8x33_); rintro e w29 ⟨rfl, hi, hb, hk⟩; refine ⟨_, rfl, ?_⟩; replace BK283 := Aside0.mk (kb hk BK283.out NB283_0.out); replace HO286 := Aside0.mk (Kd.R_mono (Kd.R_keep (IsS107.apart (show IsS107 w0 _ g s0_0 s0_1 s0_2 from B8x4_) B8x16_ (by decide)) hk (fun _ h => h.2)) (fun _ h => h.1)); replace HK := Aside0.mk (KeepBut.trans B8x6_ hk (.inl rfl)); replace HB := Aside0.mk (hb); replace HI0 := Aside0.mk (hi); (try clear hb hk hi)) | ((with_reducible refine gate_dst (N := 5) rfl ?_); refine box_event ?hg (N := 5) ?hd (cs := #[.int .i64 0, .int .i64 0, .string (⟨#[]⟩ : ByteArray)]) (t := 28) ?hr ?_; (case hd => rfl); (case hg => rfl); (case hr => exact B8x13_); intro gb290 hg w30 hbox hb; replace HO286 := Aside0.mk (Kd.R_below B8x16_ hb); replace HB := Aside0.mk (below_step B8x7_ hb); have BK290 := Aside0.mk (hbox); have GW290 := Aside0.mk ((bs hg (keep_size HK.out))); have GE290 := Aside0.mk ((Nat.le_trans HW0.out (bs hg (keep_size HK.out)) : w0.heap.size ≤ gb290)); replace HK := Aside0.mk (KeepBut.trans B8x6_ (KeepBut.of_below hb g none) (.inl rfl)); have NB283_290 := Aside0.mk ((nl hg (blk_lt BK283.out))); have NB290_283 := Aside0.mk ((ng hg (blk_lt BK283.out))); replace BK283 := Aside0.mk (bb BK283.out hb); have NB0_290 := Aside0.mk ((nl hg (IsS107.lt HI0.out))); have NB290_0 := Aside0.mk ((ng hg (IsS107.lt HI0.out))); replace HI0 := Aside0.mk (IsS107.below B8x4_ hb); clear hb hbox hg; have hnb31 := NB290_283.out; have hnc31 := NB283_290.out; have hnb32 := NB290_0.out; have hnc32 := NB0_290.out; obtain ⟨hcz33_0, hcz33_1, hcz33_2⟩ := cl3 BK290.out; obtain ⟨hfz33_0, hfz33_1, hfz33_2⟩ := fr3 BK290.out) | ((with_reducible refine gate_callee (f := 84) rfl ?_); refine goesL_ (some 26) rfl rfl Try.func84 B8x27_ rfl #[.pointer (some ⟨g, 0, none⟩)] rfl B8x3_ ?_; (with_reducible refine (spec_l16Right.calls k g s0_0 t288 t289 t298 t299 t300 t301 t302 t303 t304 t305 w0 _ ?side1 ?side2 A23.out).mono ?_); (case side1 => exact B8x5_); (case side2 => exact B8x9_); rintro e w34 ⟨rfl, hi, hb, hk⟩; refine ⟨_, rfl, ?_⟩; replace BK283 := Aside0.mk (KeepBut.blk hk (g' := gb283) (o := .cells #[.int .i64 0, .int .i64 0, .string (⟨#[]⟩ : ByteArray)] 28 (0, 0)) B8x11_ NB283_0.out (by simp)); replace HO286 := Aside0.mk (Kd.R_mono (Kd.R_keep (IsS107.apart (show IsS107 w0 _ g s0_0 t288 t289 from B8x5_) B8x15_ (by decide)) hk (fun _ h => h.2)) (fun _ h => h.1)); replace BK290 := Aside0.mk (KeepBut.blk hk (g' := gb290) (o := .cells #[.int .i64 a1, .int .i64 t287, .string (⟨#[]⟩ : ByteArray)] 28 (0, 0)) B8x30_ NB290_0.out (by simp)); replace HK := Aside0.mk (KeepBut.trans B8x8_ hk (.inl rfl)); replace HB := Aside0.mk (hb); replace HI0 := Aside0.mk (hi); (try clear hb hk hi)) | ((with_reducible refine gate_callee (f := 79) rfl ?_); refine goesL_ (some 27) rfl rfl Try.func79 B8x27_ rfl #[.agg #[.int .i64 t298, .int .i64 t299, .int .i64 t300, .string t301, .string t302, .int .i64 t303]] rfl B8x3_ ?_; (with_reducible refine (spec_CommandText.calls k t298 t299 t300 t301 t302 t303 t306 t307 _ A24.out).mono ?_); rintro e w35 ⟨rfl, hb⟩; refine ⟨_, rfl, ?_⟩; replace HO286 := Aside0.mk (Kd.R_below B8x16_ hb); replace BK283 := Aside0.mk (bb BK283.out hb); replace BK290 := Aside0.mk (bb BK290.out hb); replace HK := Aside0.mk (KeepBut.trans B8x8_ (KeepBut.of_below hb g none) (.inl rfl)); replace HB := Aside0.mk (below_step B8x9_ hb); replace HI0 := Aside0.mk (IsS107.below B8x5_ hb); (try clear hb); obtain ⟨hcz36_0, hcz36_1, hcz36_2⟩ := cl3 BK290.out; obtain ⟨hfz36_0, hfz36_1, hfz36_2⟩ := fr3 BK290.out; have hnb37 := NB283_0.out; have hnc37 := NB0_283.out; obtain ⟨hcz38_0, hcz38_1, hcz38_2⟩ := cl3 BK283.out; obtain ⟨hfz38_0, hfz38_1, hfz38_2⟩ := fr3 BK283.out))
   refine bodyPost_ret (results_cell_row rfl _ _ gb283 28 #[.int .i64 a1, .int .i64 t287, .string t306] (0, 0) _ rfl B8x11_ Try.underlying28 rfl B8x27_) rfl ?_
   exact ⟨B8x18_, B8x5_, B8x9_, B8x8_⟩
  ·rw [if_neg c22] at H
   have c22b0 := beq_eq_false_iff_ne.mpr c22
   have c22b1 := bne_iff_ne.mpr c22
   simp only [Option.some.injEq, Prod.mk.injEq] at H
   obtain ⟨rfl, rfl, rfl, rfl, rfl⟩ := H
   go_enter Try.func40, Try.ntmps40
   go_wp2_with (first | ((with_reducible refine gate_dst (N := 4) rfl ?_); refine box_event ?hg (N := 4) ?hd (cs := #[.int .i64 0, .int .i64 0, .string (⟨#[]⟩ : ByteArray)]) (t := 28) ?hr ?_; (case hd => rfl); (case hg => rfl); (case hr => exact B8x13_); intro gb283 hg w39 hbox hb; replace HB := Aside0.mk (below_step B8x25_ hb); have BK283 := Aside0.mk (hbox); have GW283 := Aside0.mk ((bs hg (keep_size HK.out))); have GE283 := Aside0.mk ((Nat.le_trans HW0.out (bs hg (keep_size HK.out)) : w0.heap.size ≤ gb283)); replace HK := Aside0.mk (KeepBut.trans B8x26_ (KeepBut.of_below hb g none) (.inl rfl)); have NB0_283 := Aside0.mk ((nl hg (IsS107.lt HI0.out))); have NB283_0 := Aside0.mk ((ng hg (IsS107.lt HI0.out))); replace HI0 := Aside0.mk (IsS107.below B8x24_ hb); clear hb hbox hg) | ((with_reducible refine gate_dst (N := 8) rfl ?_); refine Kd.R_lit (Kd.int .i64) _ 3 ?hg (N := 8) ?hd (xs := ([1, 2, 3, 3, 3] : List Int)) (inner := [.int .i64 1, .int .i64 2, .int .i64 3, .int .i64 3, .int .i64 3]) (ok := fun _ => True) (okp := fun _ => True) ?hr ?hp (fun _ hk => hk) trivial (Below.refl _ _) (Nat.le_refl _) (by simp) ?_; (case hd => rfl); (case hg => rfl); (case hr => exact B8x13_); (case hp => exact B8x17_); intro v285 w40 ho41 hb hg_ hnew_; clear hg_ hnew_; (first | rw [← Ny284.out] at ho41 | (simp only [Int.reduceToNat] at ho41; rw [← Ny284.out] at ho41)); have HO286 := Aside0.mk (Kd.R_lower ho41 (keep_size (w := w) (g := g) (row := none) B8x6_)); replace BK283 := Aside0.mk (bb BK283.out hb); replace HK := Aside0.mk (KeepBut.trans B8x6_ (KeepBut.of_below hb g none) (.inl rfl)); replace HB := Aside0.mk (below_step B8x7_ hb); replace HI0 := Aside0.mk (IsS107.below B8x4_ hb); clear hb ho41; obtain ⟨Ao42, co42, eo42⟩ := Kd.R_slice HO286.out; subst eo42) | ((with_reducible refine gate_callee (f := 80) rfl ?_); refine goesL_ (some 9) rfl rfl Try.func80 B8x27_ rfl #[.pointer (some ⟨g, 0, none⟩), .slice Ao42 y284.length co42] rfl B8x3_ ?_; (with_reducible refine (spec_l01PickInt.calls g s0_0 s0_1 s0_2 _ _ y284 t287 t288 t289 w0 _ ?side1 ?side2 ?side3 ?side4 ?side5 A3.out).mono ?_); (case side1 => exact B8x4_); (case side2 => exact B8x7_); (case side3 => exact B8x28_); (case side4 => exact (Kd.R_reads' HO286.out).2.1); (case side5 => exact B8x33_); rintro e w43 ⟨rfl, hi, hb, hk⟩; refine ⟨_, rfl, ?_⟩; replace BK283 := Aside0.mk (kb hk BK283.out NB283_0.out); replace HO286 := Aside0.mk (Kd.R_mono (Kd.R_keep (IsS107.apart (show IsS107 w0 _ g s0_0 s0_1 s0_2 from B8x4_) B8x16_ (by decide)) hk (fun _ h => h.2)) (fun _ h => h.1)); replace HK := Aside0.mk (KeepBut.trans B8x6_ hk (.inl rfl)); replace HB := Aside0.mk (hb); replace HI0 := Aside0.mk (hi); (try clear hb hk hi)) | ((with_reducible refine gate_dst (N := 5) rfl ?_); refine box_event ?hg (N := 5) ?hd (cs := #[.int .i64 0, .int .i64 0, .string (⟨#[]⟩ : ByteArray)]) (t := 28) ?hr ?_; (case hd => rfl); (case hg => rfl); (case hr => exact B8x13_); intro gb290 hg w44 hbox hb; replace HO286 := Aside0.mk (Kd.R_below B8x16_ hb); replace HB := Aside0.mk (below_step B8x7_ hb); have BK290 := Aside0.mk (hbox); have GW290 := Aside0.mk ((bs hg (keep_size HK.out))); have GE290 := Aside0.mk ((Nat.le_trans HW0.out (bs hg (keep_size HK.out)) : w0.heap.size ≤ gb290)); replace HK := Aside0.mk (KeepBut.trans B8x6_ (KeepBut.of_below hb g none) (.inl rfl)); have NB283_290 := Aside0.mk ((nl hg (blk_lt BK283.out))); have NB290_283 := Aside0.mk ((ng hg (blk_lt BK283.out))); replace BK283 := Aside0.mk (bb BK283.out hb); have NB0_290 := Aside0.mk ((nl hg (IsS107.lt HI0.out))); have NB290_0 := Aside0.mk ((ng hg (IsS107.lt HI0.out))); replace HI0 := Aside0.mk (IsS107.below B8x4_ hb); clear hb hbox hg; have hnb45 := NB290_283.out; have hnc45 := NB283_290.out; have hnb46 := NB290_0.out; have hnc46 := NB0_290.out; obtain ⟨hcz47_0, hcz47_1, hcz47_2⟩ := cl3 BK290.out; obtain ⟨hfz47_0, hfz47_1, hfz47_2⟩ := fr3 BK290.out; have hnb48 := NB283_0.out; have hnc48 := NB0_283.out; obtain ⟨hcz49_0, hcz49_1, hcz49_2⟩ := cl3 BK283.out; obtain ⟨hfz49_0, hfz49_1, hfz49_2⟩ := fr3 BK283.out))
   refine bodyPost_ret (results_cell_row rfl _ _ gb283 28 #[.int .i64 a1, .int .i64 t287, .string (⟨#[]⟩ : ByteArray)] (0, 0) _ rfl B8x11_ Try.underlying28 rfl B8x27_) rfl ?_
   exact ⟨B8x18_, B8x5_, B8x9_, B8x8_⟩

/-! ### spec_l06Right: function 50 -/
def spec_l06Right.l0 : Nat → Int → Int → List Int → Int → Int → Int → Int → List (S28) → Option (Int × Int × (List (S28)) × Int × Int)
 | 0, _, _, _, _, _, _, _, _ => none
 | k + 1, x4, x5, x1000, x1001, x1002, x319000, x319001, x319002 => (spec_l01Below.f x1000 x1001 x1002 8).bind fun bt319 => (if x5 < bt319.1 then ((spec_l01Once.f x1000 bt319.2.1 bt319.2.2 3).bind fun bt322 => (if bt322.1 = true then ((spec_l01Below.f x1000 bt322.2.1 bt322.2.2 2).bind fun bt325 => ((spec_l05Right.f k x1000 bt325.2.1 bt325.2.2 (wrap64 ((wrap64 (x4 + 1)) + bt325.1))).bind fun bt328 => (if x319002.length < 4398046511104 then (spec_l06Right.l0 k (wrap64 ((wrap64 (x4 + 1)) + bt325.1)) (wrap64 (x5 + 1)) x1000 bt328.2.2.2.1 bt328.2.2.2.2 x319000 x319001 (x319002 ++ [(⟨bt328.1, bt328.2.1, bt328.2.2.1⟩ : S28)])) else (none)))) else ((spec_l05Right.f k x1000 bt322.2.1 bt322.2.2 x4).bind fun bt336 => (if x319002.length < 4398046511104 then (spec_l06Right.l0 k x4 (wrap64 (x5 + 1)) x1000 bt336.2.2.2.1 bt336.2.2.2.2 x319000 x319001 (x319002 ++ [(⟨bt336.1, bt336.2.1, bt336.2.2.1⟩ : S28)])) else (none))))) else (some (x319000, x319001, x319002, bt319.2.1, bt319.2.2)))
def spec_l06Right.f (k : Nat) (s0_0 : List Int) (s0_1 : Int) (s0_2 : Int) : Option (Int × Int × (List (S28)) × Int × Int) := (spec_l01Below.f s0_0 s0_1 s0_2 3).bind fun bt309 => ((spec_l01Below.f s0_0 bt309.2.1 bt309.2.2 4).bind fun bt312 => ((spec_l01Below.f s0_0 bt312.2.1 bt312.2.2 3).bind fun bt315 => (spec_l06Right.l0 k bt315.1 0 s0_0 bt315.2.1 bt315.2.2 (wrap64 (bt309.1 * bt312.1)) bt315.1 ([] : List (S28)))))
theorem spec_l06Right.mono_l : ∀ k, (∀ y0 y1 y2 y3 y4 y5 y6 y7, LeO (spec_l06Right.l0 k y0 y1 y2 y3 y4 y5 y6 y7) (spec_l06Right.l0 (k + 1) y0 y1 y2 y3 y4 y5 y6 y7))
 | 0 => fun _ _ _ _ _ _ _ _ r h => by simp [spec_l06Right.l0] at h
 | k + 1 => by
  have ih0 := spec_l06Right.mono_l k
  ·intro y0 y1 y2 y3 y4 y5 y6 y7
   unfold spec_l06Right.l0
   repeat' first
   | (with_reducible exact ih0 _ _ _ _ _ _ _ _)
   | (with_reducible exact spec_l05Right.mono _ _ _ _ _)
   | (with_reducible first | exact LeO.refl _ | exact LeO.none _ | refine LeO.ite ?_ ?_ | refine LeO.bind ?_ (fun _ => ?_))
   | exact ih0 _ _ _ _ _ _ _ _
   | exact spec_l05Right.mono _ _ _ _ _
theorem spec_l06Right.mono : ∀ a0 a1 a2 k, LeO (spec_l06Right.f k a0 a1 a2) (spec_l06Right.f (k + 1) a0 a1 a2) := by
 intro a0 a1 a2 k
 have ih0 := spec_l06Right.mono_l k
 unfold spec_l06Right.f
 repeat' first
   | (with_reducible exact ih0 _ _ _ _ _ _ _ _)
   | (with_reducible exact spec_l05Right.mono _ _ _ _ _)
   | (with_reducible first | exact LeO.refl _ | exact LeO.none _ | refine LeO.ite ?_ ?_ | refine LeO.bind ?_ (fun _ => ?_))
   | exact ih0 _ _ _ _ _ _ _ _
   | exact spec_l05Right.mono _ _ _ _ _
def spec_l06Right.T8 : Bool × List (List Nat × List Nat) := (true, [([], []), ([0], [0]), ([], []), ([], []), ([2, 3], [2, 3]), ([4], [4]), ([1, 5, 4], [1, 5]), ([0, 1, 2, 3, 4, 5, 6], []), ([7, 6, 6, 0, 1, 2, 3, 4, 5, 6], [6, 7])])
def spec_l06Right.B8 : List Nat := [0, 1, 0, 0, 12, 28, 63, 127, 255]
theorem spec_l06Right.tab8 : rtab .any (opsOf Try.f50 8) = spec_l06Right.T8 := by kernel_rfl
theorem spec_l06Right.bits8 : waitsOk spec_l06Right.T8.2 spec_l06Right.B8 = true := by kernel_rfl
set_option maxHeartbeats 8000000 in
set_option maxRecDepth 100000 in
theorem spec_l06Right.calls (k : Nat) (g : Nat) (s0_0 : List Int) (s0_1 : Int) (s0_2 : Int) (r1 : Int) (r2 : Int) (r3 : List (S28)) (r4 : Int) (r5 : Int) (w0 w : World) (hI : IsS107 w0 w g s0_0 s0_1 s0_2) (hB : Below w0.heap.size w0 w) (h : spec_l06Right.f k s0_0 s0_1 s0_2 = some (r1, r2, r3, r4, r5)) :
  Calls Try.prog 50 #[.pointer (some ⟨g, 0, none⟩)] w fun e w' => ∃ v2_ : Value, e = .returned (.agg #[.int .i64 r1, .int .i64 r2, v2_]) ∧ Kd.R k28 28 w' w.heap.size (fun _ => True) v2_ r3 ∧ IsS107 w0 w' g s0_0 r4 r5 ∧ Below w0.heap.size w0 w' ∧ KeepBut w w' g none := by
 have hu26 := Try.underlying26
 have HI0 := Aside0.mk hI
 have HK := Aside0.mk (KeepBut.refl w g none)
 have HL := Aside0.mk hB.size
 clear hI
 have HW0 := Aside0.mk hB.size
 have HB := Aside0.mk hB
 clear hB
 have H : ((spec_l01Below.f s0_0 s0_1 s0_2 3).bind fun bt309 => ((spec_l01Below.f s0_0 bt309.2.1 bt309.2.2 4).bind fun bt312 => ((spec_l01Below.f s0_0 bt312.2.1 bt312.2.2 3).bind fun bt315 => (spec_l06Right.l0 k bt315.1 0 s0_0 bt315.2.1 bt315.2.2 (wrap64 (bt309.1 * bt312.1)) bt315.1 ([] : List (S28)))))) = some (r1, r2, r3, r4, r5) := h
 clear h
 replace H := bsi H
 obtain ⟨⟨t309, t310, t311⟩, A2, H⟩ := H
 (try dsimp only at H)
 replace H := bsi H
 obtain ⟨⟨t312, t313, t314⟩, A3, H⟩ := H
 (try dsimp only at H)
 replace H := bsi H
 obtain ⟨⟨t315, t316, t317⟩, A4, H⟩ := H
 (try dsimp only at H)
 have H' := Aside0.mk H
 clear H
 go_enter Try.func50, Try.ntmps50
 go_wp2_with (first | ((with_reducible refine gate_dst (N := 2) rfl ?_); refine box_event ?hg (N := 2) ?hd (cs := #[.int .i64 0, .int .i64 0, .slice none 0 0]) (t := 26) ?hr ?_; (case hd => rfl); (case hg => rfl); (case hr => exact B8x13_); intro gb308 hg w5 hbox hb; replace HB := Aside0.mk (below_step B8x25_ hb); have BK308 := Aside0.mk (hbox); have GW308 := Aside0.mk ((bs hg (keep_size HK.out))); have GE308 := Aside0.mk ((Nat.le_trans HW0.out (bs hg (keep_size HK.out)) : w0.heap.size ≤ gb308)); replace HK := Aside0.mk (KeepBut.trans B8x26_ (KeepBut.of_below hb g none) (.inl rfl)); have NB0_308 := Aside0.mk ((nl hg (IsS107.lt HI0.out))); have NB308_0 := Aside0.mk ((ng hg (IsS107.lt HI0.out))); replace HI0 := Aside0.mk (IsS107.below B8x24_ hb); clear hb hbox hg) | ((with_reducible refine gate_callee (f := 41) rfl ?_); refine goesL_ (some 7) rfl rfl Try.func41 B8x27_ rfl #[.pointer (some ⟨g, 0, none⟩), .int .i64 3] rfl B8x3_ ?_; (with_reducible refine (spec_l01Below.calls g s0_0 s0_1 s0_2 3 t309 t310 t311 w0 _ ?side1 ?side2 A2.out).mono ?_); (case side1 => exact B8x19_); (case side2 => exact B8x20_); rintro e w6 ⟨rfl, hi, hb, hk⟩; refine ⟨_, rfl, ?_⟩; replace BK308 := Aside0.mk (kb hk BK308.out NB308_0.out); replace HK := Aside0.mk (KeepBut.trans B8x22_ hk (.inl rfl)); replace HB := Aside0.mk (hb); replace HI0 := Aside0.mk (hi); (try clear hb hk hi)) | ((with_reducible refine gate_callee (f := 41) rfl ?_); refine goesL_ (some 9) rfl rfl Try.func41 B8x27_ rfl #[.pointer (some ⟨g, 0, none⟩), .int .i64 4] rfl B8x3_ ?_; (with_reducible refine (spec_l01Below.calls g s0_0 t310 t311 4 t312 t313 t314 w0 _ ?side1 ?side2 A3.out).mono ?_); (case side1 => exact B8x19_); (case side2 => exact B8x20_); rintro e w7 ⟨rfl, hi, hb, hk⟩; refine ⟨_, rfl, ?_⟩; replace BK308 := Aside0.mk (kb hk BK308.out NB308_0.out); replace HK := Aside0.mk (KeepBut.trans B8x22_ hk (.inl rfl)); replace HB := Aside0.mk (hb); replace HI0 := Aside0.mk (hi); (try clear hb hk hi)) | ((with_reducible refine gate_callee (f := 41) rfl ?_); refine goesL_ (some 12) rfl rfl Try.func41 B8x27_ rfl #[.pointer (some ⟨g, 0, none⟩), .int .i64 3] rfl B8x3_ ?_; (with_reducible refine (spec_l01Below.calls g s0_0 t313 t314 3 t315 t316 t317 w0 _ ?side1 ?side2 A4.out).mono ?_); (case side1 => exact B8x19_); (case side2 => exact B8x20_); rintro e w8 ⟨rfl, hi, hb, hk⟩; refine ⟨_, rfl, ?_⟩; replace BK308 := Aside0.mk (kb hk BK308.out NB308_0.out); replace HK := Aside0.mk (KeepBut.trans B8x22_ hk (.inl rfl)); replace HB := Aside0.mk (hb); replace HI0 := Aside0.mk (hi); (try clear hb hk hi)) | ((with_reducible refine gate_dst (N := 3) rfl ?_); refine box_event ?hg (N := 3) ?hd (cs := #[.int .i64 0, .int .i64 0, .slice none 0 0]) (t := 26) ?hr ?_; (case hd => rfl); (case hg => rfl); (case hr => exact B8x13_); intro gb318 hg w9 hbox hb; replace HB := Aside0.mk (below_step B8x20_ hb); have BK318 := Aside0.mk (hbox); have GW318 := Aside0.mk ((bs hg (keep_size HK.out))); have GE318 := Aside0.mk ((Nat.le_trans HW0.out (bs hg (keep_size HK.out)) : w0.heap.size ≤ gb318)); replace HK := Aside0.mk (KeepBut.trans B8x22_ (KeepBut.of_below hb g none) (.inl rfl)); have NB308_318 := Aside0.mk ((nl hg (blk_lt BK308.out))); have NB318_308 := Aside0.mk ((ng hg (blk_lt BK308.out))); replace BK308 := Aside0.mk (bb BK308.out hb); have NB0_318 := Aside0.mk ((nl hg (IsS107.lt HI0.out))); have NB318_0 := Aside0.mk ((ng hg (IsS107.lt HI0.out))); replace HI0 := Aside0.mk (IsS107.below B8x19_ hb); clear hb hbox hg; have hnb10 := NB318_308.out; have hnc10 := NB308_318.out; have hnb11 := NB318_0.out; have hnc11 := NB0_318.out; obtain ⟨hcz12_0, hcz12_1, hcz12_2⟩ := cl3 BK318.out; obtain ⟨hfz12_0, hfz12_1, hfz12_2⟩ := fr3 BK318.out))
 go_loopg [4, 5] k (fun kq v4 v5 w' => ∃ (x4_1 : Int) (x5_1 : Int) (x1001_1 : Int) (x1002_1 : Int) (x319002_1 : List (S28)) (u319002 : Value), v4 = .int .i64 x4_1 ∧ v5 = .int .i64 x5_1 ∧ Aside0 (spec_l06Right.l0 kq x4_1 x5_1 s0_0 x1001_1 x1002_1 (wrap64 (t309 * t312)) t315 x319002_1 = some (r1, r2, r3, r4, r5)) ∧ Aside0 (kq ≤ k) ∧ Aside0 (Kd.R k28 28 w' w.heap.size (fun _ => True) u319002 x319002_1) ∧ Aside0 (w'.heap[gb308]? = some (.cells #[.int .i64 0, .int .i64 0, (.slice none 0 0)] 26 (0, 0))) ∧ Aside0 (w'.heap[gb318]? = some (.cells #[.int .i64 (wrap64 (t309 * t312)), .int .i64 t315, u319002] 26 (0, 0))) ∧ Aside0 (IsS107 w0 w' g s0_0 x1001_1 x1002_1) ∧ Aside0 (KeepBut w w' g none) ∧ Aside0 (Below w0.heap.size w0 w'))
 case atStart => exact ⟨(t315), (0), (t316), (t317), (([] : List (S28))), (.slice none 0 0), (be_), (be_), H', ⟨Nat.le_refl _⟩, ⟨(by first | exact Kd.R_nil _ _ _ _ _ | exact Kd.N_nil _ _ _ _ _ | exact Kd.V_nil _ _ _ _ _ | exact Kd.Q_nil _ _ _ _ _ | exact Kd.S_nil _ _ _ _ _)⟩, ⟨B8x21_⟩, ⟨B8x23_⟩, ⟨B8x0_⟩, ⟨B8x1_⟩, ⟨B8x2_⟩⟩
 case round =>
  clear H'
  try clear hcz12_0
  try clear hcz12_1
  try clear hcz12_2
  try clear hfz12_0
  try clear hfz12_1
  try clear hfz12_2
  obtain ⟨x4_1, x5_1, x1001_1, x1002_1, x319002_1, u319002, rfl, rfl, HA, HK1, HO_319002, BK308, BK318, HI0, HK, HB⟩ := hrel
  cases gk with
  | zero => exact absurd HA.out (by simp [spec_l06Right.l0])
  | succ k1 =>
   have H := HA.out
   clear HA
   simp only [spec_l06Right.l0] at H
   replace H := bsi H
   obtain ⟨⟨t319, t320, t321⟩, A13, H⟩ := H
   (try dsimp only at H)
   by_cases c14 : x5_1 < t319
   ·rw [if_pos c14] at H
    have c14b0 : decide (x5_1 < t319) = true := decide_eq_true c14
    clear c14
    replace H := bsi H
    obtain ⟨⟨t322, t323, t324⟩, A15, H⟩ := H
    (try dsimp only at H)
    by_cases c16 : t322 = true
    ·subst c16
     rw [if_pos rfl] at H
     replace H := bsi H
     obtain ⟨⟨t325, t326, t327⟩, A17, H⟩ := H
     (try dsimp only at H)
     replace H := bsi H
     obtain ⟨⟨t328, t329, t330, t331, t332⟩, A18, H⟩ := H
     (try dsimp only at H)
     by_cases c19 : x319002_1.length < 4398046511104
     rotate_left
     ·rw [if_neg c19] at H
      exact absurd H (by simp)
     rw [if_pos c19] at H
     have LMc19 := Aside0.mk c19
     clear c19
     obtain ⟨y333, hy333⟩ : ∃ y_ : List (S28), y_ = (x319002_1 ++ [(⟨t328, t329, t330⟩ : S28)]) := ⟨_, rfl⟩
     replace H : (spec_l06Right.l0 k1 (wrap64 ((wrap64 (x4_1 + 1)) + t325)) (wrap64 (x5_1 + 1)) s0_0 t331 t332 (wrap64 (t309 * t312)) t315 y333) = some (r1, r2, r3, r4, r5) := by first | (rw [hy333]; with_reducible exact H) | (have H2_ := (Option.bind_some _ _).symm.trans H; rw [hy333]; with_reducible exact H2_) | (have H2_ := (Option.bind_some _ _).symm.trans H; with_reducible exact H2_) | with_reducible exact H | (rw [hy333]; exact H) | exact H
     have Ny333 := Aside0.mk hy333
     clear hy333
     have H' := Aside0.mk H
     clear H
     try go_wp2_with (first | ((with_reducible refine gate_callee (f := 41) rfl ?_); refine goesL_ (some 18) rfl rfl Try.func41 B8x27_ rfl #[.pointer (some ⟨g, 0, none⟩), .int .i64 8] rfl B8x3_ ?_; (with_reducible refine (spec_l01Below.calls g s0_0 x1001_1 x1002_1 8 t319 t320 t321 w0 _ ?side1 ?side2 A13.out).mono ?_); (case side1 => exact B8x0_); (case side2 => exact B8x2_); rintro e w20 ⟨rfl, hi, hb, hk⟩; refine ⟨_, rfl, ?_⟩; replace HO_319002 := Aside0.mk (Kd.R_mono (Kd.R_keep (IsS107.apart (show IsS107 w0 _ g s0_0 x1001_1 x1002_1 from B8x0_) B8x12_ (by decide)) hk (fun _ h => h.2)) (fun _ h => h.1)); replace BK308 := Aside0.mk (kb hk BK308.out NB308_0.out); replace BK318 := Aside0.mk (kb hk BK318.out NB318_0.out); replace HK := Aside0.mk (KeepBut.trans B8x1_ hk (.inl rfl)); replace HB := Aside0.mk (hb); replace HI0 := Aside0.mk (hi); (try clear hb hk hi)) | ((with_reducible refine gate_callee (f := 42) rfl ?_); refine goesL_ (some 23) rfl rfl Try.func42 B8x27_ rfl #[.pointer (some ⟨g, 0, none⟩), .int .i64 3] rfl B8x3_ ?_; (with_reducible refine (spec_l01Once.calls g s0_0 t320 t321 3 true t323 t324 w0 _ ?side1 ?side2 A15.out).mono ?_); (case side1 => exact B8x0_); (case side2 => exact B8x2_); rintro e w21 ⟨rfl, hi, hb, hk⟩; refine ⟨_, rfl, ?_⟩; replace HO_319002 := Aside0.mk (Kd.R_mono (Kd.R_keep (IsS107.apart (show IsS107 w0 _ g s0_0 t320 t321 from B8x0_) B8x12_ (by decide)) hk (fun _ h => h.2)) (fun _ h => h.1)); replace BK308 := Aside0.mk (kb hk BK308.out NB308_0.out); replace BK318 := Aside0.mk (kb hk BK318.out NB318_0.out); replace HK := Aside0.mk (KeepBut.trans B8x1_ hk (.inl rfl)); replace HB := Aside0.mk (hb); replace HI0 := Aside0.mk (hi); (try clear hb hk hi)) | ((with_reducible refine gate_callee (f := 41) rfl ?_); refine goesL_ (some 27) rfl rfl Try.func41 B8x27_ rfl #[.pointer (some ⟨g, 0, none⟩), .int .i64 2] rfl B8x3_ ?_; (with_reducible refine (spec_l01Below.calls g s0_0 t323 t324 2 t325 t326 t327 w0 _ ?side1 ?side2 A17.out).mono ?_); (case side1 => exact B8x0_); (case side2 => exact B8x2_); rintro e w22 ⟨rfl, hi, hb, hk⟩; refine ⟨_, rfl, ?_⟩; replace HO_319002 := Aside0.mk (Kd.R_mono (Kd.R_keep (IsS107.apart (show IsS107 w0 _ g s0_0 t323 t324 from B8x0_) B8x12_ (by decide)) hk (fun _ h => h.2)) (fun _ h => h.1)); replace BK308 := Aside0.mk (kb hk BK308.out NB308_0.out); replace BK318 := Aside0.mk (kb hk BK318.out NB318_0.out); replace HK := Aside0.mk (KeepBut.trans B8x1_ hk (.inl rfl)); replace HB := Aside0.mk (hb); replace HI0 := Aside0.mk (hi); (try clear hb hk hi)))
     replace HO_319002 := Aside0.mk (Kd.R_drew HO_319002.out)
     replace BK308 := Aside0.mk (blk_drew BK308.out)
     replace BK318 := Aside0.mk (blk_drew BK318.out)
     replace HI0 := Aside0.mk (IsS107.drew HI0.out)
     replace HK := Aside0.mk (keep_drew HK.out)
     replace HB := Aside0.mk (below_drew1 HB.out)
     refine start_ (n := 9) (S := fun w' => w'.cell? ⟨gb318, 0, none⟩ = some (.int .i64 (wrap64 (t309 * t312))) ∧ w'.cell? ⟨gb318, 1, none⟩ = some (.int .i64 t315) ∧ w'.cell? ⟨gb318, 2, none⟩ = some (u319002)) (ds := [8]) #[false, false, false, false, false, false, false, false, false] B8x27_ rfl rfl ⟨(blk_cell BK318.out 0).trans rfl, (blk_cell BK318.out 1).trans rfl, (blk_cell BK318.out 2).trans rfl⟩ (fun hHeld => ?_); refine with_tabW spec_l06Right.tab8 spec_l06Right.bits8 (fun HT_ HW_ => ?_)
     generalize w22.drew = w23 at HO_319002 BK308 BK318 HI0 HK HB hHeld ⊢
     refine pu_ 0 29 HT_ ?_
     refine pu_ 2 31 HT_ ?_
     refine pu_ 3 32 HT_ ?_
     refine ta_ 1 30 HT_ HW_ hHeld ?_
     refine one_ (i := 4) (N := some 33) #[true, true, true, true, true, false, false, false, false] rfl rfl (one_of HT_.out B8x27_) (by decide) (fun K hK => ?_)
     refine goes_ Try.func40 B8x27_ rfl #[.pointer (some ⟨g, 0, none⟩), .int .i64 (wrap64 ((wrap64 (x4_1 + 1)) + t325))] (by rfl) rfl rfl B8x3_ ?_
     with_reducible refine (spec_l05Right.calls k1 g s0_0 t326 t327 (wrap64 ((wrap64 (x4_1 + 1)) + t325)) t328 t329 t330 t331 t332 w0 _ ?side1 ?side2 A18.out).mono ?_
     (case side1 => exact B8x0_)
     (case side2 => exact B8x2_)
     rintro e w24 ⟨rfl, hi, hb, hk⟩
     refine ⟨_, rfl, ?_⟩
     replace HO_319002 := Aside0.mk (Kd.R_mono (Kd.R_keep (IsS107.apart (show IsS107 w0 _ g s0_0 t326 t327 from B8x0_) B8x12_ (by decide)) hk (fun _ h => h.2)) (fun _ h => h.1))
     replace BK308 := Aside0.mk (kb hk BK308.out NB308_0.out)
     replace BK318 := Aside0.mk (kb hk BK318.out NB318_0.out)
     replace HK := Aside0.mk (KeepBut.trans B8x1_ hk (.inl rfl))
     replace HB := Aside0.mk (hb)
     replace HI0 := Aside0.mk (hi)
     (try clear hb)
     (try clear hb2)
     (try clear hk)
     (try clear hi)
     refine hK.out _ _ ⟨(blk_cell BK318.out 0).trans rfl, (blk_cell BK318.out 1).trans rfl, (blk_cell BK318.out 2).trans rfl⟩ (fun hHeld => ?_)
     clear hK K
     refine norm_ (a' := ?_) ?_ ?_
     rotate_left
     ·show Act.put _ (some 33) _ = _
      simp only [Act.put, List.setIfInBounds_toArray, List.set_cons_zero, List.set_cons_succ, i64_w, i32_w]
      rfl
     refine one_ (i := 5) (N := some 34) #[true, true, true, true, true, true, false, false, false] rfl rfl (one_of HT_.out B8x27_) (by decide) (fun K hK => ?_)
     refine value_ (w1 := ?_) (v := ?_) (by rfl) rfl ?_ ?_
     rotate_left 2
     ·go_simp
      constructor
      ·rfl
      ·rfl
     refine hK.out _ _ ⟨(blk_cell (blk_alloc BK318.out _) 0).trans rfl, (blk_cell (blk_alloc BK318.out _) 1).trans rfl, (blk_cell (blk_alloc BK318.out _) 2).trans rfl⟩ (fun hHeld => ?_)
     clear hK K
     refine norm_ (a' := ?_) ?_ ?_
     rotate_left
     ·show Act.put _ (some 34) _ = _
      simp only [Act.put, List.setIfInBounds_toArray, List.set_cons_zero, List.set_cons_succ, i64_w, i32_w]
      rfl
     refine one_ (i := 6) (N := some 35) #[true, true, true, true, true, true, true, false, false] rfl rfl (one_of HT_.out B8x27_) (by decide) (fun K hK => ?_)
     refine Kd.R_append_step k28 w.heap.size (by rfl) (.tmp 30) (.tmp 34) 24 28 (.agg #[(.int .i64 0), (.int .i64 0), (.string ⟨#[]⟩)]) 32 rfl Try.underlying24 info28 rfl (by decide) (by omega) u319002 x319002_1 (⟨t328, t329, t330⟩ : S28) [.int .i64 t328, .int .i64 t329, .string t330] (fun _ => True) (fun _ => False) rfl rfl ?aP (fun _ hk => hk.elim) ?aF ?aO (Below.refl _ _) ?aS ?aL ?_
     (case aP => exact k28_mkM _ _ _ (⟨t328, t329, t330⟩ : S28))
     (case aF => exact (fun _ _ => trivial))
     (case aO => exact B8x12_)
     (case aS => exact B8x36_)
     (case aL => have := LMc19.out; omega)
     intro v334 w25 ho hb hg hat
     rw [← Ny333.out] at ho
     replace BK308 := Aside0.mk (blk_grown (g := gb308) (o := .cells #[.int .i64 0, .int .i64 0, .slice none 0 0] 26 (0, 0)) B8x34_ hg (Kd.R_ne HO_319002.out BK308.out (by decide)))
     replace BK318 := Aside0.mk (blk_grown (g := gb318) (o := .cells #[.int .i64 (wrap64 (t309 * t312)), .int .i64 t315, u319002] 26 (0, 0)) B8x35_ hg (Kd.R_ne HO_319002.out BK318.out (by decide)))
     replace HB := Aside0.mk (below_weaken B8x2_ HL.out hb)
     replace HI0 := Aside0.mk (IsS107.grown B8x0_ hg (IsS107.own_ne HI0.out HO_319002.out (by decide)))
     replace HK := Aside0.mk (KeepBut.trans B8x1_ (KeepBut.of_grown hg g) (Kd.R_base2 HO_319002.out))
     have HO335 := Aside0.mk (ho)
     clear HO_319002
     clear ho hb hg hat
     obtain ⟨Ao26, co26, eo26⟩ := Kd.R_slice HO335.out
     (first | subst eo26 | (injection eo26 with f1_ f2_ f3_; have f4_ := f1_.symm; have f5_ := f3_.symm; clear f1_ f2_ f3_; subst f4_; subst f5_))
     refine hK.out _ _ ⟨(blk_cell BK318.out 0).trans rfl, (blk_cell BK318.out 1).trans rfl, (blk_cell BK318.out 2).trans rfl⟩ (fun hHeld => ?_)
     clear hK K
     refine norm_ (a' := ?_) ?_ ?_
     rotate_left
     ·show Act.put _ (some 35) _ = _
      simp only [Act.put, List.setIfInBounds_toArray, List.set_cons_zero, List.set_cons_succ, i64_w, i32_w]
      rfl
     refine pu_ 7 36 HT_ ?_
     refine last_ (i := 8) (N := none) #[true, true, true, true, true, true, true, true, true] rfl rfl (one_of HT_.out B8x27_) (by decide) (fun K hK => ?_)
     have hs27 : w25.cell? ⟨gb318, 2, none⟩ = some (u319002) := (blk_cell BK318.out 2).trans rfl
     have hfs27 := blk_frozen BK318.out 2
     have hns27_0 := NB308_318.out
     have hms27_0 := NB318_308.out
     refine skip_ (w1 := ?_) (by rfl) rfl ?_ ?_
     rotate_left
     ·go_simp
      rfl
     refine hK.out _ _ ?_
     clear hK K
     refine done_ (done_of HT_.out B8x27_) ?_
     try go_wp2
     go_roundg k1
     case measure => have := HK1.out; omega
     case rel => exact ⟨(wrap64 ((wrap64 (x4_1 + 1)) + t325)), (wrap64 (x5_1 + 1)), (t331), (t332), (y333), (.slice Ao26 y333.length co26), (be_), (be_), H', ⟨(by have := HK1.out; omega)⟩, ⟨(by (with_reducible repeat (first | apply Kd.R_alloc | apply Kd.R_drewN | apply Kd.R_drew)); exact Kd.R_mono (Kd.R_far (p := ⟨gb318, 2, none⟩) (Kd.R_types HO335.out BK318.out (by decide)) (fun _ hk => hk.2) (.slice Ao26 y333.length co26)) (fun _ hk => trivial))⟩, ⟨B8x21_⟩, ⟨B8x23_⟩, ⟨B8x0_⟩, ⟨B8x1_⟩, ⟨B8x2_⟩⟩
    ·replace c16 := Bool.eq_false_iff.mpr c16
     subst c16
     rw [if_neg (show ¬ (false = true) by decide)] at H
     replace H := bsi H
     obtain ⟨⟨t336, t337, t338, t339, t340⟩, A28, H⟩ := H
     (try dsimp only at H)
     by_cases c29 : x319002_1.length < 4398046511104
     rotate_left
     ·rw [if_neg c29] at H
      exact absurd H (by simp)
     rw [if_pos c29] at H
     have LMc29 := Aside0.mk c29
     clear c29
     obtain ⟨y341, hy341⟩ : ∃ y_ : List (S28), y_ = (x319002_1 ++ [(⟨t336, t337, t338⟩ : S28)]) := ⟨_, rfl⟩
     replace H : (spec_l06Right.l0 k1 x4_1 (wrap64 (x5_1 + 1)) s0_0 t339 t340 (wrap64 (t309 * t312)) t315 y341) = some (r1, r2, r3, r4, r5) := by first | (rw [hy341]; with_reducible exact H) | (have H2_ := (Option.bind_some _ _).symm.trans H; rw [hy341]; with_reducible exact H2_) | (have H2_ := (Option.bind_some _ _).symm.trans H; with_reducible exact H2_) | with_reducible exact H | (rw [hy341]; exact H) | exact H
     have Ny341 := Aside0.mk hy341
     clear hy341
     have H' := Aside0.mk H
     clear H
     try go_wp2_with (first | ((with_reducible refine gate_callee (f := 41) rfl ?_); refine goesL_ (some 18) rfl rfl Try.func41 B8x27_ rfl #[.pointer (some ⟨g, 0, none⟩), .int .i64 8] rfl B8x3_ ?_; (with_reducible refine (spec_l01Below.calls g s0_0 x1001_1 x1002_1 8 t319 t320 t321 w0 _ ?side1 ?side2 A13.out).mono ?_); (case side1 => exact B8x0_); (case side2 => exact B8x2_); rintro e w30 ⟨rfl, hi, hb, hk⟩; refine ⟨_, rfl, ?_⟩; replace HO_319002 := Aside0.mk (Kd.R_mono (Kd.R_keep (IsS107.apart (show IsS107 w0 _ g s0_0 x1001_1 x1002_1 from B8x0_) B8x12_ (by decide)) hk (fun _ h => h.2)) (fun _ h => h.1)); replace BK308 := Aside0.mk (kb hk BK308.out NB308_0.out); replace BK318 := Aside0.mk (kb hk BK318.out NB318_0.out); replace HK := Aside0.mk (KeepBut.trans B8x1_ hk (.inl rfl)); replace HB := Aside0.mk (hb); replace HI0 := Aside0.mk (hi); (try clear hb hk hi)) | ((with_reducible refine gate_callee (f := 42) rfl ?_); refine goesL_ (some 23) rfl rfl Try.func42 B8x27_ rfl #[.pointer (some ⟨g, 0, none⟩), .int .i64 3] rfl B8x3_ ?_; (with_reducible refine (spec_l01Once.calls g s0_0 t320 t321 3 false t323 t324 w0 _ ?side1 ?side2 A15.out).mono ?_); (case side1 => exact B8x0_); (case side2 => exact B8x2_); rintro e w31 ⟨rfl, hi, hb, hk⟩; refine ⟨_, rfl, ?_⟩; replace HO_319002 := Aside0.mk (Kd.R_mono (Kd.R_keep (IsS107.apart (show IsS107 w0 _ g s0_0 t320 t321 from B8x0_) B8x12_ (by decide)) hk (fun _ h => h.2)) (fun _ h => h.1)); replace BK308 := Aside0.mk (kb hk BK308.out NB308_0.out); replace BK318 := Aside0.mk (kb hk BK318.out NB318_0.out); replace HK := Aside0.mk (KeepBut.trans B8x1_ hk (.inl rfl)); replace HB := Aside0.mk (hb); replace HI0 := Aside0.mk (hi); (try clear hb hk hi)))
     replace HO_319002 := Aside0.mk (Kd.R_drew HO_319002.out)
     replace BK308 := Aside0.mk (blk_drew BK308.out)
     replace BK318 := Aside0.mk (blk_drew BK318.out)
     replace HI0 := Aside0.mk (IsS107.drew HI0.out)
     replace HK := Aside0.mk (keep_drew HK.out)
     replace HB := Aside0.mk (below_drew1 HB.out)
     refine start_ (n := 9) (S := fun w' => w'.cell? ⟨gb318, 0, none⟩ = some (.int .i64 (wrap64 (t309 * t312))) ∧ w'.cell? ⟨gb318, 1, none⟩ = some (.int .i64 t315) ∧ w'.cell? ⟨gb318, 2, none⟩ = some (u319002)) (ds := [8]) #[false, false, false, false, false, false, false, false, false] B8x27_ rfl rfl ⟨(blk_cell BK318.out 0).trans rfl, (blk_cell BK318.out 1).trans rfl, (blk_cell BK318.out 2).trans rfl⟩ (fun hHeld => ?_); refine with_tabW spec_l06Right.tab8 spec_l06Right.bits8 (fun HT_ HW_ => ?_)
     generalize w31.drew = w32 at HO_319002 BK308 BK318 HI0 HK HB hHeld ⊢
     refine pu_ 0 29 HT_ ?_
     refine pu_ 2 31 HT_ ?_
     refine pu_ 3 32 HT_ ?_
     refine ta_ 1 30 HT_ HW_ hHeld ?_
     refine one_ (i := 4) (N := some 33) #[true, true, true, true, true, false, false, false, false] rfl rfl (one_of HT_.out B8x27_) (by decide) (fun K hK => ?_)
     refine goes_ Try.func40 B8x27_ rfl #[.pointer (some ⟨g, 0, none⟩), .int .i64 x4_1] (by rfl) rfl rfl B8x3_ ?_
     with_reducible refine (spec_l05Right.calls k1 g s0_0 t323 t324 x4_1 t336 t337 t338 t339 t340 w0 _ ?side1 ?side2 A28.out).mono ?_
     (case side1 => exact B8x0_)
     (case side2 => exact B8x2_)
     rintro e w33 ⟨rfl, hi, hb, hk⟩
     refine ⟨_, rfl, ?_⟩
     replace HO_319002 := Aside0.mk (Kd.R_mono (Kd.R_keep (IsS107.apart (show IsS107 w0 _ g s0_0 t323 t324 from B8x0_) B8x12_ (by decide)) hk (fun _ h => h.2)) (fun _ h => h.1))
     replace BK308 := Aside0.mk (kb hk BK308.out NB308_0.out)
     replace BK318 := Aside0.mk (kb hk BK318.out NB318_0.out)
     replace HK := Aside0.mk (KeepBut.trans B8x1_ hk (.inl rfl))
     replace HB := Aside0.mk (hb)
     replace HI0 := Aside0.mk (hi)
     (try clear hb)
     (try clear hb2)
     (try clear hk)
     (try clear hi)
     refine hK.out _ _ ⟨(blk_cell BK318.out 0).trans rfl, (blk_cell BK318.out 1).trans rfl, (blk_cell BK318.out 2).trans rfl⟩ (fun hHeld => ?_)
     clear hK K
     refine norm_ (a' := ?_) ?_ ?_
     rotate_left
     ·show Act.put _ (some 33) _ = _
      simp only [Act.put, List.setIfInBounds_toArray, List.set_cons_zero, List.set_cons_succ, i64_w, i32_w]
      rfl
     refine one_ (i := 5) (N := some 34) #[true, true, true, true, true, true, false, false, false] rfl rfl (one_of HT_.out B8x27_) (by decide) (fun K hK => ?_)
     refine value_ (w1 := ?_) (v := ?_) (by rfl) rfl ?_ ?_
     rotate_left 2
     ·go_simp
      constructor
      ·rfl
      ·rfl
     refine hK.out _ _ ⟨(blk_cell (blk_alloc BK318.out _) 0).trans rfl, (blk_cell (blk_alloc BK318.out _) 1).trans rfl, (blk_cell (blk_alloc BK318.out _) 2).trans rfl⟩ (fun hHeld => ?_)
     clear hK K
     refine norm_ (a' := ?_) ?_ ?_
     rotate_left
     ·show Act.put _ (some 34) _ = _
      simp only [Act.put, List.setIfInBounds_toArray, List.set_cons_zero, List.set_cons_succ, i64_w, i32_w]
      rfl
     refine one_ (i := 6) (N := some 35) #[true, true, true, true, true, true, true, false, false] rfl rfl (one_of HT_.out B8x27_) (by decide) (fun K hK => ?_)
     refine Kd.R_append_step k28 w.heap.size (by rfl) (.tmp 30) (.tmp 34) 24 28 (.agg #[(.int .i64 0), (.int .i64 0), (.string ⟨#[]⟩)]) 32 rfl Try.underlying24 info28 rfl (by decide) (by omega) u319002 x319002_1 (⟨t336, t337, t338⟩ : S28) [.int .i64 t336, .int .i64 t337, .string t338] (fun _ => True) (fun _ => False) rfl rfl ?aP (fun _ hk => hk.elim) ?aF ?aO (Below.refl _ _) ?aS ?aL ?_
     (case aP => exact k28_mkM _ _ _ (⟨t336, t337, t338⟩ : S28))
     (case aF => exact (fun _ _ => trivial))
     (case aO => exact B8x12_)
     (case aS => exact B8x36_)
     (case aL => have := LMc29.out; omega)
     intro v342 w34 ho hb hg hat
     rw [← Ny341.out] at ho
     replace BK308 := Aside0.mk (blk_grown (g := gb308) (o := .cells #[.int .i64 0, .int .i64 0, .slice none 0 0] 26 (0, 0)) B8x34_ hg (Kd.R_ne HO_319002.out BK308.out (by decide)))
     replace BK318 := Aside0.mk (blk_grown (g := gb318) (o := .cells #[.int .i64 (wrap64 (t309 * t312)), .int .i64 t315, u319002] 26 (0, 0)) B8x35_ hg (Kd.R_ne HO_319002.out BK318.out (by decide)))
     replace HB := Aside0.mk (below_weaken B8x2_ HL.out hb)
     replace HI0 := Aside0.mk (IsS107.grown B8x0_ hg (IsS107.own_ne HI0.out HO_319002.out (by decide)))
     replace HK := Aside0.mk (KeepBut.trans B8x1_ (KeepBut.of_grown hg g) (Kd.R_base2 HO_319002.out))
     have HO343 := Aside0.mk (ho)
     clear HO_319002
     clear ho hb hg hat
     obtain ⟨Ao35, co35, eo35⟩ := Kd.R_slice HO343.out
     (first | subst eo35 | (injection eo35 with f1_ f2_ f3_; have f4_ := f1_.symm; have f5_ := f3_.symm; clear f1_ f2_ f3_; subst f4_; subst f5_))
     refine hK.out _ _ ⟨(blk_cell BK318.out 0).trans rfl, (blk_cell BK318.out 1).trans rfl, (blk_cell BK318.out 2).trans rfl⟩ (fun hHeld => ?_)
     clear hK K
     refine norm_ (a' := ?_) ?_ ?_
     rotate_left
     ·show Act.put _ (some 35) _ = _
      simp only [Act.put, List.setIfInBounds_toArray, List.set_cons_zero, List.set_cons_succ, i64_w, i32_w]
      rfl
     refine pu_ 7 36 HT_ ?_
     refine last_ (i := 8) (N := none) #[true, true, true, true, true, true, true, true, true] rfl rfl (one_of HT_.out B8x27_) (by decide) (fun K hK => ?_)
     have hs36 : w34.cell? ⟨gb318, 2, none⟩ = some (u319002) := (blk_cell BK318.out 2).trans rfl
     have hfs36 := blk_frozen BK318.out 2
     have hns36_0 := NB308_318.out
     have hms36_0 := NB318_308.out
     refine skip_ (w1 := ?_) (by rfl) rfl ?_ ?_
     rotate_left
     ·go_simp
      rfl
     refine hK.out _ _ ?_
     clear hK K
     refine done_ (done_of HT_.out B8x27_) ?_
     try go_wp2
     go_roundg k1
     case measure => have := HK1.out; omega
     case rel => exact ⟨(x4_1), (wrap64 (x5_1 + 1)), (t339), (t340), (y341), (.slice Ao35 y341.length co35), (be_), (be_), H', ⟨(by have := HK1.out; omega)⟩, ⟨(by (with_reducible repeat (first | apply Kd.R_alloc | apply Kd.R_drewN | apply Kd.R_drew)); exact Kd.R_mono (Kd.R_far (p := ⟨gb318, 2, none⟩) (Kd.R_types HO343.out BK318.out (by decide)) (fun _ hk => hk.2) (.slice Ao35 y341.length co35)) (fun _ hk => trivial))⟩, ⟨B8x21_⟩, ⟨B8x23_⟩, ⟨B8x0_⟩, ⟨B8x1_⟩, ⟨B8x2_⟩⟩
   ·rw [if_neg c14] at H
    have c14b0 : decide (x5_1 < t319) = false := decide_eq_false c14
    clear c14
    simp only [Option.some.injEq, Prod.mk.injEq] at H
    obtain ⟨rfl, rfl, rfl, rfl, rfl⟩ := H
    go_wp2_with (first | ((with_reducible refine gate_callee (f := 41) rfl ?_); refine goesL_ (some 18) rfl rfl Try.func41 B8x27_ rfl #[.pointer (some ⟨g, 0, none⟩), .int .i64 8] rfl B8x3_ ?_; (with_reducible refine (spec_l01Below.calls g s0_0 x1001_1 x1002_1 8 t319 t320 t321 w0 _ ?side1 ?side2 A13.out).mono ?_); (case side1 => exact B8x0_); (case side2 => exact B8x2_); rintro e w37 ⟨rfl, hi, hb, hk⟩; refine ⟨_, rfl, ?_⟩; replace HO_319002 := Aside0.mk (Kd.R_mono (Kd.R_keep (IsS107.apart (show IsS107 w0 _ g s0_0 x1001_1 x1002_1 from B8x0_) B8x12_ (by decide)) hk (fun _ h => h.2)) (fun _ h => h.1)); replace BK308 := Aside0.mk (kb hk BK308.out NB308_0.out); replace BK318 := Aside0.mk (kb hk BK318.out NB318_0.out); replace HK := Aside0.mk (KeepBut.trans B8x1_ hk (.inl rfl)); replace HB := Aside0.mk (hb); replace HI0 := Aside0.mk (hi); (try clear hb hk hi); have hnb38 := NB318_308.out; have hnc38 := NB308_318.out; have hnb39 := NB318_0.out; have hnc39 := NB0_318.out; obtain ⟨hcz40_0, hcz40_1, hcz40_2⟩ := cl3 BK318.out; obtain ⟨hfz40_0, hfz40_1, hfz40_2⟩ := fr3 BK318.out; have hnb41 := NB308_0.out; have hnc41 := NB0_308.out; obtain ⟨hcz42_0, hcz42_1, hcz42_2⟩ := cl3 BK308.out; obtain ⟨hfz42_0, hfz42_1, hfz42_2⟩ := fr3 BK308.out; obtain ⟨Ao43, co43, eo43⟩ := Kd.R_slice HO_319002.out; subst eo43))
    refine bodyPost_ret (results_cell_row rfl _ _ gb308 26 #[.int .i64 (wrap64 (t309 * t312)), .int .i64 t315, .slice Ao43 x319002_1.length co43] (0, 0) _ rfl (by (repeat (with_reducible (first | exact BK308.out | apply blk_drewN | apply blk_drew | apply blk_alloc | apply blk_put))); repeat (first | exact BK308.out | (simp only [List.setIfInBounds_toArray, List.set_cons_zero, List.set_cons_succ]; with_reducible rfl) | rfl)) Try.underlying26 rfl B8x27_) rfl ?_
    exact ⟨_, by first | rfl | (simp [errW_none, errW_some] <;> rfl) | (simp [*, errW_none, errW_some] <;> rfl), by (with_reducible repeat (first | apply Kd.R_alloc | apply Kd.R_drewN | apply Kd.R_drew)); exact Kd.R_mono (Kd.R_far (p := ⟨gb308, 2, none⟩) (Kd.R_far (p := ⟨gb308, 1, none⟩) (Kd.R_far (p := ⟨gb308, 0, none⟩) (Kd.R_types HO_319002.out BK308.out (by decide)) (fun _ hk => hk.2) (.int .i64 (wrap64 (t309 * t312)))) (fun _ hk => hk.2) (.int .i64 t315)) (fun _ hk => hk.2) (.slice Ao43 x319002_1.length co43)) (fun _ hk => trivial), by repeat (first | (with_reducible first | exact HI0.out | apply IsS107.alloc | apply IsS107.drewN | apply IsS107.drew | apply IsS107.set_1 | apply IsS107.set_2 | refine IsS107.far ?_ NB0_308.out _ | refine IsS107.far ?_ NB0_318.out _) | exact HI0.out), by repeat (first | (with_reducible first | exact HB.out | apply below_alloc | apply pw_below_drewN | apply below_drew1 | refine below_set ?_ (IsS107.ge HI0.out) | refine below_set ?_ GE308.out | refine below_set ?_ GE318.out) | exact HB.out), by repeat (first | (with_reducible first | exact HK.out | apply KeepBut.set_ | apply keep_drewN | apply keep_drew | apply keep_alloc | refine keep_far ?_ GW308.out _ | refine keep_far ?_ GW318.out _) | exact HK.out)⟩

/-! ### spec_LogLast: function 39 -/
def spec_LogLast.f (a0_0 : Int) (a0_1 : Int) (l0_2 : List (S28)) : Option (Int × Int) := if (l0_2.length : Int) = 0 then (some (a0_0, a0_1)) else (if 0 ≤ (wrap64 ((l0_2.length : Int) - 1)) then (if (wrap64 ((l0_2.length : Int) - 1)) < (l0_2.length : Int) then (some (wrap64 (a0_0 + (l0_2.length : Int)), (rd_T28 l0_2 (wrap64 ((l0_2.length : Int) - 1))).f0)) else (none)) else (none))
set_option maxHeartbeats 8000000 in
set_option maxRecDepth 100000 in
theorem spec_LogLast.calls (a0_0 : Int) (a0_1 : Int) (A0_2 : Option Addr) (c0_2 : Nat) (l0_2 : List (S28)) (r1 : Int) (r2 : Int) (w : World) (hr0_2 : Kd.C k28 w A0_2 l0_2.length l0_2) (hc0_2 : l0_2.length ≤ c0_2) (h : spec_LogLast.f a0_0 a0_1 l0_2 = some (r1, r2)) :
  Calls Try.prog 39 #[.agg #[.int .i64 a0_0, .int .i64 a0_1, .slice A0_2 l0_2.length c0_2]] w fun e w' => e = .returned (.tuple #[.int .i64 r1, .int .i64 r2]) ∧ Below w.heap.size w w' := by
 have hu26 := Try.underlying26
 have HR0_2 := Aside0.mk hr0_2
 have HC0_2 := Aside0.mk hc0_2
 clear hr0_2 hc0_2
 have HB := Aside0.mk (Below.refl w.heap.size w)
 have H : (if (l0_2.length : Int) = 0 then (some (a0_0, a0_1)) else (if 0 ≤ (wrap64 ((l0_2.length : Int) - 1)) then (if (wrap64 ((l0_2.length : Int) - 1)) < (l0_2.length : Int) then (some (wrap64 (a0_0 + (l0_2.length : Int)), (rd_T28 l0_2 (wrap64 ((l0_2.length : Int) - 1))).f0)) else (none)) else (none))) = some (r1, r2) := h
 clear h
 by_cases c2 : (l0_2.length : Int) = 0
 ·rw [if_pos c2] at H
  have c2b0 := beq_iff_eq.mpr c2
  have c2b1 := bne_eq_false_iff_eq.mpr c2
  clear c2
  simp only [Option.some.injEq, Prod.mk.injEq] at H
  obtain ⟨rfl, rfl⟩ := H
  go_enter Try.func39, Try.ntmps39
  go_wp2_with (first | ((with_reducible refine gate_dst (N := 1) rfl ?_); refine box_event ?hg (N := 1) ?hd (cs := #[.int .i64 a0_0, .int .i64 a0_1, .slice A0_2 l0_2.length c0_2]) (t := 26) ?hr ?_; (case hd => rfl); (case hg => rfl); (case hr => exact B8x13_); intro gb344 hg w3 hbox hb; have BK344 := Aside0.mk (hbox); have GW344 := Aside0.mk ((bs hg (below_size HB.out))); have GE344 := Aside0.mk ((bs hg (below_size HB.out))); replace HB := Aside0.mk (below_step B8x10_ hb); clear hb hbox hg; obtain ⟨hcz4_0, hcz4_1, hcz4_2⟩ := cl3 BK344.out; obtain ⟨hfz4_0, hfz4_1, hfz4_2⟩ := fr3 BK344.out))
  repeat (go_quiet (first | ((with_reducible refine gate_dst (N := 1) rfl ?_); refine box_event ?hg (N := 1) ?hd (cs := #[.int .i64 a0_0, .int .i64 a0_1, .slice A0_2 l0_2.length c0_2]) (t := 26) ?hr ?_; (case hd => rfl); (case hg => rfl); (case hr => exact B8x13_); intro gb344 hg w3 hbox hb; have BK344 := Aside0.mk (hbox); have GW344 := Aside0.mk ((bs hg (below_size HB.out))); have GE344 := Aside0.mk ((bs hg (below_size HB.out))); replace HB := Aside0.mk (below_step B8x10_ hb); clear hb hbox hg; obtain ⟨hcz4_0, hcz4_1, hcz4_2⟩ := cl3 BK344.out; obtain ⟨hfz4_0, hfz4_1, hfz4_2⟩ := fr3 BK344.out)); try go_wp2_with (first | ((with_reducible refine gate_dst (N := 1) rfl ?_); refine box_event ?hg (N := 1) ?hd (cs := #[.int .i64 a0_0, .int .i64 a0_1, .slice A0_2 l0_2.length c0_2]) (t := 26) ?hr ?_; (case hd => rfl); (case hg => rfl); (case hr => exact B8x13_); intro gb344 hg w3 hbox hb; have BK344 := Aside0.mk (hbox); have GW344 := Aside0.mk ((bs hg (below_size HB.out))); have GE344 := Aside0.mk ((bs hg (below_size HB.out))); replace HB := Aside0.mk (below_step B8x10_ hb); clear hb hbox hg; obtain ⟨hcz4_0, hcz4_1, hcz4_2⟩ := cl3 BK344.out; obtain ⟨hfz4_0, hfz4_1, hfz4_2⟩ := fr3 BK344.out)))
  go_ret2
  exact ⟨B8x18_, B8x32_⟩
 ·rw [if_neg c2] at H
  have c2b0 := beq_eq_false_iff_ne.mpr c2
  have c2b1 := bne_iff_ne.mpr c2
  have c2b2 : ¬ (l0_2 = []) := fun h_ => c2 (by rw [h_]; rfl)
  obtain ⟨ji5, hji5⟩ : ∃ j_ : Int, (wrap64 ((l0_2.length : Int) - 1)) = j_ := ⟨_, rfl⟩
  replace H : (if 0 ≤ (ji5) then (if (ji5) < (l0_2.length : Int) then (some (wrap64 (a0_0 + (l0_2.length : Int)), (rd_T28 l0_2 (ji5)).f0)) else (none)) else (none)) = some (r1, r2) := by first | (rw [hji5] at H; exact H) | (simp only [hji5] at H ⊢; exact H)
  have hji5w : (IntKind.i64.wrap ((l0_2.length : Int) - 1)) = ji5 := (i64_w _).trans hji5
  by_cases c6 : 0 ≤ (ji5)
  rotate_left
  ·rw [if_neg c6] at H
   exact absurd H (by simp)
  rw [if_pos c6] at H
  have c6b0 : decide (0 ≤ (ji5)) = true := decide_eq_true c6
  clear c6
  by_cases c7 : (ji5) < (l0_2.length : Int)
  rotate_left
  ·rw [if_neg c7] at H
   exact absurd H (by simp)
  rw [if_pos c7] at H
  have c7b0 : decide ((ji5) < (l0_2.length : Int)) = true := decide_eq_true c7
  clear c7
  simp only [Option.some.injEq, Prod.mk.injEq] at H
  obtain ⟨rfl, rfl⟩ := H
  go_enter Try.func39, Try.ntmps39
  go_wp2_with (first | ((with_reducible refine gate_dst (N := 1) rfl ?_); refine box_event ?hg (N := 1) ?hd (cs := #[.int .i64 a0_0, .int .i64 a0_1, .slice A0_2 l0_2.length c0_2]) (t := 26) ?hr ?_; (case hd => rfl); (case hg => rfl); (case hr => exact B8x13_); intro gb344 hg w8 hbox hb; have BK344 := Aside0.mk (hbox); have GW344 := Aside0.mk ((bs hg (below_size HB.out))); have GE344 := Aside0.mk ((bs hg (below_size HB.out))); replace HB := Aside0.mk (below_step B8x10_ hb); clear hb hbox hg; obtain ⟨hcz9_0, hcz9_1, hcz9_2⟩ := cl3 BK344.out; obtain ⟨hfz9_0, hfz9_1, hfz9_2⟩ := fr3 BK344.out; have p345 : 0 ≤ ((ji5) : Int) := of_decide_eq_true B8x29_; have q345 : (ji5) < (l0_2.length : Int) := of_decide_eq_true B8x29_; obtain ⟨ad345, e345, hx345_0, hx345_1, hx345_2⟩ := at_T28 HR0_2.out (ji5) p345 q345; cases e345; replace hx345_0 := (HB.out.cell (World.block_lt_of_cell? w _ hx345_0)).trans hx345_0; replace hx345_1 := (HB.out.cell (World.block_lt_of_cell? w _ hx345_1)).trans hx345_1; replace hx345_2 := (HB.out.cell (World.block_lt_of_cell? w _ hx345_2)).trans hx345_2; replace p345 := eq_true p345; replace q345 := eq_true q345))
  repeat (go_quiet (first | ((with_reducible refine gate_dst (N := 1) rfl ?_); refine box_event ?hg (N := 1) ?hd (cs := #[.int .i64 a0_0, .int .i64 a0_1, .slice A0_2 l0_2.length c0_2]) (t := 26) ?hr ?_; (case hd => rfl); (case hg => rfl); (case hr => exact B8x13_); intro gb344 hg w8 hbox hb; have BK344 := Aside0.mk (hbox); have GW344 := Aside0.mk ((bs hg (below_size HB.out))); have GE344 := Aside0.mk ((bs hg (below_size HB.out))); replace HB := Aside0.mk (below_step B8x10_ hb); clear hb hbox hg; obtain ⟨hcz9_0, hcz9_1, hcz9_2⟩ := cl3 BK344.out; obtain ⟨hfz9_0, hfz9_1, hfz9_2⟩ := fr3 BK344.out; have p345 : 0 ≤ ((ji5) : Int) := of_decide_eq_true B8x29_; have q345 : (ji5) < (l0_2.length : Int) := of_decide_eq_true B8x29_; obtain ⟨ad345, e345, hx345_0, hx345_1, hx345_2⟩ := at_T28 HR0_2.out (ji5) p345 q345; cases e345; replace hx345_0 := (HB.out.cell (World.block_lt_of_cell? w _ hx345_0)).trans hx345_0; replace hx345_1 := (HB.out.cell (World.block_lt_of_cell? w _ hx345_1)).trans hx345_1; replace hx345_2 := (HB.out.cell (World.block_lt_of_cell? w _ hx345_2)).trans hx345_2; replace p345 := eq_true p345; replace q345 := eq_true q345)); try go_wp2_with (first | ((with_reducible refine gate_dst (N := 1) rfl ?_); refine box_event ?hg (N := 1) ?hd (cs := #[.int .i64 a0_0, .int .i64 a0_1, .slice A0_2 l0_2.length c0_2]) (t := 26) ?hr ?_; (case hd => rfl); (case hg => rfl); (case hr => exact B8x13_); intro gb344 hg w8 hbox hb; have BK344 := Aside0.mk (hbox); have GW344 := Aside0.mk ((bs hg (below_size HB.out))); have GE344 := Aside0.mk ((bs hg (below_size HB.out))); replace HB := Aside0.mk (below_step B8x10_ hb); clear hb hbox hg; obtain ⟨hcz9_0, hcz9_1, hcz9_2⟩ := cl3 BK344.out; obtain ⟨hfz9_0, hfz9_1, hfz9_2⟩ := fr3 BK344.out; have p345 : 0 ≤ ((ji5) : Int) := of_decide_eq_true B8x29_; have q345 : (ji5) < (l0_2.length : Int) := of_decide_eq_true B8x29_; obtain ⟨ad345, e345, hx345_0, hx345_1, hx345_2⟩ := at_T28 HR0_2.out (ji5) p345 q345; cases e345; replace hx345_0 := (HB.out.cell (World.block_lt_of_cell? w _ hx345_0)).trans hx345_0; replace hx345_1 := (HB.out.cell (World.block_lt_of_cell? w _ hx345_1)).trans hx345_1; replace hx345_2 := (HB.out.cell (World.block_lt_of_cell? w _ hx345_2)).trans hx345_2; replace p345 := eq_true p345; replace q345 := eq_true q345)))
  go_ret2
  exact ⟨(by first | rfl | (simp [errW_none, errW_some] <;> rfl) | (simp only [← hji5]; first | rfl | (simp [errW_none, errW_some] <;> rfl)) | (simp [*, errW_none, errW_some] <;> rfl)), B8x32_⟩

/-! ### spec_l06Last: function 48 -/
def spec_l06Last.f (a0_0 : Int) (a0_1 : Int) (l0_2 : List (S28)) : Option (Int) := some (wrap64 (a0_0 + (l0_2.length : Int)))
set_option maxHeartbeats 8000000 in
set_option maxRecDepth 100000 in
theorem spec_l06Last.calls (a0_0 : Int) (a0_1 : Int) (A0_2 : Option Addr) (c0_2 : Nat) (l0_2 : List (S28)) (r : Int) (w : World) (hr0_2 : Kd.C k28 w A0_2 l0_2.length l0_2) (hc0_2 : l0_2.length ≤ c0_2) (h : spec_l06Last.f a0_0 a0_1 l0_2 = some r) :
  Calls Try.prog 48 #[.agg #[.int .i64 a0_0, .int .i64 a0_1, .slice A0_2 l0_2.length c0_2]] w fun e w' => e = .returned (.int .i64 r) ∧ Below w.heap.size w w' := by
 have hu26 := Try.underlying26
 have HR0_2 := Aside0.mk hr0_2
 have HC0_2 := Aside0.mk hc0_2
 clear hr0_2 hc0_2
 have HB := Aside0.mk (Below.refl w.heap.size w)
 have H : (some (wrap64 (a0_0 + (l0_2.length : Int)))) = some r := h
 clear h
 obtain rfl := Option.some.inj H
 go_enter Try.func48, Try.ntmps48
 go_wp2_with (first | ((with_reducible refine gate_dst (N := 1) rfl ?_); refine box_event ?hg (N := 1) ?hd (cs := #[.int .i64 a0_0, .int .i64 a0_1, .slice A0_2 l0_2.length c0_2]) (t := 26) ?hr ?_; (case hd => rfl); (case hg => rfl); (case hr => exact B8x13_); intro gb346 hg w2 hbox hb; have BK346 := Aside0.mk (hbox); have GW346 := Aside0.mk ((bs hg (below_size HB.out))); have GE346 := Aside0.mk ((bs hg (below_size HB.out))); replace HB := Aside0.mk (below_step B8x10_ hb); clear hb hbox hg; obtain ⟨hcz3_0, hcz3_1, hcz3_2⟩ := cl3 BK346.out; obtain ⟨hfz3_0, hfz3_1, hfz3_2⟩ := fr3 BK346.out))
 go_ret
 exact ⟨B8x18_, (by repeat (first | (with_reducible first | exact HB.out | apply below_alloc | apply pw_below_drewN | apply below_drew1 | refine below_set ?_ GE346.out) | exact HB.out))⟩

/-! ### spec_LogTerm: function 56 -/
def spec_LogTerm.f (a0_0 : Int) (a0_1 : Int) (l0_2 : List (S28)) (a1 : Int) : Option (Int) := if a1 = a0_0 then (some a0_1) else (if a1 < a0_0 then (some (-1)) else ((spec_l06Last.f a0_0 a0_1 l0_2).bind fun t348 => (if a1 > t348 then (some (-1)) else (if 0 ≤ (wrap64 ((wrap64 (a1 - a0_0)) - 1)) then (if (wrap64 ((wrap64 (a1 - a0_0)) - 1)) < (l0_2.length : Int) then (some ((rd_T28 l0_2 (wrap64 ((wrap64 (a1 - a0_0)) - 1))).f0)) else (none)) else (none)))))
set_option maxHeartbeats 8000000 in
set_option maxRecDepth 100000 in
theorem spec_LogTerm.calls (a0_0 : Int) (a0_1 : Int) (A0_2 : Option Addr) (c0_2 : Nat) (l0_2 : List (S28)) (a1 : Int) (r : Int) (w : World) (hr0_2 : Kd.C k28 w A0_2 l0_2.length l0_2) (hc0_2 : l0_2.length ≤ c0_2) (h : spec_LogTerm.f a0_0 a0_1 l0_2 a1 = some r) :
  Calls Try.prog 56 #[.agg #[.int .i64 a0_0, .int .i64 a0_1, .slice A0_2 l0_2.length c0_2], .int .i64 a1] w fun e w' => e = .returned (.int .i64 r) ∧ Below w.heap.size w w' := by
 have hu26 := Try.underlying26
 have HR0_2 := Aside0.mk hr0_2
 have HC0_2 := Aside0.mk hc0_2
 clear hr0_2 hc0_2
 have HB := Aside0.mk (Below.refl w.heap.size w)
 have H : (if a1 = a0_0 then (some a0_1) else (if a1 < a0_0 then (some (-1)) else ((spec_l06Last.f a0_0 a0_1 l0_2).bind fun t348 => (if a1 > t348 then (some (-1)) else (if 0 ≤ (wrap64 ((wrap64 (a1 - a0_0)) - 1)) then (if (wrap64 ((wrap64 (a1 - a0_0)) - 1)) < (l0_2.length : Int) then (some ((rd_T28 l0_2 (wrap64 ((wrap64 (a1 - a0_0)) - 1))).f0)) else (none)) else (none)))))) = some r := h
 clear h
 by_cases c3 : a1 = a0_0
 ·rw [if_pos c3] at H
  have c3b0 := beq_iff_eq.mpr c3
  have c3b1 := bne_eq_false_iff_eq.mpr c3
  clear c3
  obtain rfl := Option.some.inj H
  go_enter Try.func56, Try.ntmps56
  go_wp2_with (first | ((with_reducible refine gate_dst (N := 2) rfl ?_); refine box_event ?hg (N := 2) ?hd (cs := #[.int .i64 a0_0, .int .i64 a0_1, .slice A0_2 l0_2.length c0_2]) (t := 26) ?hr ?_; (case hd => rfl); (case hg => rfl); (case hr => exact B8x13_); intro gb347 hg w4 hbox hb; have BK347 := Aside0.mk (hbox); have GW347 := Aside0.mk ((bs hg (below_size HB.out))); have GE347 := Aside0.mk ((bs hg (below_size HB.out))); replace HB := Aside0.mk (below_step B8x10_ hb); clear hb hbox hg; obtain ⟨hcz5_0, hcz5_1, hcz5_2⟩ := cl3 BK347.out; obtain ⟨hfz5_0, hfz5_1, hfz5_2⟩ := fr3 BK347.out))
  go_ret
  exact ⟨B8x18_, B8x14_⟩
 ·rw [if_neg c3] at H
  have c3b0 := beq_eq_false_iff_ne.mpr c3
  have c3b1 := bne_iff_ne.mpr c3
  by_cases c6 : a1 < a0_0
  ·rw [if_pos c6] at H
   have c6b0 : decide (a1 < a0_0) = true := decide_eq_true c6
   clear c6
   obtain rfl := Option.some.inj H
   go_enter Try.func56, Try.ntmps56
   go_wp2_with (first | ((with_reducible refine gate_dst (N := 2) rfl ?_); refine box_event ?hg (N := 2) ?hd (cs := #[.int .i64 a0_0, .int .i64 a0_1, .slice A0_2 l0_2.length c0_2]) (t := 26) ?hr ?_; (case hd => rfl); (case hg => rfl); (case hr => exact B8x13_); intro gb347 hg w7 hbox hb; have BK347 := Aside0.mk (hbox); have GW347 := Aside0.mk ((bs hg (below_size HB.out))); have GE347 := Aside0.mk ((bs hg (below_size HB.out))); replace HB := Aside0.mk (below_step B8x10_ hb); clear hb hbox hg; obtain ⟨hcz8_0, hcz8_1, hcz8_2⟩ := cl3 BK347.out; obtain ⟨hfz8_0, hfz8_1, hfz8_2⟩ := fr3 BK347.out))
   go_ret
   exact ⟨B8x18_, B8x14_⟩
  ·rw [if_neg c6] at H
   have c6b0 : decide (a1 < a0_0) = false := decide_eq_false c6
   clear c6
   replace H := bsi H
   obtain ⟨t348, A9, H⟩ := H
   (try dsimp only at H)
   by_cases c10 : a1 > t348
   ·rw [if_pos c10] at H
    have c10b0 : decide (t348 < a1) = true := decide_eq_true c10
    clear c10
    obtain rfl := Option.some.inj H
    go_enter Try.func56, Try.ntmps56
    go_wp2_with (first | ((with_reducible refine gate_dst (N := 2) rfl ?_); refine box_event ?hg (N := 2) ?hd (cs := #[.int .i64 a0_0, .int .i64 a0_1, .slice A0_2 l0_2.length c0_2]) (t := 26) ?hr ?_; (case hd => rfl); (case hg => rfl); (case hr => exact B8x13_); intro gb347 hg w11 hbox hb; have BK347 := Aside0.mk (hbox); have GW347 := Aside0.mk ((bs hg (below_size HB.out))); have GE347 := Aside0.mk ((bs hg (below_size HB.out))); replace HB := Aside0.mk (below_step B8x10_ hb); clear hb hbox hg; obtain ⟨hcz12_0, hcz12_1, hcz12_2⟩ := cl3 BK347.out; obtain ⟨hfz12_0, hfz12_1, hfz12_2⟩ := fr3 BK347.out) | (go_at_call 48; (with_reducible refine (spec_l06Last.calls a0_0 a0_1 _ _ l0_2 t348 _ ?side1 ?side2 A9.out).mono ?_); (case side1 => exact B8x31_); (case side2 => exact HC0_2.out); rintro e w13 ⟨rfl, hb⟩; replace BK347 := Aside0.mk (bb BK347.out hb); replace HB := Aside0.mk (below_step B8x14_ hb); (try clear hb)))
    go_ret
    exact ⟨B8x18_, B8x14_⟩
   ·rw [if_neg c10] at H
    have c10b0 : decide (t348 < a1) = false := decide_eq_false c10
    clear c10
    obtain ⟨ji14, hji14⟩ : ∃ j_ : Int, (wrap64 ((wrap64 (a1 - a0_0)) - 1)) = j_ := ⟨_, rfl⟩
    replace H : (if 0 ≤ (ji14) then (if (ji14) < (l0_2.length : Int) then (some ((rd_T28 l0_2 (ji14)).f0)) else (none)) else (none)) = some r := by first | (rw [hji14] at H; exact H) | (simp only [hji14] at H ⊢; exact H)
    (try rw [hji14] at A9)
    have hji14w : (IntKind.i64.wrap ((wrap64 (a1 - a0_0)) - 1)) = ji14 := (i64_w _).trans hji14
    by_cases c15 : 0 ≤ (ji14)
    rotate_left
    ·rw [if_neg c15] at H
     exact absurd H (by simp)
    rw [if_pos c15] at H
    have c15b0 : decide (0 ≤ (ji14)) = true := decide_eq_true c15
    clear c15
    by_cases c16 : (ji14) < (l0_2.length : Int)
    rotate_left
    ·rw [if_neg c16] at H
     exact absurd H (by simp)
    rw [if_pos c16] at H
    have c16b0 : decide ((ji14) < (l0_2.length : Int)) = true := decide_eq_true c16
    clear c16
    obtain rfl := Option.some.inj H
    go_enter Try.func56, Try.ntmps56
    go_wp2_with (first | ((with_reducible refine gate_dst (N := 2) rfl ?_); refine box_event ?hg (N := 2) ?hd (cs := #[.int .i64 a0_0, .int .i64 a0_1, .slice A0_2 l0_2.length c0_2]) (t := 26) ?hr ?_; (case hd => rfl); (case hg => rfl); (case hr => exact B8x13_); intro gb347 hg w17 hbox hb; have BK347 := Aside0.mk (hbox); have GW347 := Aside0.mk ((bs hg (below_size HB.out))); have GE347 := Aside0.mk ((bs hg (below_size HB.out))); replace HB := Aside0.mk (below_step B8x10_ hb); clear hb hbox hg; obtain ⟨hcz18_0, hcz18_1, hcz18_2⟩ := cl3 BK347.out; obtain ⟨hfz18_0, hfz18_1, hfz18_2⟩ := fr3 BK347.out) | (go_at_call 48; (with_reducible refine (spec_l06Last.calls a0_0 a0_1 _ _ l0_2 t348 _ ?side1 ?side2 A9.out).mono ?_); (case side1 => exact B8x31_); (case side2 => exact HC0_2.out); rintro e w19 ⟨rfl, hb⟩; replace BK347 := Aside0.mk (bb BK347.out hb); replace HB := Aside0.mk (below_step B8x14_ hb); (try clear hb); obtain ⟨hcz20_0, hcz20_1, hcz20_2⟩ := cl3 BK347.out; obtain ⟨hfz20_0, hfz20_1, hfz20_2⟩ := fr3 BK347.out; have p349 : 0 ≤ ((ji14) : Int) := of_decide_eq_true B8x29_; have q349 : (ji14) < (l0_2.length : Int) := of_decide_eq_true B8x29_; obtain ⟨ad349, e349, hx349_0, hx349_1, hx349_2⟩ := at_T28 HR0_2.out (ji14) p349 q349; cases e349; replace hx349_0 := (HB.out.cell (World.block_lt_of_cell? w _ hx349_0)).trans hx349_0; replace hx349_1 := (HB.out.cell (World.block_lt_of_cell? w _ hx349_1)).trans hx349_1; replace hx349_2 := (HB.out.cell (World.block_lt_of_cell? w _ hx349_2)).trans hx349_2; replace p349 := eq_true p349; replace q349 := eq_true q349))
    go_ret
    exact ⟨(by first | rfl | (simp [errW_none, errW_some] <;> rfl) | (simp only [← hji14]; first | rfl | (simp [errW_none, errW_some] <;> rfl)) | (simp [*, errW_none, errW_some] <;> rfl)), B8x14_⟩

end Go.Proofs.Ytgffdijodnpolaa.QFnLogs
