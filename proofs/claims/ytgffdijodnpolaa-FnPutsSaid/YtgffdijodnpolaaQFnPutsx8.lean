/- Functions that a law reaches, as functions of Lean, and the walks that show that the calls come to their answers: written by a program of this project out of the translation. No condition. -/
import Derived.Test.YtgffdijodnpolaaQFnPutsx0
import Derived.Test.YtgffdijodnpolaaQFnPutsx2
import Derived.Test.YtgffdijodnpolaaQFnPutsx4
import Derived.Test.YtgffdijodnpolaaQFnPutsx5
import Derived.Test.YtgffdijodnpolaaQFnPutsx7
import Derived.Test.YtgffdijodnpolaaVFnPutsShort4
import Derived.Test.YtgffdijodnpolaaVFnPutshort3
import Derived.Test.YtgffdijodnpolaaVFnPutsShort2
import Derived.Test.YtgffdijodnpolaaVFnPutsShort
namespace Go.Proofs.Ytgffdijodnpolaa.QFnPuts
open Go.RowKit Go.Proofs.YtgffdijodnpolaaW.PrintWords Go.Proofs.YtgffdijodnpolaaW.PrintLast Go.Proofs.YtgffdijodnpolaaW.PrintMore Go.Proofs.Ytgffdijodnpolaa.Short
attribute [local go_sem] max2_int min2_int max_two min_two max_three min_three max_four min_four   -- for this text's walks alone
set_option linter.unusedVariables false
set_option linter.unusedSimpArgs false

theorem B8x0_ {p : Prop} (h : p := by (try simp only [List.map_toArray, List.map_cons, List.map_nil]); first | done | rfl | (simp only [List.length_drop, List.length_take]; rfl)) : p := h
theorem B8x1_ {p : Prop} (h : p := by repeat (first | (with_reducible first | exact HI0.out | apply IsS107.alloc | apply IsS107.drewN | apply IsS107.drew | apply IsS107.set_1 | apply IsS107.set_2 | refine IsS107.far ?_ NB0_340.out _ | refine IsS107.far ?_ NB0_350.out _) | exact HI0.out)) : p := h
theorem B8x2_ {p : Prop} (h : p := by repeat (first | (with_reducible first | exact HI0.out | apply IsS107.alloc | apply IsS107.drewN | apply IsS107.drew | apply IsS107.set_1 | apply IsS107.set_2 | refine IsS107.far ?_ NB0_311.out _ | refine IsS107.far ?_ NB0_320.out _) | exact HI0.out)) : p := h
theorem B8x3_ {p : Prop} (h : p := by repeat (first | (with_reducible first | exact HK.out | apply KeepBut.set_ | apply keep_drewN | apply keep_drew | apply keep_alloc | refine keep_far ?_ GW311.out _ | refine keep_far ?_ GW320.out _) | exact HK.out)) : p := h
theorem B8x4_ {p : Prop} (h : p := by repeat (first | (with_reducible first | exact HB.out | apply below_alloc | apply pw_below_drewN | apply below_drew1 | refine below_set ?_ (IsS107.ge HI0.out) | refine below_set ?_ GE311.out | refine below_set ?_ GE320.out) | exact HB.out)) : p := h
theorem B8x5_ {p : Prop} (h : p := by repeat (first | (with_reducible first | exact HK.out | apply KeepBut.set_ | apply keep_drewN | apply keep_drew | apply keep_alloc | refine keep_far ?_ GW340.out _ | refine keep_far ?_ GW350.out _) | exact HK.out)) : p := h
theorem B8x6_ {p : Prop} (h : p := by repeat (first | (with_reducible first | exact HB.out | apply below_alloc | apply pw_below_drewN | apply below_drew1 | refine below_set ?_ (IsS107.ge HI0.out) | refine below_set ?_ GE340.out | refine below_set ?_ GE350.out) | exact HB.out)) : p := h
theorem B8x7_ {p : Prop} (h : p := by repeat (first | (with_reducible first | exact HI0.out | apply IsS107.alloc | apply IsS107.drewN | apply IsS107.drew | apply IsS107.set_1 | apply IsS107.set_2 | refine IsS107.far ?_ NB0_282.out _) | exact HI0.out)) : p := h
theorem B8x8_ {p : Prop} (h : p := by repeat (first | (with_reducible first | exact HI0.out | apply IsS107.alloc | apply IsS107.drewN | apply IsS107.drew | apply IsS107.set_1 | apply IsS107.set_2 | refine IsS107.far ?_ NB0_311.out _) | exact HI0.out)) : p := h
theorem B8x9_ {p : Prop} (h : p := by repeat (first | (with_reducible first | exact HB.out | apply below_alloc | apply pw_below_drewN | apply below_drew1 | refine below_set ?_ (IsS107.ge HI0.out) | refine below_set ?_ GE311.out) | exact HB.out)) : p := h
theorem B8x10_ {p : Prop} (h : p := by repeat (first | (with_reducible first | exact HI0.out | apply IsS107.alloc | apply IsS107.drewN | apply IsS107.drew | apply IsS107.set_1 | apply IsS107.set_2 | refine IsS107.far ?_ NB0_282.out _ | refine IsS107.far ?_ NB0_289.out _) | exact HI0.out)) : p := h
theorem B8x11_ {p : Prop} (h : p := by repeat (first | (with_reducible first | exact HK.out | apply KeepBut.set_ | apply keep_drewN | apply keep_drew | apply keep_alloc | refine keep_far ?_ GW282.out _) | exact HK.out)) : p := h
theorem B8x12_ {p : Prop} (h : p := by repeat (first | (with_reducible first | exact HK.out | apply KeepBut.set_ | apply keep_drewN | apply keep_drew | apply keep_alloc | refine keep_far ?_ GW311.out _) | exact HK.out)) : p := h
theorem B8x13_ {p : Prop} (h : p := by (repeat (with_reducible (first | exact BK311.out | apply blk_drewN | apply blk_drew | apply blk_alloc | apply blk_put | apply bf NB311_320.out))); repeat (first | exact BK311.out | (simp only [List.setIfInBounds_toArray, List.set_cons_zero, List.set_cons_succ]; with_reducible rfl) | rfl)) : p := h
theorem B8x14_ {p : Prop} (h : p := by repeat (first | (with_reducible first | exact HB.out | apply below_alloc | apply pw_below_drewN | apply below_drew1 | refine below_set ?_ (IsS107.ge HI0.out) | refine below_set ?_ GE282.out) | exact HB.out)) : p := h
theorem B8x15_ {p : Prop} (h : p := by repeat (first | (with_reducible first | exact HK.out | apply KeepBut.set_ | apply keep_drewN | apply keep_drew | apply keep_alloc | refine keep_far ?_ GW282.out _ | refine keep_far ?_ GW289.out _) | exact HK.out)) : p := h
theorem B8x16_ {p : Prop} (h : p := by repeat (first | (with_reducible first | exact HB.out | apply below_alloc | apply pw_below_drewN | apply below_drew1 | refine below_set ?_ (IsS107.ge HI0.out) | refine below_set ?_ GE282.out | refine below_set ?_ GE289.out) | exact HB.out)) : p := h
theorem B8x17_ {p : Prop} (h : p := by repeat (first | (with_reducible first | exact HI0.out | apply IsS107.alloc | apply IsS107.drewN | apply IsS107.drew | apply IsS107.set_1 | apply IsS107.set_2) | exact HI0.out)) : p := h
theorem B8x18_ {p : Prop} (h : p := by repeat (first | (with_reducible first | exact HB.out | apply below_alloc | apply pw_below_drewN | apply below_drew1 | refine below_set ?_ (IsS107.ge HI0.out)) | exact HB.out)) : p := h
theorem B8x19_ {p : Prop} (h : p := by (repeat (with_reducible (first | exact BK282.out | apply blk_drewN | apply blk_drew | apply blk_alloc | apply blk_put | apply bf NB282_289.out))); repeat (first | exact BK282.out | (simp only [List.setIfInBounds_toArray, List.set_cons_zero, List.set_cons_succ]; with_reducible rfl) | rfl)) : p := h
theorem B8x20_ {p : Prop} (h : p := by repeat (first | (with_reducible first | exact HK.out | apply KeepBut.set_ | apply keep_drewN | apply keep_drew | apply keep_alloc) | exact HK.out)) : p := h
theorem B8x21_ {p : Prop} (h : p := by (with_reducible repeat (first | apply Kd.R_alloc | apply Kd.R_drewN | apply Kd.R_drew)); exact HO_351002.out) : p := h
theorem B8x22_ {p : Prop} (h : p := by first | (go_simp; done) | (go_simp; rfl)) : p := h
theorem B8x23_ {p : Prop} (h : p := by (with_reducible repeat (first | apply Kd.R_alloc | apply Kd.R_drewN | apply Kd.R_drew)); exact (Kd.R_mono (Kd.R_far (p := ⟨gb289, 2, none⟩) (Kd.R_far (p := ⟨gb289, 1, none⟩) (Kd.R_far (p := ⟨gb289, 0, none⟩) (Kd.R_types HO285.out BK289.out (by decide)) (fun _ hk => hk.2) (.int .i64 a1)) (fun _ hk => hk.2) (.int .i64 t286)) (fun _ hk => hk.2) (.string (⟨#[]⟩ : ByteArray))) (fun _ h_ => h_.1))) : p := h
theorem B8x24_ {p : Prop} (h : p := by (repeat (with_reducible (first | exact BK320.out | apply blk_drewN | apply blk_drew | apply blk_alloc | apply blk_put))); repeat (first | exact BK320.out | (simp only [List.setIfInBounds_toArray, List.set_cons_zero, List.set_cons_succ]; with_reducible rfl) | rfl)) : p := h
theorem B8x25_ {p : Prop} (h : p := by (with_reducible repeat (first | apply Kd.R_alloc | apply Kd.R_drewN | apply Kd.R_drew)); exact HO285.out) : p := h
theorem B8x26_ {p : Prop} (h : p := by exact (Reps.one (show Kd.M (Kd.int .i64) _ _ _ 1 [.int .i64 1] from rfl) (Reps.one (show Kd.M (Kd.int .i64) _ _ _ 2 [.int .i64 2] from rfl) (Reps.one (show Kd.M (Kd.int .i64) _ _ _ 3 [.int .i64 3] from rfl) (Reps.one (show Kd.M (Kd.int .i64) _ _ _ 3 [.int .i64 3] from rfl) (Reps.one (show Kd.M (Kd.int .i64) _ _ _ 3 [.int .i64 3] from rfl) (Reps.none _ _))))))) : p := h
theorem B8x27_ {p : Prop} (h : p := by first | rfl | (simp [errW_none, errW_some] <;> rfl) | (simp [*, errW_none, errW_some] <;> rfl)) : p := h
theorem B8x28_ {p : Prop} (h : p := by repeat (first | (with_reducible first | exact HI0.out | apply IsS107.alloc | apply IsS107.drewN | apply IsS107.drew | apply IsS107.set_1 | apply IsS107.set_2 | refine IsS107.far ?_ NB0_340.out _) | exact HI0.out)) : p := h
theorem B8x29_ {p : Prop} (h : p := by repeat (first | (with_reducible first | exact HB.out | apply below_alloc | apply pw_below_drewN | apply below_drew1 | refine below_set ?_ (IsS107.ge HI0.out) | refine below_set ?_ GE340.out) | exact HB.out)) : p := h
theorem B8x30_ {p : Prop} (h : p := by kernel_rfl) : p := h
theorem B8x31_ {p : Prop} (h : p := by (repeat (with_reducible (first | exact BK340.out | apply blk_drewN | apply blk_drew | apply blk_alloc | apply blk_put | apply bf NB340_350.out))); repeat (first | exact BK340.out | (simp only [List.setIfInBounds_toArray, List.set_cons_zero, List.set_cons_succ]; with_reducible rfl) | rfl)) : p := h
theorem B8x32_ {p : Prop} (h : p := by repeat (first | (with_reducible first | exact HK.out | apply KeepBut.set_ | apply keep_drewN | apply keep_drew | apply keep_alloc | refine keep_far ?_ GW340.out _) | exact HK.out)) : p := h
theorem B8x33_ {p : Prop} (h : p := by repeat (first | (with_reducible first | exact HB.out | apply below_alloc | apply pw_below_drewN | apply below_drew1) | exact HB.out)) : p := h
theorem B8x34_ {p : Prop} (h : p := by (repeat (with_reducible (first | exact BK350.out | apply blk_drewN | apply blk_drew | apply blk_alloc | apply blk_put))); repeat (first | exact BK350.out | (simp only [List.setIfInBounds_toArray, List.set_cons_zero, List.set_cons_succ]; with_reducible rfl) | rfl)) : p := h
theorem B8x35_ {p : Prop} (h : p := by repeat (first | exact (Kd.R_reads' HO285.out).2.2 | (with_reducible refine Kd.C_alloc ?_ _) | (with_reducible refine Kd.C_drewN ?_ _) | (with_reducible refine Kd.C_drew ?_))) : p := h
theorem B8x36_ {p : Prop} (h : p := by repeat (first | (with_reducible first | exact HI0.out | apply IsS107.alloc | apply IsS107.drewN | apply IsS107.drew | apply IsS107.set_1 | apply IsS107.set_2 | apply IsS107.far (p := ⟨gb340, _, none⟩) (hne := NB0_340.out) | apply IsS107.far (p := ⟨gb350, _, none⟩) (hne := NB0_350.out)) | exact HI0.out)) : p := h
theorem B8x37_ {p : Prop} (h : p := by (repeat (with_reducible (first | exact BK289.out | apply blk_drewN | apply blk_drew | apply blk_alloc | apply blk_put))); repeat (first | exact BK289.out | (simp only [List.setIfInBounds_toArray, List.set_cons_zero, List.set_cons_succ]; with_reducible rfl) | rfl)) : p := h
theorem B8x38_ {p : Prop} (h : p := by first | (with_reducible assumption) | assumption) : p := h
theorem B8x39_ {p : Prop} (h : p := by exact far_slice (IsS107.own_ne HI0.out HO285.out (by decide))) : p := h
theorem B8x40_ {p : Prop} (h : p := by (with_reducible repeat (first | refine blk_drewN ?_ _ | refine blk_drew ?_ | refine blk_alloc ?_ _)); exact BK340.out) : p := h
theorem B8x41_ {p : Prop} (h : p := by (with_reducible repeat (first | refine blk_drewN ?_ _ | refine blk_drew ?_ | refine blk_alloc ?_ _)); exact BK350.out) : p := h
theorem B8x42_ {p : Prop} (h : p := by exact (keep_size (w := w) (g := g) (row := none) B8x5_)) : p := h
theorem B8x43_ {p : Prop} (h : p := by have := HK1.out; omega) : p := h
/-! ### spec_l05Right: function 40 -/
def spec_l05Right.f (k : Nat) (s0_0 : List Int) (s0_1 : Int) (s0_2 : Int) (a1 : Int) : Option (Int × Int × ByteArray × Int × Int) := (spec_l01PickInt.f s0_0 s0_1 s0_2 (([1, 2, 3, 3, 3] : List Int))).bind fun bt286 => (if bt286.1 = 2 then ((spec_l05Conf.f k s0_0 bt286.2.1 bt286.2.2).bind fun bt290 => ((spec_ConfText.f k bt290.1).bind fun bt295 => (some (a1, bt286.1, bt295.1, bt290.2.1, bt290.2.2)))) else (if bt286.1 = 3 then ((spec_l16Right.f k s0_0 bt286.2.1 bt286.2.2).bind fun bt297 => ((spec_CommandText.f k bt297.1 bt297.2.1 bt297.2.2.1 bt297.2.2.2.1 bt297.2.2.2.2.1 bt297.2.2.2.2.2.1).bind fun bt305 => (some (a1, bt286.1, bt305.1, bt297.2.2.2.2.2.2.1, bt297.2.2.2.2.2.2.2)))) else (some (a1, bt286.1, (⟨#[]⟩ : ByteArray), bt286.2.1, bt286.2.2))))
theorem spec_l05Right.mono : ∀ a0 a1 a2 a3 k, LeO (spec_l05Right.f k a0 a1 a2 a3) (spec_l05Right.f (k + 1) a0 a1 a2 a3) := by
 intro a0 a1 a2 a3 k
 unfold spec_l05Right.f
 repeat' first
   | (with_reducible exact spec_CommandText.mono _ _ _ _ _ _ _)
   | (with_reducible exact spec_ConfText.mono _ _)
   | (with_reducible exact spec_l05Conf.mono _ _ _ _)
   | (with_reducible exact spec_l16Right.mono _ _ _ _)
   | (with_reducible first | exact LeO.refl _ | exact LeO.none _ | refine LeO.ite ?_ ?_ | refine LeO.bind ?_ (fun _ => ?_))
   | exact spec_CommandText.mono _ _ _ _ _ _ _
   | exact spec_ConfText.mono _ _
   | exact spec_l05Conf.mono _ _ _ _
   | exact spec_l16Right.mono _ _ _ _
set_option maxHeartbeats 8000000 in
set_option maxRecDepth 100000 in
theorem spec_l05Right.calls (k : Nat) (g : Nat) (s0_0 : List Int) (s0_1 : Int) (s0_2 : Int) (a1 : Int) (r1 : Int) (r2 : Int) (r3 : ByteArray) (r4 : Int) (r5 : Int) (w0 w : World) (hI : IsS107 w0 w g s0_0 s0_1 s0_2) (hB : Below w0.heap.size w0 w) (h : spec_l05Right.f k s0_0 s0_1 s0_2 a1 = some (r1, r2, r3, r4, r5)) :
  Calls Try.prog 40 #[.pointer (some ⟨g, 0, none⟩), .int .i64 a1] w fun e w' => e = .returned (.agg #[.int .i64 r1, .int .i64 r2, .string r3]) ∧ IsS107 w0 w' g s0_0 r4 r5 ∧ Below w0.heap.size w0 w' ∧ KeepBut w w' g none := by
 have hu28 := Try.underlying28
 have HI0 := Aside0.mk hI
 have HK := Aside0.mk (KeepBut.refl w g none)
 have HL := Aside0.mk hB.size
 clear hI
 have HW0 := Aside0.mk hB.size
 have HB := Aside0.mk hB
 clear hB
 have H : ((spec_l01PickInt.f s0_0 s0_1 s0_2 (([1, 2, 3, 3, 3] : List Int))).bind fun bt286 => (if bt286.1 = 2 then ((spec_l05Conf.f k s0_0 bt286.2.1 bt286.2.2).bind fun bt290 => ((spec_ConfText.f k bt290.1).bind fun bt295 => (some (a1, bt286.1, bt295.1, bt290.2.1, bt290.2.2)))) else (if bt286.1 = 3 then ((spec_l16Right.f k s0_0 bt286.2.1 bt286.2.2).bind fun bt297 => ((spec_CommandText.f k bt297.1 bt297.2.1 bt297.2.2.1 bt297.2.2.2.1 bt297.2.2.2.2.1 bt297.2.2.2.2.2.1).bind fun bt305 => (some (a1, bt286.1, bt305.1, bt297.2.2.2.2.2.2.1, bt297.2.2.2.2.2.2.2)))) else (some (a1, bt286.1, (⟨#[]⟩ : ByteArray), bt286.2.1, bt286.2.2))))) = some (r1, r2, r3, r4, r5) := h
 clear h
 obtain ⟨y283, hy283⟩ : ∃ y_ : List Int, y_ = (([1, 2, 3, 3, 3] : List Int)) := ⟨_, rfl⟩
 replace H : ((spec_l01PickInt.f s0_0 s0_1 s0_2 y283).bind fun bt286 => (if bt286.1 = 2 then ((spec_l05Conf.f k s0_0 bt286.2.1 bt286.2.2).bind fun bt290 => ((spec_ConfText.f k bt290.1).bind fun bt295 => (some (a1, bt286.1, bt295.1, bt290.2.1, bt290.2.2)))) else (if bt286.1 = 3 then ((spec_l16Right.f k s0_0 bt286.2.1 bt286.2.2).bind fun bt297 => ((spec_CommandText.f k bt297.1 bt297.2.1 bt297.2.2.1 bt297.2.2.2.1 bt297.2.2.2.2.1 bt297.2.2.2.2.2.1).bind fun bt305 => (some (a1, bt286.1, bt305.1, bt297.2.2.2.2.2.2.1, bt297.2.2.2.2.2.2.2)))) else (some (a1, bt286.1, (⟨#[]⟩ : ByteArray), bt286.2.1, bt286.2.2))))) = some (r1, r2, r3, r4, r5) := by first | (rw [hy283]; with_reducible exact H) | (have H2_ := (Option.bind_some _ _).symm.trans H; rw [hy283]; with_reducible exact H2_) | (have H2_ := (Option.bind_some _ _).symm.trans H; with_reducible exact H2_) | with_reducible exact H | (rw [hy283]; exact H) | exact H
 have Ny283 := Aside0.mk hy283
 clear hy283
 replace H := bsi H
 obtain ⟨⟨t286, t287, t288⟩, A3, H⟩ := H
 (try dsimp only at H)
 by_cases c4 : t286 = 2
 ·rw [if_pos c4] at H
  have c4b0 := beq_iff_eq.mpr c4
  have c4b1 := bne_eq_false_iff_eq.mpr c4
  clear c4
  replace H := bsi H
  obtain ⟨⟨t290, t293, t294⟩, A5, H⟩ := H
  (try dsimp only at H)
  replace H := bsi H
  obtain ⟨⟨t295, t296⟩, A6, H⟩ := H
  (try dsimp only at H)
  simp only [Option.some.injEq, Prod.mk.injEq] at H
  obtain ⟨rfl, rfl, rfl, rfl, rfl⟩ := H
  go_enter Try.func40, Try.ntmps40
  go_wp2_with (first | ((with_reducible refine gate_dst (N := 4) rfl ?_); refine box_event ?hg (N := 4) ?hd (cs := #[.int .i64 0, .int .i64 0, .string (⟨#[]⟩ : ByteArray)]) (t := 28) ?hr ?_; (case hd => rfl); (case hg => rfl); (case hr => exact B8x22_); intro gb282 hg w7 hbox hb; replace HB := Aside0.mk (below_step B8x18_ hb); have BK282 := Aside0.mk (hbox); have GW282 := Aside0.mk ((bs hg (keep_size HK.out))); have GE282 := Aside0.mk ((Nat.le_trans HW0.out (bs hg (keep_size HK.out)) : w0.heap.size ≤ gb282)); replace HK := Aside0.mk (KeepBut.trans B8x20_ (KeepBut.of_below hb g none) (.inl rfl)); have NB0_282 := Aside0.mk ((nl hg (IsS107.lt HI0.out))); have NB282_0 := Aside0.mk ((ng hg (IsS107.lt HI0.out))); replace HI0 := Aside0.mk (IsS107.below B8x17_ hb); clear hb hbox hg) | ((with_reducible refine gate_dst (N := 8) rfl ?_); refine Kd.R_lit (Kd.int .i64) _ 3 ?hg (N := 8) ?hd (xs := ([1, 2, 3, 3, 3] : List Int)) (inner := [.int .i64 1, .int .i64 2, .int .i64 3, .int .i64 3, .int .i64 3]) (ok := fun _ => True) (okp := fun _ => True) ?hr ?hp (fun _ hk => hk) trivial (Below.refl _ _) (Nat.le_refl _) (by simp) ?_; (case hd => rfl); (case hg => rfl); (case hr => exact B8x22_); (case hp => exact B8x26_); intro v284 w8 ho9 hb hg_ hnew_; clear hg_ hnew_; (first | rw [← Ny283.out] at ho9 | (simp only [Int.reduceToNat] at ho9; rw [← Ny283.out] at ho9)); have HO285 := Aside0.mk (Kd.R_lower ho9 (keep_size (w := w) (g := g) (row := none) B8x11_)); replace BK282 := Aside0.mk (bb BK282.out hb); replace HK := Aside0.mk (KeepBut.trans B8x11_ (KeepBut.of_below hb g none) (.inl rfl)); replace HB := Aside0.mk (below_step B8x14_ hb); replace HI0 := Aside0.mk (IsS107.below B8x7_ hb); clear hb ho9; obtain ⟨Ao10, co10, eo10⟩ := Kd.R_slice HO285.out; subst eo10) | ((with_reducible refine gate_callee (f := 80) rfl ?_); refine goesL_ (some 9) rfl rfl Try.func80 B8x30_ rfl #[.pointer (some ⟨g, 0, none⟩), .slice Ao10 y283.length co10] rfl B8x0_ ?_; (with_reducible refine (spec_l01PickInt.calls g s0_0 s0_1 s0_2 _ _ y283 t286 t287 t288 w0 _ ?side1 ?side2 ?side3 ?side4 ?side5 A3.out).mono ?_); (case side1 => exact B8x7_); (case side2 => exact B8x14_); (case side3 => exact B8x35_); (case side4 => exact (Kd.R_reads' HO285.out).2.1); (case side5 => exact B8x39_); rintro e w11 ⟨rfl, hi, hb, hk⟩; refine ⟨_, rfl, ?_⟩; replace BK282 := Aside0.mk (kb hk BK282.out NB282_0.out); replace HO285 := Aside0.mk (Kd.R_mono (Kd.R_keep (IsS107.apart (show IsS107 w0 _ g s0_0 s0_1 s0_2 from B8x7_) B8x25_ (by decide)) hk (fun _ h => h.2)) (fun _ h => h.1)); replace HK := Aside0.mk (KeepBut.trans B8x11_ hk (.inl rfl)); replace HB := Aside0.mk (hb); replace HI0 := Aside0.mk (hi); (try clear hb hk hi)) | ((with_reducible refine gate_dst (N := 5) rfl ?_); refine box_event ?hg (N := 5) ?hd (cs := #[.int .i64 0, .int .i64 0, .string (⟨#[]⟩ : ByteArray)]) (t := 28) ?hr ?_; (case hd => rfl); (case hg => rfl); (case hr => exact B8x22_); intro gb289 hg w12 hbox hb; replace HO285 := Aside0.mk (Kd.R_below B8x25_ hb); replace HB := Aside0.mk (below_step B8x14_ hb); have BK289 := Aside0.mk (hbox); have GW289 := Aside0.mk ((bs hg (keep_size HK.out))); have GE289 := Aside0.mk ((Nat.le_trans HW0.out (bs hg (keep_size HK.out)) : w0.heap.size ≤ gb289)); replace HK := Aside0.mk (KeepBut.trans B8x11_ (KeepBut.of_below hb g none) (.inl rfl)); have NB282_289 := Aside0.mk ((nl hg (blk_lt BK282.out))); have NB289_282 := Aside0.mk ((ng hg (blk_lt BK282.out))); replace BK282 := Aside0.mk (bb BK282.out hb); have NB0_289 := Aside0.mk ((nl hg (IsS107.lt HI0.out))); have NB289_0 := Aside0.mk ((ng hg (IsS107.lt HI0.out))); replace HI0 := Aside0.mk (IsS107.below B8x7_ hb); clear hb hbox hg; have hnb13 := NB289_282.out; have hnc13 := NB282_289.out; have hnb14 := NB289_0.out; have hnc14 := NB0_289.out; obtain ⟨hcz15_0, hcz15_1, hcz15_2⟩ := cl3 BK289.out; obtain ⟨hfz15_0, hfz15_1, hfz15_2⟩ := fr3 BK289.out) | ((with_reducible refine gate_callee (f := 83) rfl ?_); refine goesL_ (some 17) rfl rfl Try.func83 B8x30_ rfl #[.pointer (some ⟨g, 0, none⟩)] rfl B8x0_ ?_; (with_reducible refine (spec_l05Conf.calls k g s0_0 t287 t288 t290 t293 t294 w0 _ ?side1 ?side2 A5.out).mono ?_); (case side1 => exact B8x10_); (case side2 => exact B8x16_); rintro e w16 ⟨v291, rfl, ho0, hi, hb, hk⟩; refine ⟨_, rfl, ?_⟩; replace BK282 := Aside0.mk (KeepBut.blk hk (g' := gb282) (o := .cells #[.int .i64 0, .int .i64 0, .string (⟨#[]⟩ : ByteArray)] 28 (0, 0)) B8x19_ NB282_0.out (by simp)); have HO292 := Aside0.mk (Kd.R_lower (Kd.R_new' ho0 (Kd.R_lt B8x23_)) (keep_size (w := w) (g := g) (row := none) B8x15_)); replace HO285 := Aside0.mk (Kd.R_mono (Kd.R_told (Kd.R_oldK (IsS107.apart (show IsS107 w0 _ g s0_0 t287 t288 from B8x10_) B8x23_ (by decide)) hk) (Kd.R_base ho0)) (fun _ h_ => h_.1)); replace BK289 := Aside0.mk (KeepBut.blk hk (g' := gb289) (o := .cells #[.int .i64 a1, .int .i64 t286, .string (⟨#[]⟩ : ByteArray)] 28 (0, 0)) B8x37_ NB289_0.out (by simp)); replace HK := Aside0.mk (KeepBut.trans B8x15_ hk (.inl rfl)); replace HB := Aside0.mk (hb); replace HI0 := Aside0.mk (hi); (try clear hb hk hi); (try clear ho0); obtain ⟨Ao17, co17, eo17⟩ := Kd.R_slice HO292.out; subst eo17) | ((with_reducible refine gate_callee (f := 82) rfl ?_); refine goesL_ (some 18) rfl rfl Try.func82 B8x30_ rfl #[.slice Ao17 t290.length co17] rfl B8x0_ ?_; (with_reducible refine (spec_ConfText.calls k _ _ t290 t295 t296 _ ?side1 ?side2 A6.out).mono ?_); (case side1 => repeat (first | exact (Kd.R_reads' HO292.out).2.2 | (with_reducible refine Kd.C_alloc ?_ _) | (with_reducible refine Kd.C_drewN ?_ _) | (with_reducible refine Kd.C_drew ?_))); (case side2 => exact (Kd.R_reads' HO292.out).2.1); rintro e w18 ⟨rfl, hb⟩; refine ⟨_, rfl, ?_⟩; replace HO285 := Aside0.mk (Kd.R_below B8x25_ hb); replace HO292 := Aside0.mk (Kd.R_below (by (with_reducible repeat (first | apply Kd.R_alloc | apply Kd.R_drewN | apply Kd.R_drew)); exact HO292.out) hb); replace BK282 := Aside0.mk (bb BK282.out hb); replace BK289 := Aside0.mk (bb BK289.out hb); replace HK := Aside0.mk (KeepBut.trans B8x15_ (KeepBut.of_below hb g none) (.inl rfl)); replace HB := Aside0.mk (below_step B8x16_ hb); replace HI0 := Aside0.mk (IsS107.below B8x10_ hb); (try clear hb); obtain ⟨hcz19_0, hcz19_1, hcz19_2⟩ := cl3 BK289.out; obtain ⟨hfz19_0, hfz19_1, hfz19_2⟩ := fr3 BK289.out; have hnb20 := NB282_0.out; have hnc20 := NB0_282.out; obtain ⟨hcz21_0, hcz21_1, hcz21_2⟩ := cl3 BK282.out; obtain ⟨hfz21_0, hfz21_1, hfz21_2⟩ := fr3 BK282.out))
  refine bodyPost_ret (results_cell_row rfl _ _ gb282 28 #[.int .i64 a1, .int .i64 t286, .string t295] (0, 0) _ rfl B8x19_ Try.underlying28 rfl B8x30_) rfl ?_
  exact ⟨B8x27_, B8x10_, B8x16_, B8x15_⟩
 ·rw [if_neg c4] at H
  have c4b0 := beq_eq_false_iff_ne.mpr c4
  have c4b1 := bne_iff_ne.mpr c4
  by_cases c22 : t286 = 3
  ·rw [if_pos c22] at H
   have c22b0 := beq_iff_eq.mpr c22
   have c22b1 := bne_eq_false_iff_eq.mpr c22
   clear c22
   replace H := bsi H
   obtain ⟨⟨t297, t298, t299, t300, t301, t302, t303, t304⟩, A23, H⟩ := H
   (try dsimp only at H)
   replace H := bsi H
   obtain ⟨⟨t305, t306⟩, A24, H⟩ := H
   (try dsimp only at H)
   simp only [Option.some.injEq, Prod.mk.injEq] at H
   obtain ⟨rfl, rfl, rfl, rfl, rfl⟩ := H
   go_enter Try.func40, Try.ntmps40
   go_wp2_with (first | ((with_reducible refine gate_dst (N := 4) rfl ?_); refine box_event ?hg (N := 4) ?hd (cs := #[.int .i64 0, .int .i64 0, .string (⟨#[]⟩ : ByteArray)]) (t := 28) ?hr ?_; (case hd => rfl); (case hg => rfl); (case hr => exact B8x22_); intro gb282 hg w25 hbox hb; replace HB := Aside0.mk (below_step B8x18_ hb); have BK282 := Aside0.mk (hbox); have GW282 := Aside0.mk ((bs hg (keep_size HK.out))); have GE282 := Aside0.mk ((Nat.le_trans HW0.out (bs hg (keep_size HK.out)) : w0.heap.size ≤ gb282)); replace HK := Aside0.mk (KeepBut.trans B8x20_ (KeepBut.of_below hb g none) (.inl rfl)); have NB0_282 := Aside0.mk ((nl hg (IsS107.lt HI0.out))); have NB282_0 := Aside0.mk ((ng hg (IsS107.lt HI0.out))); replace HI0 := Aside0.mk (IsS107.below B8x17_ hb); clear hb hbox hg) | ((with_reducible refine gate_dst (N := 8) rfl ?_); refine Kd.R_lit (Kd.int .i64) _ 3 ?hg (N := 8) ?hd (xs := ([1, 2, 3, 3, 3] : List Int)) (inner := [.int .i64 1, .int .i64 2, .int .i64 3, .int .i64 3, .int .i64 3]) (ok := fun _ => True) (okp := fun _ => True) ?hr ?hp (fun _ hk => hk) trivial (Below.refl _ _) (Nat.le_refl _) (by simp) ?_; (case hd => rfl); (case hg => rfl); (case hr => exact B8x22_); (case hp => exact B8x26_); intro v284 w26 ho27 hb hg_ hnew_; clear hg_ hnew_; (first | rw [← Ny283.out] at ho27 | (simp only [Int.reduceToNat] at ho27; rw [← Ny283.out] at ho27)); have HO285 := Aside0.mk (Kd.R_lower ho27 (keep_size (w := w) (g := g) (row := none) B8x11_)); replace BK282 := Aside0.mk (bb BK282.out hb); replace HK := Aside0.mk (KeepBut.trans B8x11_ (KeepBut.of_below hb g none) (.inl rfl)); replace HB := Aside0.mk (below_step B8x14_ hb); replace HI0 := Aside0.mk (IsS107.below B8x7_ hb); clear hb ho27; obtain ⟨Ao28, co28, eo28⟩ := Kd.R_slice HO285.out; subst eo28) | ((with_reducible refine gate_callee (f := 80) rfl ?_); refine goesL_ (some 9) rfl rfl Try.func80 B8x30_ rfl #[.pointer (some ⟨g, 0, none⟩), .slice Ao28 y283.length co28] rfl B8x0_ ?_; (with_reducible refine (spec_l01PickInt.calls g s0_0 s0_1 s0_2 _ _ y283 t286 t287 t288 w0 _ ?side1 ?side2 ?side3 ?side4 ?side5 A3.out).mono ?_); (case side1 => exact B8x7_); (case side2 => exact B8x14_); (case side3 => exact B8x35_); (case side4 => exact (Kd.R_reads' HO285.out).2.1); (case side5 => exact B8x39_); rintro e w29 ⟨rfl, hi, hb, hk⟩; refine ⟨_, rfl, ?_⟩; replace BK282 := Aside0.mk (kb hk BK282.out NB282_0.out); replace HO285 := Aside0.mk (Kd.R_mono (Kd.R_keep (IsS107.apart (show IsS107 w0 _ g s0_0 s0_1 s0_2 from B8x7_) B8x25_ (by decide)) hk (fun _ h => h.2)) (fun _ h => h.1)); replace HK := Aside0.mk (KeepBut.trans B8x11_ hk (.inl rfl)); replace HB := Aside0.mk (hb); replace HI0 := Aside0.mk (hi); (try clear hb hk hi)) | ((with_reducible refine gate_dst (N := 5) rfl ?_); refine box_event ?hg (N := 5) ?hd (cs := #[.int .i64 0, .int .i64 0, .string (⟨#[]⟩ : ByteArray)]) (t := 28) ?hr ?_; (case hd => rfl); (case hg => rfl); (case hr => exact B8x22_); intro gb289 hg w30 hbox hb; replace HO285 := Aside0.mk (Kd.R_below B8x25_ hb); replace HB := Aside0.mk (below_step B8x14_ hb); have BK289 := Aside0.mk (hbox); have GW289 := Aside0.mk ((bs hg (keep_size HK.out))); have GE289 := Aside0.mk ((Nat.le_trans HW0.out (bs hg (keep_size HK.out)) : w0.heap.size ≤ gb289)); replace HK := Aside0.mk (KeepBut.trans B8x11_ (KeepBut.of_below hb g none) (.inl rfl)); have NB282_289 := Aside0.mk ((nl hg (blk_lt BK282.out))); have NB289_282 := Aside0.mk ((ng hg (blk_lt BK282.out))); replace BK282 := Aside0.mk (bb BK282.out hb); have NB0_289 := Aside0.mk ((nl hg (IsS107.lt HI0.out))); have NB289_0 := Aside0.mk ((ng hg (IsS107.lt HI0.out))); replace HI0 := Aside0.mk (IsS107.below B8x7_ hb); clear hb hbox hg; have hnb31 := NB289_282.out; have hnc31 := NB282_289.out; have hnb32 := NB289_0.out; have hnc32 := NB0_289.out; obtain ⟨hcz33_0, hcz33_1, hcz33_2⟩ := cl3 BK289.out; obtain ⟨hfz33_0, hfz33_1, hfz33_2⟩ := fr3 BK289.out) | ((with_reducible refine gate_callee (f := 84) rfl ?_); refine goesL_ (some 26) rfl rfl Try.func84 B8x30_ rfl #[.pointer (some ⟨g, 0, none⟩)] rfl B8x0_ ?_; (with_reducible refine (spec_l16Right.calls k g s0_0 t287 t288 t297 t298 t299 t300 t301 t302 t303 t304 w0 _ ?side1 ?side2 A23.out).mono ?_); (case side1 => exact B8x10_); (case side2 => exact B8x16_); rintro e w34 ⟨rfl, hi, hb, hk⟩; refine ⟨_, rfl, ?_⟩; replace BK282 := Aside0.mk (KeepBut.blk hk (g' := gb282) (o := .cells #[.int .i64 0, .int .i64 0, .string (⟨#[]⟩ : ByteArray)] 28 (0, 0)) B8x19_ NB282_0.out (by simp)); replace HO285 := Aside0.mk (Kd.R_mono (Kd.R_keep (IsS107.apart (show IsS107 w0 _ g s0_0 t287 t288 from B8x10_) B8x23_ (by decide)) hk (fun _ h => h.2)) (fun _ h => h.1)); replace BK289 := Aside0.mk (KeepBut.blk hk (g' := gb289) (o := .cells #[.int .i64 a1, .int .i64 t286, .string (⟨#[]⟩ : ByteArray)] 28 (0, 0)) B8x37_ NB289_0.out (by simp)); replace HK := Aside0.mk (KeepBut.trans B8x15_ hk (.inl rfl)); replace HB := Aside0.mk (hb); replace HI0 := Aside0.mk (hi); (try clear hb hk hi)) | ((with_reducible refine gate_callee (f := 79) rfl ?_); refine goesL_ (some 27) rfl rfl Try.func79 B8x30_ rfl #[.agg #[.int .i64 t297, .int .i64 t298, .int .i64 t299, .string t300, .string t301, .int .i64 t302]] rfl B8x0_ ?_; (with_reducible refine (spec_CommandText.calls k t297 t298 t299 t300 t301 t302 t305 t306 _ A24.out).mono ?_); rintro e w35 ⟨rfl, hb⟩; refine ⟨_, rfl, ?_⟩; replace HO285 := Aside0.mk (Kd.R_below B8x25_ hb); replace BK282 := Aside0.mk (bb BK282.out hb); replace BK289 := Aside0.mk (bb BK289.out hb); replace HK := Aside0.mk (KeepBut.trans B8x15_ (KeepBut.of_below hb g none) (.inl rfl)); replace HB := Aside0.mk (below_step B8x16_ hb); replace HI0 := Aside0.mk (IsS107.below B8x10_ hb); (try clear hb); obtain ⟨hcz36_0, hcz36_1, hcz36_2⟩ := cl3 BK289.out; obtain ⟨hfz36_0, hfz36_1, hfz36_2⟩ := fr3 BK289.out; have hnb37 := NB282_0.out; have hnc37 := NB0_282.out; obtain ⟨hcz38_0, hcz38_1, hcz38_2⟩ := cl3 BK282.out; obtain ⟨hfz38_0, hfz38_1, hfz38_2⟩ := fr3 BK282.out))
   refine bodyPost_ret (results_cell_row rfl _ _ gb282 28 #[.int .i64 a1, .int .i64 t286, .string t305] (0, 0) _ rfl B8x19_ Try.underlying28 rfl B8x30_) rfl ?_
   exact ⟨B8x27_, B8x10_, B8x16_, B8x15_⟩
  ·rw [if_neg c22] at H
   have c22b0 := beq_eq_false_iff_ne.mpr c22
   have c22b1 := bne_iff_ne.mpr c22
   simp only [Option.some.injEq, Prod.mk.injEq] at H
   obtain ⟨rfl, rfl, rfl, rfl, rfl⟩ := H
   go_enter Try.func40, Try.ntmps40
   go_wp2_with (first | ((with_reducible refine gate_dst (N := 4) rfl ?_); refine box_event ?hg (N := 4) ?hd (cs := #[.int .i64 0, .int .i64 0, .string (⟨#[]⟩ : ByteArray)]) (t := 28) ?hr ?_; (case hd => rfl); (case hg => rfl); (case hr => exact B8x22_); intro gb282 hg w39 hbox hb; replace HB := Aside0.mk (below_step B8x18_ hb); have BK282 := Aside0.mk (hbox); have GW282 := Aside0.mk ((bs hg (keep_size HK.out))); have GE282 := Aside0.mk ((Nat.le_trans HW0.out (bs hg (keep_size HK.out)) : w0.heap.size ≤ gb282)); replace HK := Aside0.mk (KeepBut.trans B8x20_ (KeepBut.of_below hb g none) (.inl rfl)); have NB0_282 := Aside0.mk ((nl hg (IsS107.lt HI0.out))); have NB282_0 := Aside0.mk ((ng hg (IsS107.lt HI0.out))); replace HI0 := Aside0.mk (IsS107.below B8x17_ hb); clear hb hbox hg) | ((with_reducible refine gate_dst (N := 8) rfl ?_); refine Kd.R_lit (Kd.int .i64) _ 3 ?hg (N := 8) ?hd (xs := ([1, 2, 3, 3, 3] : List Int)) (inner := [.int .i64 1, .int .i64 2, .int .i64 3, .int .i64 3, .int .i64 3]) (ok := fun _ => True) (okp := fun _ => True) ?hr ?hp (fun _ hk => hk) trivial (Below.refl _ _) (Nat.le_refl _) (by simp) ?_; (case hd => rfl); (case hg => rfl); (case hr => exact B8x22_); (case hp => exact B8x26_); intro v284 w40 ho41 hb hg_ hnew_; clear hg_ hnew_; (first | rw [← Ny283.out] at ho41 | (simp only [Int.reduceToNat] at ho41; rw [← Ny283.out] at ho41)); have HO285 := Aside0.mk (Kd.R_lower ho41 (keep_size (w := w) (g := g) (row := none) B8x11_)); replace BK282 := Aside0.mk (bb BK282.out hb); replace HK := Aside0.mk (KeepBut.trans B8x11_ (KeepBut.of_below hb g none) (.inl rfl)); replace HB := Aside0.mk (below_step B8x14_ hb); replace HI0 := Aside0.mk (IsS107.below B8x7_ hb); clear hb ho41; obtain ⟨Ao42, co42, eo42⟩ := Kd.R_slice HO285.out; subst eo42) | ((with_reducible refine gate_callee (f := 80) rfl ?_); refine goesL_ (some 9) rfl rfl Try.func80 B8x30_ rfl #[.pointer (some ⟨g, 0, none⟩), .slice Ao42 y283.length co42] rfl B8x0_ ?_; (with_reducible refine (spec_l01PickInt.calls g s0_0 s0_1 s0_2 _ _ y283 t286 t287 t288 w0 _ ?side1 ?side2 ?side3 ?side4 ?side5 A3.out).mono ?_); (case side1 => exact B8x7_); (case side2 => exact B8x14_); (case side3 => exact B8x35_); (case side4 => exact (Kd.R_reads' HO285.out).2.1); (case side5 => exact B8x39_); rintro e w43 ⟨rfl, hi, hb, hk⟩; refine ⟨_, rfl, ?_⟩; replace BK282 := Aside0.mk (kb hk BK282.out NB282_0.out); replace HO285 := Aside0.mk (Kd.R_mono (Kd.R_keep (IsS107.apart (show IsS107 w0 _ g s0_0 s0_1 s0_2 from B8x7_) B8x25_ (by decide)) hk (fun _ h => h.2)) (fun _ h => h.1)); replace HK := Aside0.mk (KeepBut.trans B8x11_ hk (.inl rfl)); replace HB := Aside0.mk (hb); replace HI0 := Aside0.mk (hi); (try clear hb hk hi)) | ((with_reducible refine gate_dst (N := 5) rfl ?_); refine box_event ?hg (N := 5) ?hd (cs := #[.int .i64 0, .int .i64 0, .string (⟨#[]⟩ : ByteArray)]) (t := 28) ?hr ?_; (case hd => rfl); (case hg => rfl); (case hr => exact B8x22_); intro gb289 hg w44 hbox hb; replace HO285 := Aside0.mk (Kd.R_below B8x25_ hb); replace HB := Aside0.mk (below_step B8x14_ hb); have BK289 := Aside0.mk (hbox); have GW289 := Aside0.mk ((bs hg (keep_size HK.out))); have GE289 := Aside0.mk ((Nat.le_trans HW0.out (bs hg (keep_size HK.out)) : w0.heap.size ≤ gb289)); replace HK := Aside0.mk (KeepBut.trans B8x11_ (KeepBut.of_below hb g none) (.inl rfl)); have NB282_289 := Aside0.mk ((nl hg (blk_lt BK282.out))); have NB289_282 := Aside0.mk ((ng hg (blk_lt BK282.out))); replace BK282 := Aside0.mk (bb BK282.out hb); have NB0_289 := Aside0.mk ((nl hg (IsS107.lt HI0.out))); have NB289_0 := Aside0.mk ((ng hg (IsS107.lt HI0.out))); replace HI0 := Aside0.mk (IsS107.below B8x7_ hb); clear hb hbox hg; have hnb45 := NB289_282.out; have hnc45 := NB282_289.out; have hnb46 := NB289_0.out; have hnc46 := NB0_289.out; obtain ⟨hcz47_0, hcz47_1, hcz47_2⟩ := cl3 BK289.out; obtain ⟨hfz47_0, hfz47_1, hfz47_2⟩ := fr3 BK289.out; have hnb48 := NB282_0.out; have hnc48 := NB0_282.out; obtain ⟨hcz49_0, hcz49_1, hcz49_2⟩ := cl3 BK282.out; obtain ⟨hfz49_0, hfz49_1, hfz49_2⟩ := fr3 BK282.out))
   refine bodyPost_ret (results_cell_row rfl _ _ gb282 28 #[.int .i64 a1, .int .i64 t286, .string (⟨#[]⟩ : ByteArray)] (0, 0) _ rfl B8x19_ Try.underlying28 rfl B8x30_) rfl ?_
   exact ⟨B8x27_, B8x10_, B8x16_, B8x15_⟩

/-! ### spec_l01Long: function 81 -/
def spec_l01Long.l0 : Nat → Int → Int → List Int → Int → Option (ByteArray)
 | 0, _, _, _, _ => none
 | k + 1, x0, x1, x5, x6 => if x6 < x0 then (if 0 ≤ x6 then (if x6 < (x5.length : Int) then (spec_l01Long.l0 k x0 x1 (x5.set (x6 : Int).toNat x1) (wrap64 (x6 + 1))) else (none)) else (none)) else (some (strOfNums x5))
def spec_l01Long.f (k : Nat) (a0 : Int) (a1 : Int) : Option (ByteArray) := if 0 ≤ a0 then (if (a0 : Int).toNat ≤ 281474976710656 then (spec_l01Long.l0 k a0 a1 (List.replicate (a0 : Int).toNat 0) 0) else (none)) else (none)
theorem spec_l01Long.mono_l : ∀ k, (∀ y0 y1 y2 y3, LeO (spec_l01Long.l0 k y0 y1 y2 y3) (spec_l01Long.l0 (k + 1) y0 y1 y2 y3))
 | 0 => fun _ _ _ _ r h => by simp [spec_l01Long.l0] at h
 | k + 1 => by
  have ih0 := spec_l01Long.mono_l k
  ·intro y0 y1 y2 y3
   unfold spec_l01Long.l0
   repeat' first
   | (with_reducible exact ih0 _ _ _ _)
   | (with_reducible first | exact LeO.refl _ | exact LeO.none _ | refine LeO.ite ?_ ?_ | refine LeO.bind ?_ (fun _ => ?_))
   | exact ih0 _ _ _ _
theorem spec_l01Long.mono : ∀ a0 a1 k, LeO (spec_l01Long.f k a0 a1) (spec_l01Long.f (k + 1) a0 a1) := by
 intro a0 a1 k
 have ih0 := spec_l01Long.mono_l k
 unfold spec_l01Long.f
 repeat' first
   | (with_reducible exact ih0 _ _ _ _)
   | (with_reducible first | exact LeO.refl _ | exact LeO.none _ | refine LeO.ite ?_ ?_ | refine LeO.bind ?_ (fun _ => ?_))
   | exact ih0 _ _ _ _
set_option maxHeartbeats 8000000 in
set_option maxRecDepth 100000 in
theorem spec_l01Long.calls (k : Nat) (a0 : Int) (a1 : Int) (r : ByteArray) (w : World) (h : spec_l01Long.f k a0 a1 = some r) :
  Calls Try.prog 81 #[.int .i64 a0, .int .u8 a1] w fun e w' => e = .returned (.string r) ∧ Below w.heap.size w w' := by
 have HB := Aside0.mk (Below.refl w.heap.size w)
 have H : (if 0 ≤ a0 then (if (a0 : Int).toNat ≤ 281474976710656 then (spec_l01Long.l0 k a0 a1 (List.replicate (a0 : Int).toNat 0) 0) else (none)) else (none)) = some r := h
 clear h
 by_cases c3 : 0 ≤ a0
 rotate_left
 ·rw [if_neg c3] at H
  exact absurd H (by simp)
 rw [if_pos c3] at H
 have c3b0 := eq_true c3
 have c3b1 : decide (0 ≤ a0) = true := decide_eq_true c3
 clear c3
 by_cases c4 : (a0 : Int).toNat ≤ 281474976710656
 rotate_left
 ·rw [if_neg c4] at H
  exact absurd H (by simp)
 rw [if_pos c4] at H
 have c4b0 := eq_true c4
 have c4b1 : decide ((a0 : Int).toNat ≤ 281474976710656) = true := decide_eq_true c4
 clear c4
 obtain ⟨y307, hy307⟩ : ∃ y_ : List Int, y_ = (List.replicate (a0 : Int).toNat 0) := ⟨_, rfl⟩
 replace H : (spec_l01Long.l0 k a0 a1 y307 0) = some r := by first | (rw [hy307]; with_reducible exact H) | (have H2_ := (Option.bind_some _ _).symm.trans H; rw [hy307]; with_reducible exact H2_) | (have H2_ := (Option.bind_some _ _).symm.trans H; with_reducible exact H2_) | with_reducible exact H | (rw [hy307]; exact H) | exact H
 have Ny307 := Aside0.mk hy307
 clear hy307
 have H' := Aside0.mk H
 clear H
 go_enter Try.func81, Try.ntmps81
 go_wp2_with (first | ((with_reducible refine gate_dst (N := 8) rfl ?_); refine Kd.R_make (Kd.int .u8) _ 5 rfl (N := 8) rfl 22 _ _ rfl a0 rfl rfl Try.underlying22 (.int .u8 0) 1 info5 rfl (by decide) (by omega) 0 (ok := fun _ => True) (okp := fun _ => True) rfl (fun _ hk => hk) trivial (of_decide_eq_true B8x38_) (Nat.le_trans (Nat.mul_le_mul_right _ (of_decide_eq_true B8x38_ : a0.toNat ≤ 281474976710656)) (by omega)) (Below.refl _ _) (Nat.le_refl _) ?_; intro v308 w5 ho6 hb hg_ hnew_; clear hg_ hnew_; (first | rw [← Ny307.out] at ho6 | (simp only [Int.reduceToNat] at ho6; rw [← Ny307.out] at ho6)); have HO309 := Aside0.mk (Kd.R_lower ho6 (below_size B8x33_)); replace HB := Aside0.mk (below_step B8x33_ hb); clear hb ho6))
 go_loopg [6] k (fun kq v6 w' => ∃ (x5_1 : List Int) (x6_1 : Int), v6 = .int .i64 x6_1 ∧ Aside0 (spec_l01Long.l0 kq a0 a1 x5_1 x6_1 = some r) ∧ Aside0 (kq ≤ k) ∧ Aside0 (Kd.R (Kd.int .u8) 5 w' w.heap.size (fun _ => True) v308 x5_1) ∧ Aside0 (Below w.heap.size w w'))
 case atStart => exact ⟨(y307), (0), (be_), H', ⟨Nat.le_refl _⟩, ⟨(by (with_reducible repeat (first | apply Kd.R_alloc | apply Kd.R_drewN | apply Kd.R_drew)); exact HO309.out)⟩, ⟨B8x33_⟩⟩
 case round =>
  clear H'
  try clear c3
  try clear c3b0
  try clear c3b1
  try clear c4
  try clear c4b0
  try clear c4b1
  obtain ⟨x5_1, x6_1, rfl, HA, HK1, HO_5, HB⟩ := hrel
  cases gk with
  | zero => exact absurd HA.out (by simp [spec_l01Long.l0])
  | succ k1 =>
   have H := HA.out
   clear HA
   simp only [spec_l01Long.l0] at H
   by_cases c7 : x6_1 < a0
   ·rw [if_pos c7] at H
    have c7b0 : decide (x6_1 < a0) = true := decide_eq_true c7
    clear c7
    by_cases c8 : 0 ≤ x6_1
    rotate_left
    ·rw [if_neg c8] at H
     exact absurd H (by simp)
    rw [if_pos c8] at H
    have c8b0 : decide (0 ≤ x6_1) = true := decide_eq_true c8
    clear c8
    by_cases c9 : x6_1 < (x5_1.length : Int)
    rotate_left
    ·rw [if_neg c9] at H
     exact absurd H (by simp)
    rw [if_pos c9] at H
    have c9b0 : decide (x6_1 < (x5_1.length : Int)) = true := decide_eq_true c9
    clear c9
    obtain ⟨y310, hy310⟩ : ∃ y_ : List Int, y_ = (x5_1.set (x6_1 : Int).toNat a1) := ⟨_, rfl⟩
    replace H : (spec_l01Long.l0 k1 a0 a1 y310 (wrap64 (x6_1 + 1))) = some r := by first | (rw [hy310]; with_reducible exact H) | (have H2_ := (Option.bind_some _ _).symm.trans H; rw [hy310]; with_reducible exact H2_) | (have H2_ := (Option.bind_some _ _).symm.trans H; with_reducible exact H2_) | with_reducible exact H | (rw [hy310]; exact H) | exact H
    have Ny310 := Aside0.mk hy310
    clear hy310
    have H' := Aside0.mk H
    clear H
    have p10 : 0 ≤ (x6_1 : Int) := of_decide_eq_true B8x38_
    have q10 : (x6_1 : Int) < ((x5_1.length : Int) : Int) := of_decide_eq_true B8x38_
    obtain ⟨go10, co10, eo10, gb10, gl10, cl10, HG10⟩ := Kd.R_form HO_5.out (by omega)
    (first | cases eo10 | (injection eo10 with ea_ en_ ec_; (first | subst ea_ | (injection ea_ with ea_; subst ea_)); subst ec_; clear en_))
    have GB10 := Aside0.mk gb10
    have GG10 := Aside0.mk HG10
    clear gb10 gl10 HG10
    obtain ⟨hx10_0, hf10_0⟩ := Kd.R_celln 0 HO_5.out (x6_1 : Int) p10 q10
    replace p10 := eq_true p10
    replace q10 := eq_true q10
    have HP11 := Kd.R_putg HO_5.out (x6_1 : Int) a1
    go_wp2_with (first | ((with_reducible refine gate_store (t := 5) (p := 17) rfl ?_); refine store_event (t := 5) (p := 17) (v := ?vo_w12) (w1 := (wr.setCell ⟨go10, (x6_1 : Int).toNat, none⟩ (.int .u8 a1))) ?hg ?ho ?hn ?hr ?_; (case ho => rfl); (case hg => rfl); (case hn => rfl); (case hr => exact B8x22_); intro w12 hw; have hg : wr.grownBy w12 (some go10) := (by rw [hw]; exact HP11.2); have hp_ : Kd.R (Kd.int .u8) 5 w12 w.heap.size (fun _ => True) (.slice (some ⟨go10, 0, none⟩) x5_1.length co10) y310 := (by rw [hw, Ny310.out]; exact HP11.1); clear HP11; replace HO_5 := Aside0.mk (hp_); replace HB := Aside0.mk ((by rw [hw]; exact below_set (HB.out) GB10.out : Below w.heap.size w w12)); clear hg hw hp_))
    go_roundg k1
    case measure => have := HK1.out; omega
    case rel => exact ⟨(y310), (wrap64 (x6_1 + 1)), (be_), H', ⟨B8x43_⟩, ⟨(by (with_reducible repeat (first | apply Kd.R_alloc | apply Kd.R_drewN | apply Kd.R_drew)); exact HO_5.out)⟩, ⟨B8x33_⟩⟩
   ·rw [if_neg c7] at H
    have c7b0 : decide (x6_1 < a0) = false := decide_eq_false c7
    clear c7
    obtain rfl := Option.some.inj H
    have hcv13 := own_string (P := Try.prog) Try.underlying22 Try.underlying5 Try.underlying9 (Kd.own_of_R HO_5.out)
    go_wp2
    go_ret
    exact ⟨B8x27_, B8x33_⟩

/-! ### spec_l05Any: function 43 -/
def spec_l05Any.f (k : Nat) (s0_0 : List Int) (s0_1 : Int) (s0_2 : Int) : Option (Int × Int × ByteArray × Int × Int) := (spec_l01Below.f s0_0 s0_1 s0_2 9).bind fun bt312 => ((spec_l05Right.f k s0_0 bt312.2.1 bt312.2.2 bt312.1).bind fun bt315 => ((spec_l01Below.f s0_0 bt315.2.2.2.1 bt315.2.2.2.2 30).bind fun bt321 => (if bt321.1 = 0 then ((spec_l01PickInt.f s0_0 bt321.2.1 bt321.2.2 (([(-1), 100000, 100001] : List Int))).bind fun bt327 => (some (bt327.1, bt315.2.1, bt315.2.2.1, bt327.2.1, bt327.2.2))) else (if bt321.1 = 1 then ((spec_l01PickInt.f s0_0 bt321.2.1 bt321.2.2 (([0, 4, 1, 2] : List Int))).bind fun bt333 => (some (bt315.1, bt333.1, bt315.2.2.1, bt333.2.1, bt333.2.2))) else (if bt321.1 = 2 then ((spec_l01Below.f s0_0 bt321.2.1 bt321.2.2 2).bind fun bt336 => ((spec_l01Long.f k (wrap64 (120 + bt336.1)) 65).bind fun t339 => (some (0, 3, t339, bt336.2.1, bt336.2.2)))) else (some (bt315.1, bt315.2.1, bt315.2.2.1, bt321.2.1, bt321.2.2)))))))
theorem spec_l05Any.mono : ∀ a0 a1 a2 k, LeO (spec_l05Any.f k a0 a1 a2) (spec_l05Any.f (k + 1) a0 a1 a2) := by
 intro a0 a1 a2 k
 unfold spec_l05Any.f
 repeat' first
   | (with_reducible exact spec_l01Long.mono _ _ _)
   | (with_reducible exact spec_l05Right.mono _ _ _ _ _)
   | (with_reducible first | exact LeO.refl _ | exact LeO.none _ | refine LeO.ite ?_ ?_ | refine LeO.bind ?_ (fun _ => ?_))
   | exact spec_l01Long.mono _ _ _
   | exact spec_l05Right.mono _ _ _ _ _
set_option maxHeartbeats 8000000 in
set_option maxRecDepth 100000 in
theorem spec_l05Any.calls (k : Nat) (g : Nat) (s0_0 : List Int) (s0_1 : Int) (s0_2 : Int) (r1 : Int) (r2 : Int) (r3 : ByteArray) (r4 : Int) (r5 : Int) (w0 w : World) (hI : IsS107 w0 w g s0_0 s0_1 s0_2) (hB : Below w0.heap.size w0 w) (h : spec_l05Any.f k s0_0 s0_1 s0_2 = some (r1, r2, r3, r4, r5)) :
  Calls Try.prog 43 #[.pointer (some ⟨g, 0, none⟩)] w fun e w' => e = .returned (.agg #[.int .i64 r1, .int .i64 r2, .string r3]) ∧ IsS107 w0 w' g s0_0 r4 r5 ∧ Below w0.heap.size w0 w' ∧ KeepBut w w' g none := by
 have hu28 := Try.underlying28
 have HI0 := Aside0.mk hI
 have HK := Aside0.mk (KeepBut.refl w g none)
 have HL := Aside0.mk hB.size
 clear hI
 have HW0 := Aside0.mk hB.size
 have HB := Aside0.mk hB
 clear hB
 have H : ((spec_l01Below.f s0_0 s0_1 s0_2 9).bind fun bt312 => ((spec_l05Right.f k s0_0 bt312.2.1 bt312.2.2 bt312.1).bind fun bt315 => ((spec_l01Below.f s0_0 bt315.2.2.2.1 bt315.2.2.2.2 30).bind fun bt321 => (if bt321.1 = 0 then ((spec_l01PickInt.f s0_0 bt321.2.1 bt321.2.2 (([(-1), 100000, 100001] : List Int))).bind fun bt327 => (some (bt327.1, bt315.2.1, bt315.2.2.1, bt327.2.1, bt327.2.2))) else (if bt321.1 = 1 then ((spec_l01PickInt.f s0_0 bt321.2.1 bt321.2.2 (([0, 4, 1, 2] : List Int))).bind fun bt333 => (some (bt315.1, bt333.1, bt315.2.2.1, bt333.2.1, bt333.2.2))) else (if bt321.1 = 2 then ((spec_l01Below.f s0_0 bt321.2.1 bt321.2.2 2).bind fun bt336 => ((spec_l01Long.f k (wrap64 (120 + bt336.1)) 65).bind fun t339 => (some (0, 3, t339, bt336.2.1, bt336.2.2)))) else (some (bt315.1, bt315.2.1, bt315.2.2.1, bt321.2.1, bt321.2.2)))))))) = some (r1, r2, r3, r4, r5) := h
 clear h
 replace H := bsi H
 obtain ⟨⟨t312, t313, t314⟩, A2, H⟩ := H
 (try dsimp only at H)
 replace H := bsi H
 obtain ⟨⟨t315, t316, t317, t318, t319⟩, A3, H⟩ := H
 (try dsimp only at H)
 replace H := bsi H
 obtain ⟨⟨t321, t322, t323⟩, A4, H⟩ := H
 (try dsimp only at H)
 by_cases c5 : t321 = 0
 ·rw [if_pos c5] at H
  have c5b0 := beq_iff_eq.mpr c5
  have c5b1 := bne_eq_false_iff_eq.mpr c5
  clear c5
  obtain ⟨y324, hy324⟩ : ∃ y_ : List Int, y_ = (([(-1), 100000, 100001] : List Int)) := ⟨_, rfl⟩
  replace H : ((spec_l01PickInt.f s0_0 t322 t323 y324).bind fun bt327 => (some (bt327.1, t316, t317, bt327.2.1, bt327.2.2))) = some (r1, r2, r3, r4, r5) := by first | (rw [hy324]; with_reducible exact H) | (have H2_ := (Option.bind_some _ _).symm.trans H; rw [hy324]; with_reducible exact H2_) | (have H2_ := (Option.bind_some _ _).symm.trans H; with_reducible exact H2_) | with_reducible exact H | (rw [hy324]; exact H) | exact H
  have Ny324 := Aside0.mk hy324
  clear hy324
  replace H := bsi H
  obtain ⟨⟨t327, t328, t329⟩, A6, H⟩ := H
  (try dsimp only at H)
  simp only [Option.some.injEq, Prod.mk.injEq] at H
  obtain ⟨rfl, rfl, rfl, rfl, rfl⟩ := H
  go_enter Try.func43, Try.ntmps43
  go_wp2_with (first | ((with_reducible refine gate_dst (N := 2) rfl ?_); refine box_event ?hg (N := 2) ?hd (cs := #[.int .i64 0, .int .i64 0, .string (⟨#[]⟩ : ByteArray)]) (t := 28) ?hr ?_; (case hd => rfl); (case hg => rfl); (case hr => exact B8x22_); intro gb311 hg w7 hbox hb; replace HB := Aside0.mk (below_step B8x18_ hb); have BK311 := Aside0.mk (hbox); have GW311 := Aside0.mk ((bs hg (keep_size HK.out))); have GE311 := Aside0.mk ((Nat.le_trans HW0.out (bs hg (keep_size HK.out)) : w0.heap.size ≤ gb311)); replace HK := Aside0.mk (KeepBut.trans B8x20_ (KeepBut.of_below hb g none) (.inl rfl)); have NB0_311 := Aside0.mk ((nl hg (IsS107.lt HI0.out))); have NB311_0 := Aside0.mk ((ng hg (IsS107.lt HI0.out))); replace HI0 := Aside0.mk (IsS107.below B8x17_ hb); clear hb hbox hg) | ((with_reducible refine gate_callee (f := 41) rfl ?_); refine goesL_ (some 6) rfl rfl Try.func41 B8x30_ rfl #[.pointer (some ⟨g, 0, none⟩), .int .i64 9] rfl B8x0_ ?_; (with_reducible refine (spec_l01Below.calls g s0_0 s0_1 s0_2 9 t312 t313 t314 w0 _ ?side1 ?side2 A2.out).mono ?_); (case side1 => exact B8x8_); (case side2 => exact B8x9_); rintro e w8 ⟨rfl, hi, hb, hk⟩; refine ⟨_, rfl, ?_⟩; replace BK311 := Aside0.mk (kb hk BK311.out NB311_0.out); replace HK := Aside0.mk (KeepBut.trans B8x12_ hk (.inl rfl)); replace HB := Aside0.mk (hb); replace HI0 := Aside0.mk (hi); (try clear hb hk hi)) | ((with_reducible refine gate_callee (f := 40) rfl ?_); refine goesL_ (some 7) rfl rfl Try.func40 B8x30_ rfl #[.pointer (some ⟨g, 0, none⟩), .int .i64 t312] rfl B8x0_ ?_; (with_reducible refine (spec_l05Right.calls k g s0_0 t313 t314 t312 t315 t316 t317 t318 t319 w0 _ ?side1 ?side2 A3.out).mono ?_); (case side1 => exact B8x8_); (case side2 => exact B8x9_); rintro e w9 ⟨rfl, hi, hb, hk⟩; refine ⟨_, rfl, ?_⟩; replace BK311 := Aside0.mk (kb hk BK311.out NB311_0.out); replace HK := Aside0.mk (KeepBut.trans B8x12_ hk (.inl rfl)); replace HB := Aside0.mk (hb); replace HI0 := Aside0.mk (hi); (try clear hb hk hi)) | ((with_reducible refine gate_dst (N := 3) rfl ?_); refine box_event ?hg (N := 3) ?hd (cs := #[.int .i64 0, .int .i64 0, .string (⟨#[]⟩ : ByteArray)]) (t := 28) ?hr ?_; (case hd => rfl); (case hg => rfl); (case hr => exact B8x22_); intro gb320 hg w10 hbox hb; replace HB := Aside0.mk (below_step B8x9_ hb); have BK320 := Aside0.mk (hbox); have GW320 := Aside0.mk ((bs hg (keep_size HK.out))); have GE320 := Aside0.mk ((Nat.le_trans HW0.out (bs hg (keep_size HK.out)) : w0.heap.size ≤ gb320)); replace HK := Aside0.mk (KeepBut.trans B8x12_ (KeepBut.of_below hb g none) (.inl rfl)); have NB311_320 := Aside0.mk ((nl hg (blk_lt BK311.out))); have NB320_311 := Aside0.mk ((ng hg (blk_lt BK311.out))); replace BK311 := Aside0.mk (bb BK311.out hb); have NB0_320 := Aside0.mk ((nl hg (IsS107.lt HI0.out))); have NB320_0 := Aside0.mk ((ng hg (IsS107.lt HI0.out))); replace HI0 := Aside0.mk (IsS107.below B8x8_ hb); clear hb hbox hg; have hnb11 := NB320_311.out; have hnc11 := NB311_320.out; have hnb12 := NB320_0.out; have hnc12 := NB0_320.out; obtain ⟨hcz13_0, hcz13_1, hcz13_2⟩ := cl3 BK320.out; obtain ⟨hfz13_0, hfz13_1, hfz13_2⟩ := fr3 BK320.out) | ((with_reducible refine gate_callee (f := 41) rfl ?_); refine goesL_ (some 9) rfl rfl Try.func41 B8x30_ rfl #[.pointer (some ⟨g, 0, none⟩), .int .i64 30] rfl B8x0_ ?_; (with_reducible refine (spec_l01Below.calls g s0_0 t318 t319 30 t321 t322 t323 w0 _ ?side1 ?side2 A4.out).mono ?_); (case side1 => exact B8x2_); (case side2 => exact B8x4_); rintro e w14 ⟨rfl, hi, hb, hk⟩; refine ⟨_, rfl, ?_⟩; replace BK311 := Aside0.mk (KeepBut.blk hk (g' := gb311) (o := .cells #[.int .i64 0, .int .i64 0, .string (⟨#[]⟩ : ByteArray)] 28 (0, 0)) B8x13_ NB311_0.out (by simp)); replace BK320 := Aside0.mk (KeepBut.blk hk (g' := gb320) (o := .cells #[.int .i64 t315, .int .i64 t316, .string t317] 28 (0, 0)) B8x24_ NB320_0.out (by simp)); replace HK := Aside0.mk (KeepBut.trans B8x3_ hk (.inl rfl)); replace HB := Aside0.mk (hb); replace HI0 := Aside0.mk (hi); (try clear hb hk hi)) | ((with_reducible refine gate_dst (N := 13) rfl ?_); refine Kd.R_lit (Kd.int .i64) _ 3 ?hg (N := 13) ?hd (xs := ([(-1), 100000, 100001] : List Int)) (inner := [.int .i64 (-1), .int .i64 100000, .int .i64 100001]) (ok := fun _ => True) (okp := fun _ => True) ?hr ?hp (fun _ hk => hk) trivial (Below.refl _ _) (Nat.le_refl _) (by simp) ?_; (case hd => rfl); (case hg => rfl); (case hr => exact B8x22_); (case hp => exact (Reps.one (show Kd.M (Kd.int .i64) _ _ _ (-1) [.int .i64 (-1)] from rfl) (Reps.one (show Kd.M (Kd.int .i64) _ _ _ 100000 [.int .i64 100000] from rfl) (Reps.one (show Kd.M (Kd.int .i64) _ _ _ 100001 [.int .i64 100001] from rfl) (Reps.none _ _))))); intro v325 w15 ho16 hb hg_ hnew_; clear hg_ hnew_; (first | rw [← Ny324.out] at ho16 | (simp only [Int.reduceToNat] at ho16; rw [← Ny324.out] at ho16)); have HO326 := Aside0.mk (Kd.R_lower ho16 (keep_size (w := w) (g := g) (row := none) B8x3_)); replace BK311 := Aside0.mk (bb BK311.out hb); replace BK320 := Aside0.mk (bb BK320.out hb); replace HK := Aside0.mk (KeepBut.trans B8x3_ (KeepBut.of_below hb g none) (.inl rfl)); replace HB := Aside0.mk (below_step B8x4_ hb); replace HI0 := Aside0.mk (IsS107.below B8x2_ hb); clear hb ho16; obtain ⟨Ao17, co17, eo17⟩ := Kd.R_slice HO326.out; subst eo17) | ((with_reducible refine gate_callee (f := 80) rfl ?_); refine goesL_ (some 14) rfl rfl Try.func80 B8x30_ rfl #[.pointer (some ⟨g, 0, none⟩), .slice Ao17 y324.length co17] rfl B8x0_ ?_; (with_reducible refine (spec_l01PickInt.calls g s0_0 t322 t323 _ _ y324 t327 t328 t329 w0 _ ?side1 ?side2 ?side3 ?side4 ?side5 A6.out).mono ?_); (case side1 => exact B8x2_); (case side2 => exact B8x4_); (case side3 => repeat (first | exact (Kd.R_reads' HO326.out).2.2 | (with_reducible refine Kd.C_alloc ?_ _) | (with_reducible refine Kd.C_drewN ?_ _) | (with_reducible refine Kd.C_drew ?_))); (case side4 => exact (Kd.R_reads' HO326.out).2.1); (case side5 => exact far_slice (IsS107.own_ne HI0.out HO326.out (by decide))); rintro e w18 ⟨rfl, hi, hb, hk⟩; refine ⟨_, rfl, ?_⟩; replace BK311 := Aside0.mk (kb hk BK311.out NB311_0.out); replace BK320 := Aside0.mk (kb hk BK320.out NB320_0.out); replace HO326 := Aside0.mk (Kd.R_mono (Kd.R_keep (IsS107.apart (show IsS107 w0 _ g s0_0 t322 t323 from B8x2_) (by (with_reducible repeat (first | apply Kd.R_alloc | apply Kd.R_drewN | apply Kd.R_drew)); exact HO326.out) (by decide)) hk (fun _ h => h.2)) (fun _ h => h.1)); replace HK := Aside0.mk (KeepBut.trans B8x3_ hk (.inl rfl)); replace HB := Aside0.mk (hb); replace HI0 := Aside0.mk (hi); (try clear hb hk hi); obtain ⟨hcz19_0, hcz19_1, hcz19_2⟩ := cl3 BK320.out; obtain ⟨hfz19_0, hfz19_1, hfz19_2⟩ := fr3 BK320.out; have hnb20 := NB311_0.out; have hnc20 := NB0_311.out; obtain ⟨hcz21_0, hcz21_1, hcz21_2⟩ := cl3 BK311.out; obtain ⟨hfz21_0, hfz21_1, hfz21_2⟩ := fr3 BK311.out))
  refine bodyPost_ret (results_cell_row rfl _ _ gb311 28 #[.int .i64 t327, .int .i64 t316, .string t317] (0, 0) _ rfl B8x13_ Try.underlying28 rfl B8x30_) rfl ?_
  exact ⟨B8x27_, B8x2_, B8x4_, B8x3_⟩
 ·rw [if_neg c5] at H
  have c5b0 := beq_eq_false_iff_ne.mpr c5
  have c5b1 := bne_iff_ne.mpr c5
  by_cases c22 : t321 = 1
  ·rw [if_pos c22] at H
   have c22b0 := beq_iff_eq.mpr c22
   have c22b1 := bne_eq_false_iff_eq.mpr c22
   clear c22
   obtain ⟨y330, hy330⟩ : ∃ y_ : List Int, y_ = (([0, 4, 1, 2] : List Int)) := ⟨_, rfl⟩
   replace H : ((spec_l01PickInt.f s0_0 t322 t323 y330).bind fun bt333 => (some (t315, bt333.1, t317, bt333.2.1, bt333.2.2))) = some (r1, r2, r3, r4, r5) := by first | (rw [hy330]; with_reducible exact H) | (have H2_ := (Option.bind_some _ _).symm.trans H; rw [hy330]; with_reducible exact H2_) | (have H2_ := (Option.bind_some _ _).symm.trans H; with_reducible exact H2_) | with_reducible exact H | (rw [hy330]; exact H) | exact H
   have Ny330 := Aside0.mk hy330
   clear hy330
   replace H := bsi H
   obtain ⟨⟨t333, t334, t335⟩, A23, H⟩ := H
   (try dsimp only at H)
   simp only [Option.some.injEq, Prod.mk.injEq] at H
   obtain ⟨rfl, rfl, rfl, rfl, rfl⟩ := H
   go_enter Try.func43, Try.ntmps43
   go_wp2_with (first | ((with_reducible refine gate_dst (N := 2) rfl ?_); refine box_event ?hg (N := 2) ?hd (cs := #[.int .i64 0, .int .i64 0, .string (⟨#[]⟩ : ByteArray)]) (t := 28) ?hr ?_; (case hd => rfl); (case hg => rfl); (case hr => exact B8x22_); intro gb311 hg w24 hbox hb; replace HB := Aside0.mk (below_step B8x18_ hb); have BK311 := Aside0.mk (hbox); have GW311 := Aside0.mk ((bs hg (keep_size HK.out))); have GE311 := Aside0.mk ((Nat.le_trans HW0.out (bs hg (keep_size HK.out)) : w0.heap.size ≤ gb311)); replace HK := Aside0.mk (KeepBut.trans B8x20_ (KeepBut.of_below hb g none) (.inl rfl)); have NB0_311 := Aside0.mk ((nl hg (IsS107.lt HI0.out))); have NB311_0 := Aside0.mk ((ng hg (IsS107.lt HI0.out))); replace HI0 := Aside0.mk (IsS107.below B8x17_ hb); clear hb hbox hg) | ((with_reducible refine gate_callee (f := 41) rfl ?_); refine goesL_ (some 6) rfl rfl Try.func41 B8x30_ rfl #[.pointer (some ⟨g, 0, none⟩), .int .i64 9] rfl B8x0_ ?_; (with_reducible refine (spec_l01Below.calls g s0_0 s0_1 s0_2 9 t312 t313 t314 w0 _ ?side1 ?side2 A2.out).mono ?_); (case side1 => exact B8x8_); (case side2 => exact B8x9_); rintro e w25 ⟨rfl, hi, hb, hk⟩; refine ⟨_, rfl, ?_⟩; replace BK311 := Aside0.mk (kb hk BK311.out NB311_0.out); replace HK := Aside0.mk (KeepBut.trans B8x12_ hk (.inl rfl)); replace HB := Aside0.mk (hb); replace HI0 := Aside0.mk (hi); (try clear hb hk hi)) | ((with_reducible refine gate_callee (f := 40) rfl ?_); refine goesL_ (some 7) rfl rfl Try.func40 B8x30_ rfl #[.pointer (some ⟨g, 0, none⟩), .int .i64 t312] rfl B8x0_ ?_; (with_reducible refine (spec_l05Right.calls k g s0_0 t313 t314 t312 t315 t316 t317 t318 t319 w0 _ ?side1 ?side2 A3.out).mono ?_); (case side1 => exact B8x8_); (case side2 => exact B8x9_); rintro e w26 ⟨rfl, hi, hb, hk⟩; refine ⟨_, rfl, ?_⟩; replace BK311 := Aside0.mk (kb hk BK311.out NB311_0.out); replace HK := Aside0.mk (KeepBut.trans B8x12_ hk (.inl rfl)); replace HB := Aside0.mk (hb); replace HI0 := Aside0.mk (hi); (try clear hb hk hi)) | ((with_reducible refine gate_dst (N := 3) rfl ?_); refine box_event ?hg (N := 3) ?hd (cs := #[.int .i64 0, .int .i64 0, .string (⟨#[]⟩ : ByteArray)]) (t := 28) ?hr ?_; (case hd => rfl); (case hg => rfl); (case hr => exact B8x22_); intro gb320 hg w27 hbox hb; replace HB := Aside0.mk (below_step B8x9_ hb); have BK320 := Aside0.mk (hbox); have GW320 := Aside0.mk ((bs hg (keep_size HK.out))); have GE320 := Aside0.mk ((Nat.le_trans HW0.out (bs hg (keep_size HK.out)) : w0.heap.size ≤ gb320)); replace HK := Aside0.mk (KeepBut.trans B8x12_ (KeepBut.of_below hb g none) (.inl rfl)); have NB311_320 := Aside0.mk ((nl hg (blk_lt BK311.out))); have NB320_311 := Aside0.mk ((ng hg (blk_lt BK311.out))); replace BK311 := Aside0.mk (bb BK311.out hb); have NB0_320 := Aside0.mk ((nl hg (IsS107.lt HI0.out))); have NB320_0 := Aside0.mk ((ng hg (IsS107.lt HI0.out))); replace HI0 := Aside0.mk (IsS107.below B8x8_ hb); clear hb hbox hg; have hnb28 := NB320_311.out; have hnc28 := NB311_320.out; have hnb29 := NB320_0.out; have hnc29 := NB0_320.out; obtain ⟨hcz30_0, hcz30_1, hcz30_2⟩ := cl3 BK320.out; obtain ⟨hfz30_0, hfz30_1, hfz30_2⟩ := fr3 BK320.out) | ((with_reducible refine gate_callee (f := 41) rfl ?_); refine goesL_ (some 9) rfl rfl Try.func41 B8x30_ rfl #[.pointer (some ⟨g, 0, none⟩), .int .i64 30] rfl B8x0_ ?_; (with_reducible refine (spec_l01Below.calls g s0_0 t318 t319 30 t321 t322 t323 w0 _ ?side1 ?side2 A4.out).mono ?_); (case side1 => exact B8x2_); (case side2 => exact B8x4_); rintro e w31 ⟨rfl, hi, hb, hk⟩; refine ⟨_, rfl, ?_⟩; replace BK311 := Aside0.mk (KeepBut.blk hk (g' := gb311) (o := .cells #[.int .i64 0, .int .i64 0, .string (⟨#[]⟩ : ByteArray)] 28 (0, 0)) B8x13_ NB311_0.out (by simp)); replace BK320 := Aside0.mk (KeepBut.blk hk (g' := gb320) (o := .cells #[.int .i64 t315, .int .i64 t316, .string t317] 28 (0, 0)) B8x24_ NB320_0.out (by simp)); replace HK := Aside0.mk (KeepBut.trans B8x3_ hk (.inl rfl)); replace HB := Aside0.mk (hb); replace HI0 := Aside0.mk (hi); (try clear hb hk hi)) | ((with_reducible refine gate_dst (N := 19) rfl ?_); refine Kd.R_lit (Kd.int .i64) _ 3 ?hg (N := 19) ?hd (xs := ([0, 4, 1, 2] : List Int)) (inner := [.int .i64 0, .int .i64 4, .int .i64 1, .int .i64 2]) (ok := fun _ => True) (okp := fun _ => True) ?hr ?hp (fun _ hk => hk) trivial (Below.refl _ _) (Nat.le_refl _) (by simp) ?_; (case hd => rfl); (case hg => rfl); (case hr => exact B8x22_); (case hp => exact (Reps.one (show Kd.M (Kd.int .i64) _ _ _ 0 [.int .i64 0] from rfl) (Reps.one (show Kd.M (Kd.int .i64) _ _ _ 4 [.int .i64 4] from rfl) (Reps.one (show Kd.M (Kd.int .i64) _ _ _ 1 [.int .i64 1] from rfl) (Reps.one (show Kd.M (Kd.int .i64) _ _ _ 2 [.int .i64 2] from rfl) (Reps.none _ _)))))); intro v331 w32 ho33 hb hg_ hnew_; clear hg_ hnew_; (first | rw [← Ny330.out] at ho33 | (simp only [Int.reduceToNat] at ho33; rw [← Ny330.out] at ho33)); have HO332 := Aside0.mk (Kd.R_lower ho33 (keep_size (w := w) (g := g) (row := none) B8x3_)); replace BK311 := Aside0.mk (bb BK311.out hb); replace BK320 := Aside0.mk (bb BK320.out hb); replace HK := Aside0.mk (KeepBut.trans B8x3_ (KeepBut.of_below hb g none) (.inl rfl)); replace HB := Aside0.mk (below_step B8x4_ hb); replace HI0 := Aside0.mk (IsS107.below B8x2_ hb); clear hb ho33; obtain ⟨Ao34, co34, eo34⟩ := Kd.R_slice HO332.out; subst eo34) | ((with_reducible refine gate_callee (f := 80) rfl ?_); refine goesL_ (some 20) rfl rfl Try.func80 B8x30_ rfl #[.pointer (some ⟨g, 0, none⟩), .slice Ao34 y330.length co34] rfl B8x0_ ?_; (with_reducible refine (spec_l01PickInt.calls g s0_0 t322 t323 _ _ y330 t333 t334 t335 w0 _ ?side1 ?side2 ?side3 ?side4 ?side5 A23.out).mono ?_); (case side1 => exact B8x2_); (case side2 => exact B8x4_); (case side3 => repeat (first | exact (Kd.R_reads' HO332.out).2.2 | (with_reducible refine Kd.C_alloc ?_ _) | (with_reducible refine Kd.C_drewN ?_ _) | (with_reducible refine Kd.C_drew ?_))); (case side4 => exact (Kd.R_reads' HO332.out).2.1); (case side5 => exact far_slice (IsS107.own_ne HI0.out HO332.out (by decide))); rintro e w35 ⟨rfl, hi, hb, hk⟩; refine ⟨_, rfl, ?_⟩; replace BK311 := Aside0.mk (kb hk BK311.out NB311_0.out); replace BK320 := Aside0.mk (kb hk BK320.out NB320_0.out); replace HO332 := Aside0.mk (Kd.R_mono (Kd.R_keep (IsS107.apart (show IsS107 w0 _ g s0_0 t322 t323 from B8x2_) (by (with_reducible repeat (first | apply Kd.R_alloc | apply Kd.R_drewN | apply Kd.R_drew)); exact HO332.out) (by decide)) hk (fun _ h => h.2)) (fun _ h => h.1)); replace HK := Aside0.mk (KeepBut.trans B8x3_ hk (.inl rfl)); replace HB := Aside0.mk (hb); replace HI0 := Aside0.mk (hi); (try clear hb hk hi); obtain ⟨hcz36_0, hcz36_1, hcz36_2⟩ := cl3 BK320.out; obtain ⟨hfz36_0, hfz36_1, hfz36_2⟩ := fr3 BK320.out; have hnb37 := NB311_0.out; have hnc37 := NB0_311.out; obtain ⟨hcz38_0, hcz38_1, hcz38_2⟩ := cl3 BK311.out; obtain ⟨hfz38_0, hfz38_1, hfz38_2⟩ := fr3 BK311.out))
   refine bodyPost_ret (results_cell_row rfl _ _ gb311 28 #[.int .i64 t315, .int .i64 t333, .string t317] (0, 0) _ rfl B8x13_ Try.underlying28 rfl B8x30_) rfl ?_
   exact ⟨B8x27_, B8x2_, B8x4_, B8x3_⟩
  ·rw [if_neg c22] at H
   have c22b0 := beq_eq_false_iff_ne.mpr c22
   have c22b1 := bne_iff_ne.mpr c22
   by_cases c39 : t321 = 2
   ·rw [if_pos c39] at H
    have c39b0 := beq_iff_eq.mpr c39
    have c39b1 := bne_eq_false_iff_eq.mpr c39
    clear c39
    replace H := bsi H
    obtain ⟨⟨t336, t337, t338⟩, A40, H⟩ := H
    (try dsimp only at H)
    replace H := bsi H
    obtain ⟨t339, A41, H⟩ := H
    (try dsimp only at H)
    simp only [Option.some.injEq, Prod.mk.injEq] at H
    obtain ⟨rfl, rfl, rfl, rfl, rfl⟩ := H
    go_enter Try.func43, Try.ntmps43
    go_wp2_with (first | ((with_reducible refine gate_dst (N := 2) rfl ?_); refine box_event ?hg (N := 2) ?hd (cs := #[.int .i64 0, .int .i64 0, .string (⟨#[]⟩ : ByteArray)]) (t := 28) ?hr ?_; (case hd => rfl); (case hg => rfl); (case hr => exact B8x22_); intro gb311 hg w42 hbox hb; replace HB := Aside0.mk (below_step B8x18_ hb); have BK311 := Aside0.mk (hbox); have GW311 := Aside0.mk ((bs hg (keep_size HK.out))); have GE311 := Aside0.mk ((Nat.le_trans HW0.out (bs hg (keep_size HK.out)) : w0.heap.size ≤ gb311)); replace HK := Aside0.mk (KeepBut.trans B8x20_ (KeepBut.of_below hb g none) (.inl rfl)); have NB0_311 := Aside0.mk ((nl hg (IsS107.lt HI0.out))); have NB311_0 := Aside0.mk ((ng hg (IsS107.lt HI0.out))); replace HI0 := Aside0.mk (IsS107.below B8x17_ hb); clear hb hbox hg) | ((with_reducible refine gate_callee (f := 41) rfl ?_); refine goesL_ (some 6) rfl rfl Try.func41 B8x30_ rfl #[.pointer (some ⟨g, 0, none⟩), .int .i64 9] rfl B8x0_ ?_; (with_reducible refine (spec_l01Below.calls g s0_0 s0_1 s0_2 9 t312 t313 t314 w0 _ ?side1 ?side2 A2.out).mono ?_); (case side1 => exact B8x8_); (case side2 => exact B8x9_); rintro e w43 ⟨rfl, hi, hb, hk⟩; refine ⟨_, rfl, ?_⟩; replace BK311 := Aside0.mk (kb hk BK311.out NB311_0.out); replace HK := Aside0.mk (KeepBut.trans B8x12_ hk (.inl rfl)); replace HB := Aside0.mk (hb); replace HI0 := Aside0.mk (hi); (try clear hb hk hi)) | ((with_reducible refine gate_callee (f := 40) rfl ?_); refine goesL_ (some 7) rfl rfl Try.func40 B8x30_ rfl #[.pointer (some ⟨g, 0, none⟩), .int .i64 t312] rfl B8x0_ ?_; (with_reducible refine (spec_l05Right.calls k g s0_0 t313 t314 t312 t315 t316 t317 t318 t319 w0 _ ?side1 ?side2 A3.out).mono ?_); (case side1 => exact B8x8_); (case side2 => exact B8x9_); rintro e w44 ⟨rfl, hi, hb, hk⟩; refine ⟨_, rfl, ?_⟩; replace BK311 := Aside0.mk (kb hk BK311.out NB311_0.out); replace HK := Aside0.mk (KeepBut.trans B8x12_ hk (.inl rfl)); replace HB := Aside0.mk (hb); replace HI0 := Aside0.mk (hi); (try clear hb hk hi)) | ((with_reducible refine gate_dst (N := 3) rfl ?_); refine box_event ?hg (N := 3) ?hd (cs := #[.int .i64 0, .int .i64 0, .string (⟨#[]⟩ : ByteArray)]) (t := 28) ?hr ?_; (case hd => rfl); (case hg => rfl); (case hr => exact B8x22_); intro gb320 hg w45 hbox hb; replace HB := Aside0.mk (below_step B8x9_ hb); have BK320 := Aside0.mk (hbox); have GW320 := Aside0.mk ((bs hg (keep_size HK.out))); have GE320 := Aside0.mk ((Nat.le_trans HW0.out (bs hg (keep_size HK.out)) : w0.heap.size ≤ gb320)); replace HK := Aside0.mk (KeepBut.trans B8x12_ (KeepBut.of_below hb g none) (.inl rfl)); have NB311_320 := Aside0.mk ((nl hg (blk_lt BK311.out))); have NB320_311 := Aside0.mk ((ng hg (blk_lt BK311.out))); replace BK311 := Aside0.mk (bb BK311.out hb); have NB0_320 := Aside0.mk ((nl hg (IsS107.lt HI0.out))); have NB320_0 := Aside0.mk ((ng hg (IsS107.lt HI0.out))); replace HI0 := Aside0.mk (IsS107.below B8x8_ hb); clear hb hbox hg; have hnb46 := NB320_311.out; have hnc46 := NB311_320.out; have hnb47 := NB320_0.out; have hnc47 := NB0_320.out; obtain ⟨hcz48_0, hcz48_1, hcz48_2⟩ := cl3 BK320.out; obtain ⟨hfz48_0, hfz48_1, hfz48_2⟩ := fr3 BK320.out) | ((with_reducible refine gate_callee (f := 41) rfl ?_); refine goesL_ (some 9) rfl rfl Try.func41 B8x30_ rfl #[.pointer (some ⟨g, 0, none⟩), .int .i64 30] rfl B8x0_ ?_; (with_reducible refine (spec_l01Below.calls g s0_0 t318 t319 30 t321 t322 t323 w0 _ ?side1 ?side2 A4.out).mono ?_); (case side1 => exact B8x2_); (case side2 => exact B8x4_); rintro e w49 ⟨rfl, hi, hb, hk⟩; refine ⟨_, rfl, ?_⟩; replace BK311 := Aside0.mk (KeepBut.blk hk (g' := gb311) (o := .cells #[.int .i64 0, .int .i64 0, .string (⟨#[]⟩ : ByteArray)] 28 (0, 0)) B8x13_ NB311_0.out (by simp)); replace BK320 := Aside0.mk (KeepBut.blk hk (g' := gb320) (o := .cells #[.int .i64 t315, .int .i64 t316, .string t317] 28 (0, 0)) B8x24_ NB320_0.out (by simp)); replace HK := Aside0.mk (KeepBut.trans B8x3_ hk (.inl rfl)); replace HB := Aside0.mk (hb); replace HI0 := Aside0.mk (hi); (try clear hb hk hi)) | ((with_reducible refine gate_callee (f := 41) rfl ?_); refine goesL_ (some 25) rfl rfl Try.func41 B8x30_ rfl #[.pointer (some ⟨g, 0, none⟩), .int .i64 2] rfl B8x0_ ?_; (with_reducible refine (spec_l01Below.calls g s0_0 t322 t323 2 t336 t337 t338 w0 _ ?side1 ?side2 A40.out).mono ?_); (case side1 => exact B8x2_); (case side2 => exact B8x4_); rintro e w50 ⟨rfl, hi, hb, hk⟩; refine ⟨_, rfl, ?_⟩; replace BK311 := Aside0.mk (kb hk BK311.out NB311_0.out); replace BK320 := Aside0.mk (kb hk BK320.out NB320_0.out); replace HK := Aside0.mk (KeepBut.trans B8x3_ hk (.inl rfl)); replace HB := Aside0.mk (hb); replace HI0 := Aside0.mk (hi); (try clear hb hk hi)) | ((with_reducible refine gate_callee (f := 81) rfl ?_); refine goesL_ (some 27) rfl rfl Try.func81 B8x30_ rfl #[.int .i64 (wrap64 (120 + t336)), .int .u8 65] rfl B8x0_ ?_; (with_reducible refine (spec_l01Long.calls k (wrap64 (120 + t336)) 65 t339 _ A41.out).mono ?_); rintro e w51 ⟨rfl, hb⟩; refine ⟨_, rfl, ?_⟩; replace BK311 := Aside0.mk (bb BK311.out hb); replace BK320 := Aside0.mk (bb BK320.out hb); replace HK := Aside0.mk (KeepBut.trans B8x3_ (KeepBut.of_below hb g none) (.inl rfl)); replace HB := Aside0.mk (below_step B8x4_ hb); replace HI0 := Aside0.mk (IsS107.below B8x2_ hb); (try clear hb); obtain ⟨hcz52_0, hcz52_1, hcz52_2⟩ := cl3 BK320.out; obtain ⟨hfz52_0, hfz52_1, hfz52_2⟩ := fr3 BK320.out; have hnb53 := NB311_0.out; have hnc53 := NB0_311.out; obtain ⟨hcz54_0, hcz54_1, hcz54_2⟩ := cl3 BK311.out; obtain ⟨hfz54_0, hfz54_1, hfz54_2⟩ := fr3 BK311.out))
    refine bodyPost_ret (results_cell_row rfl _ _ gb311 28 #[.int .i64 0, .int .i64 3, .string t339] (0, 0) _ rfl B8x13_ Try.underlying28 rfl B8x30_) rfl ?_
    exact ⟨B8x27_, B8x2_, B8x4_, B8x3_⟩
   ·rw [if_neg c39] at H
    have c39b0 := beq_eq_false_iff_ne.mpr c39
    have c39b1 := bne_iff_ne.mpr c39
    simp only [Option.some.injEq, Prod.mk.injEq] at H
    obtain ⟨rfl, rfl, rfl, rfl, rfl⟩ := H
    go_enter Try.func43, Try.ntmps43
    go_wp2_with (first | ((with_reducible refine gate_dst (N := 2) rfl ?_); refine box_event ?hg (N := 2) ?hd (cs := #[.int .i64 0, .int .i64 0, .string (⟨#[]⟩ : ByteArray)]) (t := 28) ?hr ?_; (case hd => rfl); (case hg => rfl); (case hr => exact B8x22_); intro gb311 hg w55 hbox hb; replace HB := Aside0.mk (below_step B8x18_ hb); have BK311 := Aside0.mk (hbox); have GW311 := Aside0.mk ((bs hg (keep_size HK.out))); have GE311 := Aside0.mk ((Nat.le_trans HW0.out (bs hg (keep_size HK.out)) : w0.heap.size ≤ gb311)); replace HK := Aside0.mk (KeepBut.trans B8x20_ (KeepBut.of_below hb g none) (.inl rfl)); have NB0_311 := Aside0.mk ((nl hg (IsS107.lt HI0.out))); have NB311_0 := Aside0.mk ((ng hg (IsS107.lt HI0.out))); replace HI0 := Aside0.mk (IsS107.below B8x17_ hb); clear hb hbox hg) | ((with_reducible refine gate_callee (f := 41) rfl ?_); refine goesL_ (some 6) rfl rfl Try.func41 B8x30_ rfl #[.pointer (some ⟨g, 0, none⟩), .int .i64 9] rfl B8x0_ ?_; (with_reducible refine (spec_l01Below.calls g s0_0 s0_1 s0_2 9 t312 t313 t314 w0 _ ?side1 ?side2 A2.out).mono ?_); (case side1 => exact B8x8_); (case side2 => exact B8x9_); rintro e w56 ⟨rfl, hi, hb, hk⟩; refine ⟨_, rfl, ?_⟩; replace BK311 := Aside0.mk (kb hk BK311.out NB311_0.out); replace HK := Aside0.mk (KeepBut.trans B8x12_ hk (.inl rfl)); replace HB := Aside0.mk (hb); replace HI0 := Aside0.mk (hi); (try clear hb hk hi)) | ((with_reducible refine gate_callee (f := 40) rfl ?_); refine goesL_ (some 7) rfl rfl Try.func40 B8x30_ rfl #[.pointer (some ⟨g, 0, none⟩), .int .i64 t312] rfl B8x0_ ?_; (with_reducible refine (spec_l05Right.calls k g s0_0 t313 t314 t312 t315 t316 t317 t318 t319 w0 _ ?side1 ?side2 A3.out).mono ?_); (case side1 => exact B8x8_); (case side2 => exact B8x9_); rintro e w57 ⟨rfl, hi, hb, hk⟩; refine ⟨_, rfl, ?_⟩; replace BK311 := Aside0.mk (kb hk BK311.out NB311_0.out); replace HK := Aside0.mk (KeepBut.trans B8x12_ hk (.inl rfl)); replace HB := Aside0.mk (hb); replace HI0 := Aside0.mk (hi); (try clear hb hk hi)) | ((with_reducible refine gate_dst (N := 3) rfl ?_); refine box_event ?hg (N := 3) ?hd (cs := #[.int .i64 0, .int .i64 0, .string (⟨#[]⟩ : ByteArray)]) (t := 28) ?hr ?_; (case hd => rfl); (case hg => rfl); (case hr => exact B8x22_); intro gb320 hg w58 hbox hb; replace HB := Aside0.mk (below_step B8x9_ hb); have BK320 := Aside0.mk (hbox); have GW320 := Aside0.mk ((bs hg (keep_size HK.out))); have GE320 := Aside0.mk ((Nat.le_trans HW0.out (bs hg (keep_size HK.out)) : w0.heap.size ≤ gb320)); replace HK := Aside0.mk (KeepBut.trans B8x12_ (KeepBut.of_below hb g none) (.inl rfl)); have NB311_320 := Aside0.mk ((nl hg (blk_lt BK311.out))); have NB320_311 := Aside0.mk ((ng hg (blk_lt BK311.out))); replace BK311 := Aside0.mk (bb BK311.out hb); have NB0_320 := Aside0.mk ((nl hg (IsS107.lt HI0.out))); have NB320_0 := Aside0.mk ((ng hg (IsS107.lt HI0.out))); replace HI0 := Aside0.mk (IsS107.below B8x8_ hb); clear hb hbox hg; have hnb59 := NB320_311.out; have hnc59 := NB311_320.out; have hnb60 := NB320_0.out; have hnc60 := NB0_320.out; obtain ⟨hcz61_0, hcz61_1, hcz61_2⟩ := cl3 BK320.out; obtain ⟨hfz61_0, hfz61_1, hfz61_2⟩ := fr3 BK320.out) | ((with_reducible refine gate_callee (f := 41) rfl ?_); refine goesL_ (some 9) rfl rfl Try.func41 B8x30_ rfl #[.pointer (some ⟨g, 0, none⟩), .int .i64 30] rfl B8x0_ ?_; (with_reducible refine (spec_l01Below.calls g s0_0 t318 t319 30 t321 t322 t323 w0 _ ?side1 ?side2 A4.out).mono ?_); (case side1 => exact B8x2_); (case side2 => exact B8x4_); rintro e w62 ⟨rfl, hi, hb, hk⟩; refine ⟨_, rfl, ?_⟩; replace BK311 := Aside0.mk (KeepBut.blk hk (g' := gb311) (o := .cells #[.int .i64 0, .int .i64 0, .string (⟨#[]⟩ : ByteArray)] 28 (0, 0)) B8x13_ NB311_0.out (by simp)); replace BK320 := Aside0.mk (KeepBut.blk hk (g' := gb320) (o := .cells #[.int .i64 t315, .int .i64 t316, .string t317] 28 (0, 0)) B8x24_ NB320_0.out (by simp)); replace HK := Aside0.mk (KeepBut.trans B8x3_ hk (.inl rfl)); replace HB := Aside0.mk (hb); replace HI0 := Aside0.mk (hi); (try clear hb hk hi); obtain ⟨hcz63_0, hcz63_1, hcz63_2⟩ := cl3 BK320.out; obtain ⟨hfz63_0, hfz63_1, hfz63_2⟩ := fr3 BK320.out; have hnb64 := NB311_0.out; have hnc64 := NB0_311.out; obtain ⟨hcz65_0, hcz65_1, hcz65_2⟩ := cl3 BK311.out; obtain ⟨hfz65_0, hfz65_1, hfz65_2⟩ := fr3 BK311.out))
    refine bodyPost_ret (results_cell_row rfl _ _ gb311 28 #[.int .i64 t315, .int .i64 t316, .string t317] (0, 0) _ rfl (by (repeat (with_reducible (first | exact BK311.out | apply blk_drewN | apply blk_drew | apply blk_alloc | apply blk_put))); repeat (first | exact BK311.out | (simp only [List.setIfInBounds_toArray, List.set_cons_zero, List.set_cons_succ]; with_reducible rfl) | rfl)) Try.underlying28 rfl B8x30_) rfl ?_
    exact ⟨B8x27_, B8x2_, B8x4_, B8x3_⟩

/-! ### spec_l06Right: function 50 -/
def spec_l06Right.l0 : Nat → Int → Int → List Int → Int → Int → Int → Int → List (S28) → Option (Int × Int × (List (S28)) × Int × Int)
 | 0, _, _, _, _, _, _, _, _ => none
 | k + 1, x4, x5, x1000, x1001, x1002, x351000, x351001, x351002 => (spec_l01Below.f x1000 x1001 x1002 8).bind fun bt351 => (if x5 < bt351.1 then ((spec_l01Once.f x1000 bt351.2.1 bt351.2.2 3).bind fun bt354 => (if bt354.1 = true then ((spec_l01Below.f x1000 bt354.2.1 bt354.2.2 2).bind fun bt357 => ((spec_l05Right.f k x1000 bt357.2.1 bt357.2.2 (wrap64 ((wrap64 (x4 + 1)) + bt357.1))).bind fun bt360 => (if x351002.length < 4398046511104 then (spec_l06Right.l0 k (wrap64 ((wrap64 (x4 + 1)) + bt357.1)) (wrap64 (x5 + 1)) x1000 bt360.2.2.2.1 bt360.2.2.2.2 x351000 x351001 (x351002 ++ [(⟨bt360.1, bt360.2.1, bt360.2.2.1⟩ : S28)])) else (none)))) else ((spec_l05Right.f k x1000 bt354.2.1 bt354.2.2 x4).bind fun bt368 => (if x351002.length < 4398046511104 then (spec_l06Right.l0 k x4 (wrap64 (x5 + 1)) x1000 bt368.2.2.2.1 bt368.2.2.2.2 x351000 x351001 (x351002 ++ [(⟨bt368.1, bt368.2.1, bt368.2.2.1⟩ : S28)])) else (none))))) else (some (x351000, x351001, x351002, bt351.2.1, bt351.2.2)))
def spec_l06Right.f (k : Nat) (s0_0 : List Int) (s0_1 : Int) (s0_2 : Int) : Option (Int × Int × (List (S28)) × Int × Int) := (spec_l01Below.f s0_0 s0_1 s0_2 3).bind fun bt341 => ((spec_l01Below.f s0_0 bt341.2.1 bt341.2.2 4).bind fun bt344 => ((spec_l01Below.f s0_0 bt344.2.1 bt344.2.2 3).bind fun bt347 => (spec_l06Right.l0 k bt347.1 0 s0_0 bt347.2.1 bt347.2.2 (wrap64 (bt341.1 * bt344.1)) bt347.1 ([] : List (S28)))))
theorem spec_l06Right.mono_l : ∀ k, (∀ y0 y1 y2 y3 y4 y5 y6 y7, LeO (spec_l06Right.l0 k y0 y1 y2 y3 y4 y5 y6 y7) (spec_l06Right.l0 (k + 1) y0 y1 y2 y3 y4 y5 y6 y7))
 | 0 => fun _ _ _ _ _ _ _ _ r h => by simp [spec_l06Right.l0] at h
 | k + 1 => by
  have ih0 := spec_l06Right.mono_l k
  ·intro y0 y1 y2 y3 y4 y5 y6 y7
   unfold spec_l06Right.l0
   repeat' first
   | (with_reducible exact ih0 _ _ _ _ _ _ _ _)
   | (with_reducible exact spec_l05Right.mono _ _ _ _ _)
   | (with_reducible first | exact LeO.refl _ | exact LeO.none _ | refine LeO.ite ?_ ?_ | refine LeO.bind ?_ (fun _ => ?_))
   | exact ih0 _ _ _ _ _ _ _ _
   | exact spec_l05Right.mono _ _ _ _ _
theorem spec_l06Right.mono : ∀ a0 a1 a2 k, LeO (spec_l06Right.f k a0 a1 a2) (spec_l06Right.f (k + 1) a0 a1 a2) := by
 intro a0 a1 a2 k
 have ih0 := spec_l06Right.mono_l k
 unfold spec_l06Right.f
 repeat' first
   | (with_reducible exact ih0 _ _ _ _ _ _ _ _)
   | (with_reducible exact spec_l05Right.mono _ _ _ _ _)
   | (with_reducible first | exact LeO.refl _ | exact LeO.none _ | refine LeO.ite ?_ ?_ | refine LeO.bind ?_ (fun _ => ?_))
   | exact ih0 _ _ _ _ _ _ _ _
   | exact spec_l05Right.mono _ _ _ _ _
def spec_l06Right.T8 : Bool × List (List Nat × List Nat) := (true, [([], []), ([0], [0]), ([], []), ([], []), ([2, 3], [2, 3]), ([4], [4]), ([1, 5, 4], [1, 5]), ([0, 1, 2, 3, 4, 5, 6], []), ([7, 6, 6, 0, 1, 2, 3, 4, 5, 6], [6, 7])])
def spec_l06Right.B8 : List Nat := [0, 1, 0, 0, 12, 28, 63, 127, 255]
theorem spec_l06Right.tab8 : rtab .any (opsOf Try.f50 8) = spec_l06Right.T8 := by kernel_rfl
theorem spec_l06Right.bits8 : waitsOk spec_l06Right.T8.2 spec_l06Right.B8 = true := by kernel_rfl
set_option maxHeartbeats 8000000 in
set_option maxRecDepth 100000 in
theorem spec_l06Right.calls (k : Nat) (g : Nat) (s0_0 : List Int) (s0_1 : Int) (s0_2 : Int) (r1 : Int) (r2 : Int) (r3 : List (S28)) (r4 : Int) (r5 : Int) (w0 w : World) (hI : IsS107 w0 w g s0_0 s0_1 s0_2) (hB : Below w0.heap.size w0 w) (h : spec_l06Right.f k s0_0 s0_1 s0_2 = some (r1, r2, r3, r4, r5)) :
  Calls Try.prog 50 #[.pointer (some ⟨g, 0, none⟩)] w fun e w' => ∃ v2_ : Value, e = .returned (.agg #[.int .i64 r1, .int .i64 r2, v2_]) ∧ Kd.R k28 28 w' w.heap.size (fun _ => True) v2_ r3 ∧ IsS107 w0 w' g s0_0 r4 r5 ∧ Below w0.heap.size w0 w' ∧ KeepBut w w' g none := by
 have hu26 := Try.underlying26
 have HI0 := Aside0.mk hI
 have HK := Aside0.mk (KeepBut.refl w g none)
 have HL := Aside0.mk hB.size
 clear hI
 have HW0 := Aside0.mk hB.size
 have HB := Aside0.mk hB
 clear hB
 have H : ((spec_l01Below.f s0_0 s0_1 s0_2 3).bind fun bt341 => ((spec_l01Below.f s0_0 bt341.2.1 bt341.2.2 4).bind fun bt344 => ((spec_l01Below.f s0_0 bt344.2.1 bt344.2.2 3).bind fun bt347 => (spec_l06Right.l0 k bt347.1 0 s0_0 bt347.2.1 bt347.2.2 (wrap64 (bt341.1 * bt344.1)) bt347.1 ([] : List (S28)))))) = some (r1, r2, r3, r4, r5) := h
 clear h
 replace H := bsi H
 obtain ⟨⟨t341, t342, t343⟩, A2, H⟩ := H
 (try dsimp only at H)
 replace H := bsi H
 obtain ⟨⟨t344, t345, t346⟩, A3, H⟩ := H
 (try dsimp only at H)
 replace H := bsi H
 obtain ⟨⟨t347, t348, t349⟩, A4, H⟩ := H
 (try dsimp only at H)
 have H' := Aside0.mk H
 clear H
 go_enter Try.func50, Try.ntmps50
 go_wp2_with (first | ((with_reducible refine gate_dst (N := 2) rfl ?_); refine box_event ?hg (N := 2) ?hd (cs := #[.int .i64 0, .int .i64 0, .slice none 0 0]) (t := 26) ?hr ?_; (case hd => rfl); (case hg => rfl); (case hr => exact B8x22_); intro gb340 hg w5 hbox hb; replace HB := Aside0.mk (below_step B8x18_ hb); have BK340 := Aside0.mk (hbox); have GW340 := Aside0.mk ((bs hg (keep_size HK.out))); have GE340 := Aside0.mk ((Nat.le_trans HW0.out (bs hg (keep_size HK.out)) : w0.heap.size ≤ gb340)); replace HK := Aside0.mk (KeepBut.trans B8x20_ (KeepBut.of_below hb g none) (.inl rfl)); have NB0_340 := Aside0.mk ((nl hg (IsS107.lt HI0.out))); have NB340_0 := Aside0.mk ((ng hg (IsS107.lt HI0.out))); replace HI0 := Aside0.mk (IsS107.below B8x17_ hb); clear hb hbox hg) | ((with_reducible refine gate_callee (f := 41) rfl ?_); refine goesL_ (some 7) rfl rfl Try.func41 B8x30_ rfl #[.pointer (some ⟨g, 0, none⟩), .int .i64 3] rfl B8x0_ ?_; (with_reducible refine (spec_l01Below.calls g s0_0 s0_1 s0_2 3 t341 t342 t343 w0 _ ?side1 ?side2 A2.out).mono ?_); (case side1 => exact B8x28_); (case side2 => exact B8x29_); rintro e w6 ⟨rfl, hi, hb, hk⟩; refine ⟨_, rfl, ?_⟩; replace BK340 := Aside0.mk (kb hk BK340.out NB340_0.out); replace HK := Aside0.mk (KeepBut.trans B8x32_ hk (.inl rfl)); replace HB := Aside0.mk (hb); replace HI0 := Aside0.mk (hi); (try clear hb hk hi)) | ((with_reducible refine gate_callee (f := 41) rfl ?_); refine goesL_ (some 9) rfl rfl Try.func41 B8x30_ rfl #[.pointer (some ⟨g, 0, none⟩), .int .i64 4] rfl B8x0_ ?_; (with_reducible refine (spec_l01Below.calls g s0_0 t342 t343 4 t344 t345 t346 w0 _ ?side1 ?side2 A3.out).mono ?_); (case side1 => exact B8x28_); (case side2 => exact B8x29_); rintro e w7 ⟨rfl, hi, hb, hk⟩; refine ⟨_, rfl, ?_⟩; replace BK340 := Aside0.mk (kb hk BK340.out NB340_0.out); replace HK := Aside0.mk (KeepBut.trans B8x32_ hk (.inl rfl)); replace HB := Aside0.mk (hb); replace HI0 := Aside0.mk (hi); (try clear hb hk hi)) | ((with_reducible refine gate_callee (f := 41) rfl ?_); refine goesL_ (some 12) rfl rfl Try.func41 B8x30_ rfl #[.pointer (some ⟨g, 0, none⟩), .int .i64 3] rfl B8x0_ ?_; (with_reducible refine (spec_l01Below.calls g s0_0 t345 t346 3 t347 t348 t349 w0 _ ?side1 ?side2 A4.out).mono ?_); (case side1 => exact B8x28_); (case side2 => exact B8x29_); rintro e w8 ⟨rfl, hi, hb, hk⟩; refine ⟨_, rfl, ?_⟩; replace BK340 := Aside0.mk (kb hk BK340.out NB340_0.out); replace HK := Aside0.mk (KeepBut.trans B8x32_ hk (.inl rfl)); replace HB := Aside0.mk (hb); replace HI0 := Aside0.mk (hi); (try clear hb hk hi)) | ((with_reducible refine gate_dst (N := 3) rfl ?_); refine box_event ?hg (N := 3) ?hd (cs := #[.int .i64 0, .int .i64 0, .slice none 0 0]) (t := 26) ?hr ?_; (case hd => rfl); (case hg => rfl); (case hr => exact B8x22_); intro gb350 hg w9 hbox hb; replace HB := Aside0.mk (below_step B8x29_ hb); have BK350 := Aside0.mk (hbox); have GW350 := Aside0.mk ((bs hg (keep_size HK.out))); have GE350 := Aside0.mk ((Nat.le_trans HW0.out (bs hg (keep_size HK.out)) : w0.heap.size ≤ gb350)); replace HK := Aside0.mk (KeepBut.trans B8x32_ (KeepBut.of_below hb g none) (.inl rfl)); have NB340_350 := Aside0.mk ((nl hg (blk_lt BK340.out))); have NB350_340 := Aside0.mk ((ng hg (blk_lt BK340.out))); replace BK340 := Aside0.mk (bb BK340.out hb); have NB0_350 := Aside0.mk ((nl hg (IsS107.lt HI0.out))); have NB350_0 := Aside0.mk ((ng hg (IsS107.lt HI0.out))); replace HI0 := Aside0.mk (IsS107.below B8x28_ hb); clear hb hbox hg; have hnb10 := NB350_340.out; have hnc10 := NB340_350.out; have hnb11 := NB350_0.out; have hnc11 := NB0_350.out; obtain ⟨hcz12_0, hcz12_1, hcz12_2⟩ := cl3 BK350.out; obtain ⟨hfz12_0, hfz12_1, hfz12_2⟩ := fr3 BK350.out))
 go_loopg [4, 5] k (fun kq v4 v5 w' => ∃ (x4_1 : Int) (x5_1 : Int) (x1001_1 : Int) (x1002_1 : Int) (x351002_1 : List (S28)) (u351002 : Value), v4 = .int .i64 x4_1 ∧ v5 = .int .i64 x5_1 ∧ Aside0 (spec_l06Right.l0 kq x4_1 x5_1 s0_0 x1001_1 x1002_1 (wrap64 (t341 * t344)) t347 x351002_1 = some (r1, r2, r3, r4, r5)) ∧ Aside0 (kq ≤ k) ∧ Aside0 (Kd.R k28 28 w' w.heap.size (fun _ => True) u351002 x351002_1) ∧ Aside0 (w'.heap[gb340]? = some (.cells #[.int .i64 0, .int .i64 0, (.slice none 0 0)] 26 (0, 0))) ∧ Aside0 (w'.heap[gb350]? = some (.cells #[.int .i64 (wrap64 (t341 * t344)), .int .i64 t347, u351002] 26 (0, 0))) ∧ Aside0 (IsS107 w0 w' g s0_0 x1001_1 x1002_1) ∧ Aside0 (KeepBut w w' g none) ∧ Aside0 (Below w0.heap.size w0 w'))
 case atStart => exact ⟨(t347), (0), (t348), (t349), (([] : List (S28))), (.slice none 0 0), (be_), (be_), H', ⟨Nat.le_refl _⟩, ⟨(by first | exact Kd.R_nil _ _ _ _ _ | exact Kd.N_nil _ _ _ _ _ | exact Kd.V_nil _ _ _ _ _ | exact Kd.Q_nil _ _ _ _ _ | exact Kd.S_nil _ _ _ _ _)⟩, ⟨B8x31_⟩, ⟨B8x34_⟩, ⟨B8x1_⟩, ⟨B8x5_⟩, ⟨B8x6_⟩⟩
 case round =>
  clear H'
  try clear hcz12_0
  try clear hcz12_1
  try clear hcz12_2
  try clear hfz12_0
  try clear hfz12_1
  try clear hfz12_2
  obtain ⟨x4_1, x5_1, x1001_1, x1002_1, x351002_1, u351002, rfl, rfl, HA, HK1, HO_351002, BK340, BK350, HI0, HK, HB⟩ := hrel
  cases gk with
  | zero => exact absurd HA.out (by simp [spec_l06Right.l0])
  | succ k1 =>
   have H := HA.out
   clear HA
   simp only [spec_l06Right.l0] at H
   replace H := bsi H
   obtain ⟨⟨t351, t352, t353⟩, A13, H⟩ := H
   (try dsimp only at H)
   by_cases c14 : x5_1 < t351
   ·rw [if_pos c14] at H
    have c14b0 : decide (x5_1 < t351) = true := decide_eq_true c14
    clear c14
    replace H := bsi H
    obtain ⟨⟨t354, t355, t356⟩, A15, H⟩ := H
    (try dsimp only at H)
    by_cases c16 : t354 = true
    ·subst c16
     rw [if_pos rfl] at H
     replace H := bsi H
     obtain ⟨⟨t357, t358, t359⟩, A17, H⟩ := H
     (try dsimp only at H)
     replace H := bsi H
     obtain ⟨⟨t360, t361, t362, t363, t364⟩, A18, H⟩ := H
     (try dsimp only at H)
     by_cases c19 : x351002_1.length < 4398046511104
     rotate_left
     ·rw [if_neg c19] at H
      exact absurd H (by simp)
     rw [if_pos c19] at H
     have LMc19 := Aside0.mk c19
     clear c19
     obtain ⟨y365, hy365⟩ : ∃ y_ : List (S28), y_ = (x351002_1 ++ [(⟨t360, t361, t362⟩ : S28)]) := ⟨_, rfl⟩
     replace H : (spec_l06Right.l0 k1 (wrap64 ((wrap64 (x4_1 + 1)) + t357)) (wrap64 (x5_1 + 1)) s0_0 t363 t364 (wrap64 (t341 * t344)) t347 y365) = some (r1, r2, r3, r4, r5) := by first | (rw [hy365]; with_reducible exact H) | (have H2_ := (Option.bind_some _ _).symm.trans H; rw [hy365]; with_reducible exact H2_) | (have H2_ := (Option.bind_some _ _).symm.trans H; with_reducible exact H2_) | with_reducible exact H | (rw [hy365]; exact H) | exact H
     have Ny365 := Aside0.mk hy365
     clear hy365
     have H' := Aside0.mk H
     clear H
     try go_wp2_with (first | ((with_reducible refine gate_callee (f := 41) rfl ?_); refine goesL_ (some 18) rfl rfl Try.func41 B8x30_ rfl #[.pointer (some ⟨g, 0, none⟩), .int .i64 8] rfl B8x0_ ?_; (with_reducible refine (spec_l01Below.calls g s0_0 x1001_1 x1002_1 8 t351 t352 t353 w0 _ ?side1 ?side2 A13.out).mono ?_); (case side1 => exact B8x1_); (case side2 => exact B8x6_); rintro e w20 ⟨rfl, hi, hb, hk⟩; refine ⟨_, rfl, ?_⟩; replace HO_351002 := Aside0.mk (Kd.R_mono (Kd.R_keep (IsS107.apart (show IsS107 w0 _ g s0_0 x1001_1 x1002_1 from B8x1_) B8x21_ (by decide)) hk (fun _ h => h.2)) (fun _ h => h.1)); replace BK340 := Aside0.mk (kb hk BK340.out NB340_0.out); replace BK350 := Aside0.mk (kb hk BK350.out NB350_0.out); replace HK := Aside0.mk (KeepBut.trans B8x5_ hk (.inl rfl)); replace HB := Aside0.mk (hb); replace HI0 := Aside0.mk (hi); (try clear hb hk hi)) | ((with_reducible refine gate_callee (f := 42) rfl ?_); refine goesL_ (some 23) rfl rfl Try.func42 B8x30_ rfl #[.pointer (some ⟨g, 0, none⟩), .int .i64 3] rfl B8x0_ ?_; (with_reducible refine (spec_l01Once.calls g s0_0 t352 t353 3 true t355 t356 w0 _ ?side1 ?side2 A15.out).mono ?_); (case side1 => exact B8x1_); (case side2 => exact B8x6_); rintro e w21 ⟨rfl, hi, hb, hk⟩; refine ⟨_, rfl, ?_⟩; replace HO_351002 := Aside0.mk (Kd.R_mono (Kd.R_keep (IsS107.apart (show IsS107 w0 _ g s0_0 t352 t353 from B8x1_) B8x21_ (by decide)) hk (fun _ h => h.2)) (fun _ h => h.1)); replace BK340 := Aside0.mk (kb hk BK340.out NB340_0.out); replace BK350 := Aside0.mk (kb hk BK350.out NB350_0.out); replace HK := Aside0.mk (KeepBut.trans B8x5_ hk (.inl rfl)); replace HB := Aside0.mk (hb); replace HI0 := Aside0.mk (hi); (try clear hb hk hi)) | ((with_reducible refine gate_callee (f := 41) rfl ?_); refine goesL_ (some 27) rfl rfl Try.func41 B8x30_ rfl #[.pointer (some ⟨g, 0, none⟩), .int .i64 2] rfl B8x0_ ?_; (with_reducible refine (spec_l01Below.calls g s0_0 t355 t356 2 t357 t358 t359 w0 _ ?side1 ?side2 A17.out).mono ?_); (case side1 => exact B8x1_); (case side2 => exact B8x6_); rintro e w22 ⟨rfl, hi, hb, hk⟩; refine ⟨_, rfl, ?_⟩; replace HO_351002 := Aside0.mk (Kd.R_mono (Kd.R_keep (IsS107.apart (show IsS107 w0 _ g s0_0 t355 t356 from B8x1_) B8x21_ (by decide)) hk (fun _ h => h.2)) (fun _ h => h.1)); replace BK340 := Aside0.mk (kb hk BK340.out NB340_0.out); replace BK350 := Aside0.mk (kb hk BK350.out NB350_0.out); replace HK := Aside0.mk (KeepBut.trans B8x5_ hk (.inl rfl)); replace HB := Aside0.mk (hb); replace HI0 := Aside0.mk (hi); (try clear hb hk hi)))
     replace HO_351002 := Aside0.mk (Kd.R_drew HO_351002.out)
     replace BK340 := Aside0.mk (blk_drew BK340.out)
     replace BK350 := Aside0.mk (blk_drew BK350.out)
     replace HI0 := Aside0.mk (IsS107.drew HI0.out)
     replace HK := Aside0.mk (keep_drew HK.out)
     replace HB := Aside0.mk (below_drew1 HB.out)
     refine start_ (n := 9) (S := fun w' => w'.cell? ⟨gb350, 0, none⟩ = some (.int .i64 (wrap64 (t341 * t344))) ∧ w'.cell? ⟨gb350, 1, none⟩ = some (.int .i64 t347) ∧ w'.cell? ⟨gb350, 2, none⟩ = some (u351002)) (ds := [8]) #[false, false, false, false, false, false, false, false, false] B8x30_ rfl rfl ⟨(blk_cell BK350.out 0).trans rfl, (blk_cell BK350.out 1).trans rfl, (blk_cell BK350.out 2).trans rfl⟩ (fun hHeld => ?_); refine with_tabW spec_l06Right.tab8 spec_l06Right.bits8 (fun HT_ HW_ => ?_)
     generalize w22.drew = w23 at HO_351002 BK340 BK350 HI0 HK HB hHeld ⊢
     refine pu_ 0 29 HT_ ?_
     refine pu_ 2 31 HT_ ?_
     refine pu_ 3 32 HT_ ?_
     refine ta_ 1 30 HT_ HW_ hHeld ?_
     refine one_ (i := 4) (N := some 33) #[true, true, true, true, true, false, false, false, false] rfl rfl (one_of HT_.out B8x30_) (by decide) (fun K hK => ?_)
     refine goes_ Try.func40 B8x30_ rfl #[.pointer (some ⟨g, 0, none⟩), .int .i64 (wrap64 ((wrap64 (x4_1 + 1)) + t357))] (by rfl) rfl rfl B8x0_ ?_
     with_reducible refine (spec_l05Right.calls k1 g s0_0 t358 t359 (wrap64 ((wrap64 (x4_1 + 1)) + t357)) t360 t361 t362 t363 t364 w0 _ ?side1 ?side2 A18.out).mono ?_
     (case side1 => exact B8x1_)
     (case side2 => exact B8x6_)
     rintro e w24 ⟨rfl, hi, hb, hk⟩
     refine ⟨_, rfl, ?_⟩
     replace HO_351002 := Aside0.mk (Kd.R_mono (Kd.R_keep (IsS107.apart (show IsS107 w0 _ g s0_0 t358 t359 from B8x1_) B8x21_ (by decide)) hk (fun _ h => h.2)) (fun _ h => h.1))
     replace BK340 := Aside0.mk (kb hk BK340.out NB340_0.out)
     replace BK350 := Aside0.mk (kb hk BK350.out NB350_0.out)
     replace HK := Aside0.mk (KeepBut.trans B8x5_ hk (.inl rfl))
     replace HB := Aside0.mk (hb)
     replace HI0 := Aside0.mk (hi)
     (try clear hb)
     (try clear hb2)
     (try clear hk)
     (try clear hi)
     refine hK.out _ _ ⟨(blk_cell BK350.out 0).trans rfl, (blk_cell BK350.out 1).trans rfl, (blk_cell BK350.out 2).trans rfl⟩ (fun hHeld => ?_)
     clear hK K
     refine norm_ (a' := ?_) ?_ ?_
     rotate_left
     ·show Act.put _ (some 33) _ = _
      simp only [Act.put, List.setIfInBounds_toArray, List.set_cons_zero, List.set_cons_succ, i64_w, i32_w]
      rfl
     refine one_ (i := 5) (N := some 34) #[true, true, true, true, true, true, false, false, false] rfl rfl (one_of HT_.out B8x30_) (by decide) (fun K hK => ?_)
     refine value_ (w1 := ?_) (v := ?_) (by rfl) rfl ?_ ?_
     rotate_left 2
     ·go_simp
      constructor
      ·rfl
      ·rfl
     refine hK.out _ _ ⟨(blk_cell (blk_alloc BK350.out _) 0).trans rfl, (blk_cell (blk_alloc BK350.out _) 1).trans rfl, (blk_cell (blk_alloc BK350.out _) 2).trans rfl⟩ (fun hHeld => ?_)
     clear hK K
     refine norm_ (a' := ?_) ?_ ?_
     rotate_left
     ·show Act.put _ (some 34) _ = _
      simp only [Act.put, List.setIfInBounds_toArray, List.set_cons_zero, List.set_cons_succ, i64_w, i32_w]
      rfl
     refine one_ (i := 6) (N := some 35) #[true, true, true, true, true, true, true, false, false] rfl rfl (one_of HT_.out B8x30_) (by decide) (fun K hK => ?_)
     refine Kd.R_append_step k28 w.heap.size (by rfl) (.tmp 30) (.tmp 34) 24 28 (.agg #[(.int .i64 0), (.int .i64 0), (.string ⟨#[]⟩)]) 32 rfl Try.underlying24 info28 rfl (by decide) (by omega) u351002 x351002_1 (⟨t360, t361, t362⟩ : S28) [.int .i64 t360, .int .i64 t361, .string t362] (fun _ => True) (fun _ => False) rfl rfl ?aP (fun _ hk => hk.elim) ?aF ?aO (Below.refl _ _) ?aS ?aL ?_
     (case aP => exact k28_mkM _ _ _ (⟨t360, t361, t362⟩ : S28))
     (case aF => exact (fun _ _ => trivial))
     (case aO => exact B8x21_)
     (case aS => exact B8x42_)
     (case aL => have := LMc19.out; omega)
     intro v366 w25 ho hb hg hat
     rw [← Ny365.out] at ho
     replace BK340 := Aside0.mk (blk_grown (g := gb340) (o := .cells #[.int .i64 0, .int .i64 0, .slice none 0 0] 26 (0, 0)) B8x40_ hg (Kd.R_ne HO_351002.out BK340.out (by decide)))
     replace BK350 := Aside0.mk (blk_grown (g := gb350) (o := .cells #[.int .i64 (wrap64 (t341 * t344)), .int .i64 t347, u351002] 26 (0, 0)) B8x41_ hg (Kd.R_ne HO_351002.out BK350.out (by decide)))
     replace HB := Aside0.mk (below_weaken B8x6_ HL.out hb)
     replace HI0 := Aside0.mk (IsS107.grown B8x36_ hg (IsS107.own_ne HI0.out HO_351002.out (by decide)))
     replace HK := Aside0.mk (KeepBut.trans B8x5_ (KeepBut.of_grown hg g) (Kd.R_base2 HO_351002.out))
     have HO367 := Aside0.mk (ho)
     clear HO_351002
     clear ho hb hg hat
     obtain ⟨Ao26, co26, eo26⟩ := Kd.R_slice HO367.out
     (first | subst eo26 | (injection eo26 with f1_ f2_ f3_; have f4_ := f1_.symm; have f5_ := f3_.symm; clear f1_ f2_ f3_; subst f4_; subst f5_))
     refine hK.out _ _ ⟨(blk_cell BK350.out 0).trans rfl, (blk_cell BK350.out 1).trans rfl, (blk_cell BK350.out 2).trans rfl⟩ (fun hHeld => ?_)
     clear hK K
     refine norm_ (a' := ?_) ?_ ?_
     rotate_left
     ·show Act.put _ (some 35) _ = _
      simp only [Act.put, List.setIfInBounds_toArray, List.set_cons_zero, List.set_cons_succ, i64_w, i32_w]
      rfl
     refine pu_ 7 36 HT_ ?_
     refine last_ (i := 8) (N := none) #[true, true, true, true, true, true, true, true, true] rfl rfl (one_of HT_.out B8x30_) (by decide) (fun K hK => ?_)
     have hs27 : w25.cell? ⟨gb350, 2, none⟩ = some (u351002) := (blk_cell BK350.out 2).trans rfl
     have hfs27 := blk_frozen BK350.out 2
     have hns27_0 := NB340_350.out
     have hms27_0 := NB350_340.out
     refine skip_ (w1 := ?_) (by rfl) rfl ?_ ?_
     rotate_left
     ·go_simp
      rfl
     refine hK.out _ _ ?_
     clear hK K
     refine done_ (done_of HT_.out B8x30_) ?_
     try go_wp2
     go_roundg k1
     case measure => have := HK1.out; omega
     case rel => exact ⟨(wrap64 ((wrap64 (x4_1 + 1)) + t357)), (wrap64 (x5_1 + 1)), (t363), (t364), (y365), (.slice Ao26 y365.length co26), (be_), (be_), H', ⟨B8x43_⟩, ⟨(by (with_reducible repeat (first | apply Kd.R_alloc | apply Kd.R_drewN | apply Kd.R_drew)); exact Kd.R_mono (Kd.R_far (p := ⟨gb350, 2, none⟩) (Kd.R_types HO367.out BK350.out (by decide)) (fun _ hk => hk.2) (.slice Ao26 y365.length co26)) (fun _ hk => trivial))⟩, ⟨B8x31_⟩, ⟨B8x34_⟩, ⟨B8x1_⟩, ⟨B8x5_⟩, ⟨B8x6_⟩⟩
    ·replace c16 := Bool.eq_false_iff.mpr c16
     subst c16
     rw [if_neg (show ¬ (false = true) by decide)] at H
     replace H := bsi H
     obtain ⟨⟨t368, t369, t370, t371, t372⟩, A28, H⟩ := H
     (try dsimp only at H)
     by_cases c29 : x351002_1.length < 4398046511104
     rotate_left
     ·rw [if_neg c29] at H
      exact absurd H (by simp)
     rw [if_pos c29] at H
     have LMc29 := Aside0.mk c29
     clear c29
     obtain ⟨y373, hy373⟩ : ∃ y_ : List (S28), y_ = (x351002_1 ++ [(⟨t368, t369, t370⟩ : S28)]) := ⟨_, rfl⟩
     replace H : (spec_l06Right.l0 k1 x4_1 (wrap64 (x5_1 + 1)) s0_0 t371 t372 (wrap64 (t341 * t344)) t347 y373) = some (r1, r2, r3, r4, r5) := by first | (rw [hy373]; with_reducible exact H) | (have H2_ := (Option.bind_some _ _).symm.trans H; rw [hy373]; with_reducible exact H2_) | (have H2_ := (Option.bind_some _ _).symm.trans H; with_reducible exact H2_) | with_reducible exact H | (rw [hy373]; exact H) | exact H
     have Ny373 := Aside0.mk hy373
     clear hy373
     have H' := Aside0.mk H
     clear H
     try go_wp2_with (first | ((with_reducible refine gate_callee (f := 41) rfl ?_); refine goesL_ (some 18) rfl rfl Try.func41 B8x30_ rfl #[.pointer (some ⟨g, 0, none⟩), .int .i64 8] rfl B8x0_ ?_; (with_reducible refine (spec_l01Below.calls g s0_0 x1001_1 x1002_1 8 t351 t352 t353 w0 _ ?side1 ?side2 A13.out).mono ?_); (case side1 => exact B8x1_); (case side2 => exact B8x6_); rintro e w30 ⟨rfl, hi, hb, hk⟩; refine ⟨_, rfl, ?_⟩; replace HO_351002 := Aside0.mk (Kd.R_mono (Kd.R_keep (IsS107.apart (show IsS107 w0 _ g s0_0 x1001_1 x1002_1 from B8x1_) B8x21_ (by decide)) hk (fun _ h => h.2)) (fun _ h => h.1)); replace BK340 := Aside0.mk (kb hk BK340.out NB340_0.out); replace BK350 := Aside0.mk (kb hk BK350.out NB350_0.out); replace HK := Aside0.mk (KeepBut.trans B8x5_ hk (.inl rfl)); replace HB := Aside0.mk (hb); replace HI0 := Aside0.mk (hi); (try clear hb hk hi)) | ((with_reducible refine gate_callee (f := 42) rfl ?_); refine goesL_ (some 23) rfl rfl Try.func42 B8x30_ rfl #[.pointer (some ⟨g, 0, none⟩), .int .i64 3] rfl B8x0_ ?_; (with_reducible refine (spec_l01Once.calls g s0_0 t352 t353 3 false t355 t356 w0 _ ?side1 ?side2 A15.out).mono ?_); (case side1 => exact B8x1_); (case side2 => exact B8x6_); rintro e w31 ⟨rfl, hi, hb, hk⟩; refine ⟨_, rfl, ?_⟩; replace HO_351002 := Aside0.mk (Kd.R_mono (Kd.R_keep (IsS107.apart (show IsS107 w0 _ g s0_0 t352 t353 from B8x1_) B8x21_ (by decide)) hk (fun _ h => h.2)) (fun _ h => h.1)); replace BK340 := Aside0.mk (kb hk BK340.out NB340_0.out); replace BK350 := Aside0.mk (kb hk BK350.out NB350_0.out); replace HK := Aside0.mk (KeepBut.trans B8x5_ hk (.inl rfl)); replace HB := Aside0.mk (hb); replace HI0 := Aside0.mk (hi); (try clear hb hk hi)))
     replace HO_351002 := Aside0.mk (Kd.R_drew HO_351002.out)
     replace BK340 := Aside0.mk (blk_drew BK340.out)
     replace BK350 := Aside0.mk (blk_drew BK350.out)
     replace HI0 := Aside0.mk (IsS107.drew HI0.out)
     replace HK := Aside0.mk (keep_drew HK.out)
     replace HB := Aside0.mk (below_drew1 HB.out)
     refine start_ (n := 9) (S := fun w' => w'.cell? ⟨gb350, 0, none⟩ = some (.int .i64 (wrap64 (t341 * t344))) ∧ w'.cell? ⟨gb350, 1, none⟩ = some (.int .i64 t347) ∧ w'.cell? ⟨gb350, 2, none⟩ = some (u351002)) (ds := [8]) #[false, false, false, false, false, false, false, false, false] B8x30_ rfl rfl ⟨(blk_cell BK350.out 0).trans rfl, (blk_cell BK350.out 1).trans rfl, (blk_cell BK350.out 2).trans rfl⟩ (fun hHeld => ?_); refine with_tabW spec_l06Right.tab8 spec_l06Right.bits8 (fun HT_ HW_ => ?_)
     generalize w31.drew = w32 at HO_351002 BK340 BK350 HI0 HK HB hHeld ⊢
     refine pu_ 0 29 HT_ ?_
     refine pu_ 2 31 HT_ ?_
     refine pu_ 3 32 HT_ ?_
     refine ta_ 1 30 HT_ HW_ hHeld ?_
     refine one_ (i := 4) (N := some 33) #[true, true, true, true, true, false, false, false, false] rfl rfl (one_of HT_.out B8x30_) (by decide) (fun K hK => ?_)
     refine goes_ Try.func40 B8x30_ rfl #[.pointer (some ⟨g, 0, none⟩), .int .i64 x4_1] (by rfl) rfl rfl B8x0_ ?_
     with_reducible refine (spec_l05Right.calls k1 g s0_0 t355 t356 x4_1 t368 t369 t370 t371 t372 w0 _ ?side1 ?side2 A28.out).mono ?_
     (case side1 => exact B8x1_)
     (case side2 => exact B8x6_)
     rintro e w33 ⟨rfl, hi, hb, hk⟩
     refine ⟨_, rfl, ?_⟩
     replace HO_351002 := Aside0.mk (Kd.R_mono (Kd.R_keep (IsS107.apart (show IsS107 w0 _ g s0_0 t355 t356 from B8x1_) B8x21_ (by decide)) hk (fun _ h => h.2)) (fun _ h => h.1))
     replace BK340 := Aside0.mk (kb hk BK340.out NB340_0.out)
     replace BK350 := Aside0.mk (kb hk BK350.out NB350_0.out)
     replace HK := Aside0.mk (KeepBut.trans B8x5_ hk (.inl rfl))
     replace HB := Aside0.mk (hb)
     replace HI0 := Aside0.mk (hi)
     (try clear hb)
     (try clear hb2)
     (try clear hk)
     (try clear hi)
     refine hK.out _ _ ⟨(blk_cell BK350.out 0).trans rfl, (blk_cell BK350.out 1).trans rfl, (blk_cell BK350.out 2).trans rfl⟩ (fun hHeld => ?_)
     clear hK K
     refine norm_ (a' := ?_) ?_ ?_
     rotate_left
     ·show Act.put _ (some 33) _ = _
      simp only [Act.put, List.setIfInBounds_toArray, List.set_cons_zero, List.set_cons_succ, i64_w, i32_w]
      rfl
     refine one_ (i := 5) (N := some 34) #[true, true, true, true, true, true, false, false, false] rfl rfl (one_of HT_.out B8x30_) (by decide) (fun K hK => ?_)
     refine value_ (w1 := ?_) (v := ?_) (by rfl) rfl ?_ ?_
     rotate_left 2
     ·go_simp
      constructor
      ·rfl
      ·rfl
     refine hK.out _ _ ⟨(blk_cell (blk_alloc BK350.out _) 0).trans rfl, (blk_cell (blk_alloc BK350.out _) 1).trans rfl, (blk_cell (blk_alloc BK350.out _) 2).trans rfl⟩ (fun hHeld => ?_)
     clear hK K
     refine norm_ (a' := ?_) ?_ ?_
     rotate_left
     ·show Act.put _ (some 34) _ = _
      simp only [Act.put, List.setIfInBounds_toArray, List.set_cons_zero, List.set_cons_succ, i64_w, i32_w]
      rfl
     refine one_ (i := 6) (N := some 35) #[true, true, true, true, true, true, true, false, false] rfl rfl (one_of HT_.out B8x30_) (by decide) (fun K hK => ?_)
     refine Kd.R_append_step k28 w.heap.size (by rfl) (.tmp 30) (.tmp 34) 24 28 (.agg #[(.int .i64 0), (.int .i64 0), (.string ⟨#[]⟩)]) 32 rfl Try.underlying24 info28 rfl (by decide) (by omega) u351002 x351002_1 (⟨t368, t369, t370⟩ : S28) [.int .i64 t368, .int .i64 t369, .string t370] (fun _ => True) (fun _ => False) rfl rfl ?aP (fun _ hk => hk.elim) ?aF ?aO (Below.refl _ _) ?aS ?aL ?_
     (case aP => exact k28_mkM _ _ _ (⟨t368, t369, t370⟩ : S28))
     (case aF => exact (fun _ _ => trivial))
     (case aO => exact B8x21_)
     (case aS => exact B8x42_)
     (case aL => have := LMc29.out; omega)
     intro v374 w34 ho hb hg hat
     rw [← Ny373.out] at ho
     replace BK340 := Aside0.mk (blk_grown (g := gb340) (o := .cells #[.int .i64 0, .int .i64 0, .slice none 0 0] 26 (0, 0)) B8x40_ hg (Kd.R_ne HO_351002.out BK340.out (by decide)))
     replace BK350 := Aside0.mk (blk_grown (g := gb350) (o := .cells #[.int .i64 (wrap64 (t341 * t344)), .int .i64 t347, u351002] 26 (0, 0)) B8x41_ hg (Kd.R_ne HO_351002.out BK350.out (by decide)))
     replace HB := Aside0.mk (below_weaken B8x6_ HL.out hb)
     replace HI0 := Aside0.mk (IsS107.grown B8x36_ hg (IsS107.own_ne HI0.out HO_351002.out (by decide)))
     replace HK := Aside0.mk (KeepBut.trans B8x5_ (KeepBut.of_grown hg g) (Kd.R_base2 HO_351002.out))
     have HO375 := Aside0.mk (ho)
     clear HO_351002
     clear ho hb hg hat
     obtain ⟨Ao35, co35, eo35⟩ := Kd.R_slice HO375.out
     (first | subst eo35 | (injection eo35 with f1_ f2_ f3_; have f4_ := f1_.symm; have f5_ := f3_.symm; clear f1_ f2_ f3_; subst f4_; subst f5_))
     refine hK.out _ _ ⟨(blk_cell BK350.out 0).trans rfl, (blk_cell BK350.out 1).trans rfl, (blk_cell BK350.out 2).trans rfl⟩ (fun hHeld => ?_)
     clear hK K
     refine norm_ (a' := ?_) ?_ ?_
     rotate_left
     ·show Act.put _ (some 35) _ = _
      simp only [Act.put, List.setIfInBounds_toArray, List.set_cons_zero, List.set_cons_succ, i64_w, i32_w]
      rfl
     refine pu_ 7 36 HT_ ?_
     refine last_ (i := 8) (N := none) #[true, true, true, true, true, true, true, true, true] rfl rfl (one_of HT_.out B8x30_) (by decide) (fun K hK => ?_)
     have hs36 : w34.cell? ⟨gb350, 2, none⟩ = some (u351002) := (blk_cell BK350.out 2).trans rfl
     have hfs36 := blk_frozen BK350.out 2
     have hns36_0 := NB340_350.out
     have hms36_0 := NB350_340.out
     refine skip_ (w1 := ?_) (by rfl) rfl ?_ ?_
     rotate_left
     ·go_simp
      rfl
     refine hK.out _ _ ?_
     clear hK K
     refine done_ (done_of HT_.out B8x30_) ?_
     try go_wp2
     go_roundg k1
     case measure => have := HK1.out; omega
     case rel => exact ⟨(x4_1), (wrap64 (x5_1 + 1)), (t371), (t372), (y373), (.slice Ao35 y373.length co35), (be_), (be_), H', ⟨B8x43_⟩, ⟨(by (with_reducible repeat (first | apply Kd.R_alloc | apply Kd.R_drewN | apply Kd.R_drew)); exact Kd.R_mono (Kd.R_far (p := ⟨gb350, 2, none⟩) (Kd.R_types HO375.out BK350.out (by decide)) (fun _ hk => hk.2) (.slice Ao35 y373.length co35)) (fun _ hk => trivial))⟩, ⟨B8x31_⟩, ⟨B8x34_⟩, ⟨B8x1_⟩, ⟨B8x5_⟩, ⟨B8x6_⟩⟩
   ·rw [if_neg c14] at H
    have c14b0 : decide (x5_1 < t351) = false := decide_eq_false c14
    clear c14
    simp only [Option.some.injEq, Prod.mk.injEq] at H
    obtain ⟨rfl, rfl, rfl, rfl, rfl⟩ := H
    go_wp2_with (first | ((with_reducible refine gate_callee (f := 41) rfl ?_); refine goesL_ (some 18) rfl rfl Try.func41 B8x30_ rfl #[.pointer (some ⟨g, 0, none⟩), .int .i64 8] rfl B8x0_ ?_; (with_reducible refine (spec_l01Below.calls g s0_0 x1001_1 x1002_1 8 t351 t352 t353 w0 _ ?side1 ?side2 A13.out).mono ?_); (case side1 => exact B8x1_); (case side2 => exact B8x6_); rintro e w37 ⟨rfl, hi, hb, hk⟩; refine ⟨_, rfl, ?_⟩; replace HO_351002 := Aside0.mk (Kd.R_mono (Kd.R_keep (IsS107.apart (show IsS107 w0 _ g s0_0 x1001_1 x1002_1 from B8x1_) B8x21_ (by decide)) hk (fun _ h => h.2)) (fun _ h => h.1)); replace BK340 := Aside0.mk (kb hk BK340.out NB340_0.out); replace BK350 := Aside0.mk (kb hk BK350.out NB350_0.out); replace HK := Aside0.mk (KeepBut.trans B8x5_ hk (.inl rfl)); replace HB := Aside0.mk (hb); replace HI0 := Aside0.mk (hi); (try clear hb hk hi); have hnb38 := NB350_340.out; have hnc38 := NB340_350.out; have hnb39 := NB350_0.out; have hnc39 := NB0_350.out; obtain ⟨hcz40_0, hcz40_1, hcz40_2⟩ := cl3 BK350.out; obtain ⟨hfz40_0, hfz40_1, hfz40_2⟩ := fr3 BK350.out; have hnb41 := NB340_0.out; have hnc41 := NB0_340.out; obtain ⟨hcz42_0, hcz42_1, hcz42_2⟩ := cl3 BK340.out; obtain ⟨hfz42_0, hfz42_1, hfz42_2⟩ := fr3 BK340.out; obtain ⟨Ao43, co43, eo43⟩ := Kd.R_slice HO_351002.out; subst eo43))
    refine bodyPost_ret (results_cell_row rfl _ _ gb340 26 #[.int .i64 (wrap64 (t341 * t344)), .int .i64 t347, .slice Ao43 x351002_1.length co43] (0, 0) _ rfl (by (repeat (with_reducible (first | exact BK340.out | apply blk_drewN | apply blk_drew | apply blk_alloc | apply blk_put))); repeat (first | exact BK340.out | (simp only [List.setIfInBounds_toArray, List.set_cons_zero, List.set_cons_succ]; with_reducible rfl) | rfl)) Try.underlying26 rfl B8x30_) rfl ?_
    exact ⟨_, by first | rfl | (simp [errW_none, errW_some] <;> rfl) | (simp [*, errW_none, errW_some] <;> rfl), by (with_reducible repeat (first | apply Kd.R_alloc | apply Kd.R_drewN | apply Kd.R_drew)); exact Kd.R_mono (Kd.R_far (p := ⟨gb340, 2, none⟩) (Kd.R_far (p := ⟨gb340, 1, none⟩) (Kd.R_far (p := ⟨gb340, 0, none⟩) (Kd.R_types HO_351002.out BK340.out (by decide)) (fun _ hk => hk.2) (.int .i64 (wrap64 (t341 * t344)))) (fun _ hk => hk.2) (.int .i64 t347)) (fun _ hk => hk.2) (.slice Ao43 x351002_1.length co43)) (fun _ hk => trivial), by repeat (first | (with_reducible first | exact HI0.out | apply IsS107.alloc | apply IsS107.drewN | apply IsS107.drew | apply IsS107.set_1 | apply IsS107.set_2 | refine IsS107.far ?_ NB0_340.out _ | refine IsS107.far ?_ NB0_350.out _) | exact HI0.out), by repeat (first | (with_reducible first | exact HB.out | apply below_alloc | apply pw_below_drewN | apply below_drew1 | refine below_set ?_ (IsS107.ge HI0.out) | refine below_set ?_ GE340.out | refine below_set ?_ GE350.out) | exact HB.out), by repeat (first | (with_reducible first | exact HK.out | apply KeepBut.set_ | apply keep_drewN | apply keep_drew | apply keep_alloc | refine keep_far ?_ GW340.out _ | refine keep_far ?_ GW350.out _) | exact HK.out)⟩

end Go.Proofs.Ytgffdijodnpolaa.QFnPuts
