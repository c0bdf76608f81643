/- Functions that a law reaches, as functions of Lean, and the walks that show that the calls come to their answers: written by a program of this project out of the translation. No condition. -/
import Derived.Test.YtgffdijodnpolaaQFnPutsx0
import Derived.Test.YtgffdijodnpolaaQFnPutsx2
import Derived.Test.YtgffdijodnpolaaQFnPutsx8
import Derived.Test.YtgffdijodnpolaaQFnPutsx9
import Derived.Test.YtgffdijodnpolaaVFnPutsShort4
import Derived.Test.YtgffdijodnpolaaVFnPutshort3
import Derived.Test.YtgffdijodnpolaaVFnPutsShort2
import Derived.Test.YtgffdijodnpolaaVFnPutsShort
namespace Go.Proofs.Ytgffdijodnpolaa.QFnPuts
open Go.RowKit Go.Proofs.YtgffdijodnpolaaW.PrintWords Go.Proofs.YtgffdijodnpolaaW.PrintLast Go.Proofs.YtgffdijodnpolaaW.PrintMore Go.Proofs.Ytgffdijodnpolaa.Short
attribute [local go_sem] max2_int min2_int max_two min_two max_three min_three max_four min_four   -- for this text's walks alone
set_option linter.unusedVariables false
set_option linter.unusedSimpArgs false

theorem B10x0_ {p : Prop} (h : p := by repeat (first | (with_reducible first | exact HI444.out | apply IsS107.alloc | apply IsS107.drewN | apply IsS107.drew | apply IsS107.set_1 | apply IsS107.set_2 | refine IsS107.far ?_ NB444_439.out _ | refine IsS107.far ?_ NB444_440.out _ | refine IsS107.far ?_ NB444_452.out _ | refine IsS107.far ?_ NB444_463.out _) | exact HI444.out)) : p := h
theorem B10x1_ {p : Prop} (h : p := by repeat (first | (with_reducible first | exact HI444.out | apply IsS107.alloc | apply IsS107.drewN | apply IsS107.drew | apply IsS107.set_1 | apply IsS107.set_2 | refine IsS107.far ?_ NB444_439.out _ | refine IsS107.far ?_ NB444_440.out _ | refine IsS107.far ?_ NB444_452.out _) | exact HI444.out)) : p := h
theorem B10x2_ {p : Prop} (h : p := by (try simp only [List.map_toArray, List.map_cons, List.map_nil]); first | done | rfl | (simp only [List.length_drop, List.length_take]; rfl)) : p := h
theorem B10x3_ {p : Prop} (h : p := by repeat (first | (with_reducible first | exact HB.out | apply below_alloc | apply pw_below_drewN | apply below_drew1 | refine below_set ?_ (IsS107.ge HI444.out) | refine below_set ?_ GE439.out | refine below_set ?_ GE440.out | refine below_set ?_ GE452.out) | exact HB.out)) : p := h
theorem B10x4_ {p : Prop} (h : p := by repeat (first | (with_reducible first | exact HB.out | apply below_alloc | apply pw_below_drewN | apply below_drew1 | refine below_set ?_ (IsS107.ge HI444.out) | refine below_set ?_ GE439.out | refine below_set ?_ GE440.out | refine below_set ?_ GE452.out | refine below_set ?_ GE463.out) | exact HB.out)) : p := h
theorem B10x5_ {p : Prop} (h : p := by repeat (first | (with_reducible first | exact HB.out | apply below_alloc | apply pw_below_drewN | apply below_drew1 | refine below_set ?_ (IsS107.ge HI444.out) | refine below_set ?_ GE439.out | refine below_set ?_ GE440.out) | exact HB.out)) : p := h
theorem B10x6_ {p : Prop} (h : p := by (with_reducible repeat (first | apply Kd.R_alloc | apply Kd.R_drewN | apply Kd.R_drew)); exact HO449.out) : p := h
theorem B10x7_ {p : Prop} (h : p := by repeat (first | (with_reducible first | exact HB.out | apply below_alloc | apply pw_below_drewN | apply below_drew1) | exact HB.out)) : p := h
theorem B10x8_ {p : Prop} (h : p := by first | (with_reducible assumption) | assumption) : p := h
theorem B10x9_ {p : Prop} (h : p := by repeat (first | (with_reducible first | exact HI444.out | apply IsS107.alloc | apply IsS107.drewN | apply IsS107.drew | apply IsS107.set_1 | apply IsS107.set_2 | refine IsS107.far ?_ NB444_439.out _ | refine IsS107.far ?_ NB444_440.out _) | exact HI444.out)) : p := h
theorem B10x10_ {p : Prop} (h : p := by (repeat (with_reducible (first | exact BK439.out | apply blk_drewN | apply blk_drew | apply blk_alloc | apply blk_put | apply bf NB439_463.out))); repeat (first | exact BK439.out | (simp only [List.setIfInBounds_toArray, List.set_cons_zero, List.set_cons_succ]; with_reducible rfl) | rfl)) : p := h
theorem B10x11_ {p : Prop} (h : p := by (repeat (with_reducible (first | exact BK440.out | apply blk_drewN | apply blk_drew | apply blk_alloc | apply blk_put | apply bf NB440_463.out))); repeat (first | exact BK440.out | (simp only [List.setIfInBounds_toArray, List.set_cons_zero, List.set_cons_succ]; with_reducible rfl) | rfl)) : p := h
theorem B10x12_ {p : Prop} (h : p := by (repeat (with_reducible (first | exact BK452.out | apply blk_drewN | apply blk_drew | apply blk_alloc | apply blk_put | apply bf NB452_463.out))); repeat (first | exact BK452.out | (simp only [List.setIfInBounds_toArray, List.set_cons_zero, List.set_cons_succ]; with_reducible rfl) | rfl)) : p := h
theorem B10x13_ {p : Prop} (h : p := by first | (go_simp; done) | (go_simp; rfl)) : p := h
theorem B10x14_ {p : Prop} (h : p := by (repeat (with_reducible (first | exact BK463.out | apply blk_drewN | apply blk_drew | apply blk_alloc | apply blk_put))); repeat (first | exact BK463.out | (simp only [List.setIfInBounds_toArray, List.set_cons_zero, List.set_cons_succ]; with_reducible rfl) | rfl)) : p := h
theorem B10x15_ {p : Prop} (h : p := by repeat (first | exact Drawn0.refl _ | apply Drawn0.step)) : p := h
theorem B10x16_ {p : Prop} (h : p := by (with_reducible repeat (first | apply Kd.R_alloc | apply Kd.R_drewN | apply Kd.R_drew)); exact (Kd.R_mono (Kd.R_far (p := ⟨gb463, 2, none⟩) (Kd.R_far (p := ⟨gb463, 1, none⟩) (Kd.R_far (p := ⟨gb463, 0, none⟩) (Kd.R_mono HO449.out (fun k_ hk => (⟨hk, hk.2⟩ : _ ∧ k_ ≠ gb463))) (fun _ hk => hk.2) (.int .i64 t458)) (fun _ hk => hk.2) (.int .i64 t459)) (fun _ hk => hk.2) (.string t460)) (fun _ h_ => h_.1))) : p := h
theorem B10x17_ {p : Prop} (h : p := by (with_reducible repeat (first | apply Kd.R_alloc | apply Kd.R_drewN | apply Kd.R_drew)); exact (Kd.R_mono (Kd.R_far (p := ⟨gb452, 2, none⟩) (Kd.R_far (p := ⟨gb452, 1, none⟩) (Kd.R_far (p := ⟨gb452, 0, none⟩) (Kd.R_types HO449.out BK452.out (by decide)) (fun _ hk => hk.2) (.int .i64 t445)) (fun _ hk => hk.2) (.int .i64 t446)) (fun _ hk => hk.2) (.slice Ao20 t447.length co20)) (fun _ h_ => h_.1))) : p := h
theorem B10x18_ {p : Prop} (h : p := by (with_reducible repeat (first | apply Kd.R_alloc | apply Kd.R_drewN | apply Kd.R_drew)); exact (Kd.R_mono (Kd.R_far (p := ⟨gb452, 2, none⟩) (Kd.R_far (p := ⟨gb452, 1, none⟩) (Kd.R_far (p := ⟨gb452, 0, none⟩) (Kd.R_types HO449.out BK452.out (by decide)) (fun _ hk => hk.2) (.int .i64 t445)) (fun _ hk => hk.2) (.int .i64 t446)) (fun _ hk => hk.2) (.slice Ao52 t447.length co52)) (fun _ h_ => h_.1))) : p := h
theorem B10x19_ {p : Prop} (h : p := by kernel_rfl) : p := h
theorem B10x20_ {p : Prop} (h : p := by first | rfl | (simp; done) | (simp [*]; done)) : p := h
theorem B10x21_ {p : Prop} (h : p := by (repeat (with_reducible (first | exact BK439.out | apply blk_drewN | apply blk_drew | apply blk_alloc | apply blk_put | apply bf NB439_440.out))); repeat (first | exact BK439.out | (simp only [List.setIfInBounds_toArray, List.set_cons_zero, List.set_cons_succ]; with_reducible rfl) | rfl)) : p := h
theorem B10x22_ {p : Prop} (h : p := by (repeat (with_reducible (first | exact BK439.out | apply blk_drewN | apply blk_drew | apply blk_alloc | apply blk_put | apply bf NB439_452.out))); repeat (first | exact BK439.out | (simp only [List.setIfInBounds_toArray, List.set_cons_zero, List.set_cons_succ]; with_reducible rfl) | rfl)) : p := h
theorem B10x23_ {p : Prop} (h : p := by (repeat (with_reducible (first | exact BK440.out | apply blk_drewN | apply blk_drew | apply blk_alloc | apply blk_put | apply bf NB440_439.out))); repeat (first | exact BK440.out | (simp only [List.setIfInBounds_toArray, List.set_cons_zero, List.set_cons_succ]; with_reducible rfl) | rfl)) : p := h
theorem B10x24_ {p : Prop} (h : p := by (repeat (with_reducible (first | exact BK440.out | apply blk_drewN | apply blk_drew | apply blk_alloc | apply blk_put | apply bf NB440_452.out))); repeat (first | exact BK440.out | (simp only [List.setIfInBounds_toArray, List.set_cons_zero, List.set_cons_succ]; with_reducible rfl) | rfl)) : p := h
theorem B10x25_ {p : Prop} (h : p := by (repeat (with_reducible (first | exact BK452.out | apply blk_drewN | apply blk_drew | apply blk_alloc | apply blk_put))); repeat (first | exact BK452.out | (simp only [List.setIfInBounds_toArray, List.set_cons_zero, List.set_cons_succ]; with_reducible rfl) | rfl)) : p := h
theorem B10x26_ {p : Prop} (h : p := by repeat (first | (with_reducible first | exact HB.out | apply below_alloc | apply pw_below_drewN | apply below_drew1 | refine below_set ?_ GE439.out | refine below_set ?_ GE440.out) | exact HB.out)) : p := h
theorem B10x27_ {p : Prop} (h : p := by repeat (first | (with_reducible first | exact HB.out | apply below_alloc | apply pw_below_drewN | apply below_drew1 | refine below_set ?_ GE439.out) | exact HB.out)) : p := h
theorem B10x28_ {p : Prop} (h : p := by repeat (first | (with_reducible first | exact HB.out | apply below_alloc | apply pw_below_drewN | apply below_drew1 | refine below_set ?_ GE478.out) | exact HB.out)) : p := h
theorem B10x29_ {p : Prop} (h : p := by (with_reducible repeat (first | refine blk_drewN ?_ _ | refine blk_drew ?_ | refine blk_alloc ?_ _)); exact BK440.out) : p := h
/-! ### spec_DrawLogPut: function 8 -/
def spec_DrawLogPut.f (k : Nat) (l0 : List Int) : Option (Int × Int × (List (S28)) × Int × Int × Int × ByteArray) := (spec_l01New.f k l0).bind fun bt441 => ((spec_l06Any.f k bt441.1 bt441.2.1 bt441.2.2).bind fun bt445 => ((spec_LogLast.f bt445.1 bt445.2.1 bt445.2.2.1).bind fun bt453 => ((spec_l01Below.f bt441.1 bt445.2.2.2.1 bt445.2.2.2.2 2).bind fun bt455 => ((spec_l05Right.f k bt441.1 bt455.2.1 bt455.2.2 (wrap64 (bt453.2 + bt455.1))).bind fun bt458 => ((spec_l01Once.f bt441.1 bt458.2.2.2.1 bt458.2.2.2.2 8).bind fun bt464 => (if bt464.1 = true then ((spec_l05Any.f k bt441.1 bt464.2.1 bt464.2.2).bind fun bt467 => ((spec_l01Place.f bt441.1 bt467.2.2.2.1 bt467.2.2.2.2 (wrap64 ((bt445.2.2.1.length : Int) + 2))).bind fun bt472 => (some (bt445.1, bt445.2.1, bt445.2.2.1, wrap64 (bt445.1 + bt472.1), bt467.1, bt467.2.1, bt467.2.2.1)))) else ((spec_l01Place.f bt441.1 bt464.2.1 bt464.2.2 (wrap64 ((bt445.2.2.1.length : Int) + 2))).bind fun bt475 => (some (bt445.1, bt445.2.1, bt445.2.2.1, wrap64 (bt445.1 + bt475.1), bt458.1, bt458.2.1, bt458.2.2.1)))))))))
theorem spec_DrawLogPut.mono : ∀ a0 k, LeO (spec_DrawLogPut.f k a0) (spec_DrawLogPut.f (k + 1) a0) := by
 intro a0 k
 unfold spec_DrawLogPut.f
 repeat' first
   | (with_reducible exact spec_l01New.mono _ _)
   | (with_reducible exact spec_l05Any.mono _ _ _ _)
   | (with_reducible exact spec_l05Right.mono _ _ _ _ _)
   | (with_reducible exact spec_l06Any.mono _ _ _ _)
   | (with_reducible first | exact LeO.refl _ | exact LeO.none _ | refine LeO.ite ?_ ?_ | refine LeO.bind ?_ (fun _ => ?_))
   | exact spec_l01New.mono _ _
   | exact spec_l05Any.mono _ _ _ _
   | exact spec_l05Right.mono _ _ _ _ _
   | exact spec_l06Any.mono _ _ _ _
def spec_DrawLogPut.T7 : Bool × List (List Nat × List Nat) := (true, [([], []), ([], []), ([1], [1]), ([], []), ([], []), ([4], [4]), ([5], [5]), ([6], [6]), ([3, 7], [3, 7]), ([2, 8], [2, 8]), ([], []), ([0, 8, 0], [0]), ([9, 11, 0, 1, 2, 3, 4, 5, 6, 7, 8, 9, 11], [9]), ([10, 12, 0, 1, 2, 3, 4, 5, 6, 7, 8, 9, 10, 11, 12], [10])])
def spec_DrawLogPut.B7 : List Nat := [0, 0, 2, 0, 0, 16, 48, 112, 248, 510, 0, 505, 3071, 8191]
theorem spec_DrawLogPut.tab7 : rtab .any (opsOf Try.f8 7) = spec_DrawLogPut.T7 := by kernel_rfl
theorem spec_DrawLogPut.bits7 : waitsOk spec_DrawLogPut.T7.2 spec_DrawLogPut.B7 = true := by kernel_rfl
set_option maxHeartbeats 8000000 in
set_option maxRecDepth 100000 in
theorem spec_DrawLogPut.calls (k : Nat) (A0 : Option Addr) (c0 : Nat) (l0 : List Int) (r1 : Int) (r2 : Int) (r3 : List (S28)) (r4 : Int) (r5 : Int) (r6 : Int) (r7 : ByteArray) (w : World) (hr0 : Kd.C (Kd.int .u8) w A0 l0.length l0) (hc0 : l0.length ≤ c0) (h : spec_DrawLogPut.f k l0 = some (r1, r2, r3, r4, r5, r6, r7)) :
  Calls Try.prog 8 #[.slice A0 l0.length c0] w fun e w' => ∃ v2_ : Value, e = .returned (.tuple #[.agg #[.int .i64 r1, .int .i64 r2, v2_], .int .i64 r4, .agg #[.int .i64 r5, .int .i64 r6, .string r7]]) ∧ Kd.R k28 28 w' w.heap.size (fun _ => True) v2_ r3 ∧ Below w.heap.size w w' := by
 have hu26 := Try.underlying26
 have hu28 := Try.underlying28
 have HR0 := Aside0.mk hr0
 have HC0 := Aside0.mk hc0
 clear hr0 hc0
 have HB := Aside0.mk (Below.refl w.heap.size w)
 have H : ((spec_l01New.f k l0).bind fun bt441 => ((spec_l06Any.f k bt441.1 bt441.2.1 bt441.2.2).bind fun bt445 => ((spec_LogLast.f bt445.1 bt445.2.1 bt445.2.2.1).bind fun bt453 => ((spec_l01Below.f bt441.1 bt445.2.2.2.1 bt445.2.2.2.2 2).bind fun bt455 => ((spec_l05Right.f k bt441.1 bt455.2.1 bt455.2.2 (wrap64 (bt453.2 + bt455.1))).bind fun bt458 => ((spec_l01Once.f bt441.1 bt458.2.2.2.1 bt458.2.2.2.2 8).bind fun bt464 => (if bt464.1 = true then ((spec_l05Any.f k bt441.1 bt464.2.1 bt464.2.2).bind fun bt467 => ((spec_l01Place.f bt441.1 bt467.2.2.2.1 bt467.2.2.2.2 (wrap64 ((bt445.2.2.1.length : Int) + 2))).bind fun bt472 => (some (bt445.1, bt445.2.1, bt445.2.2.1, wrap64 (bt445.1 + bt472.1), bt467.1, bt467.2.1, bt467.2.2.1)))) else ((spec_l01Place.f bt441.1 bt464.2.1 bt464.2.2 (wrap64 ((bt445.2.2.1.length : Int) + 2))).bind fun bt475 => (some (bt445.1, bt445.2.1, bt445.2.2.1, wrap64 (bt445.1 + bt475.1), bt458.1, bt458.2.1, bt458.2.2.1)))))))))) = some (r1, r2, r3, r4, r5, r6, r7) := h
 clear h
 replace H := bsi H
 obtain ⟨⟨t441, t442, t443⟩, A2, H⟩ := H
 (try dsimp only at H)
 replace H := bsi H
 obtain ⟨⟨t445, t446, t447, t450, t451⟩, A3, H⟩ := H
 (try dsimp only at H)
 replace H := bsi H
 obtain ⟨⟨t453, t454⟩, A4, H⟩ := H
 (try dsimp only at H)
 replace H := bsi H
 obtain ⟨⟨t455, t456, t457⟩, A5, H⟩ := H
 (try dsimp only at H)
 replace H := bsi H
 obtain ⟨⟨t458, t459, t460, t461, t462⟩, A6, H⟩ := H
 (try dsimp only at H)
 replace H := bsi H
 obtain ⟨⟨t464, t465, t466⟩, A7, H⟩ := H
 (try dsimp only at H)
 by_cases c8 : t464 = true
 ·subst c8
  rw [if_pos rfl] at H
  replace H := bsi H
  obtain ⟨⟨t467, t468, t469, t470, t471⟩, A9, H⟩ := H
  (try dsimp only at H)
  replace H := bsi H
  obtain ⟨⟨t472, t473, t474⟩, A10, H⟩ := H
  (try dsimp only at H)
  simp only [Option.some.injEq, Prod.mk.injEq] at H
  obtain ⟨rfl, rfl, rfl, rfl, rfl, rfl, rfl⟩ := H
  go_enter Try.func8, Try.ntmps8
  try go_wp2_with (first | ((with_reducible refine gate_dst (N := 2) rfl ?_); refine box_event ?hg (N := 2) ?hd (cs := #[.int .i64 0, .int .i64 0, .slice none 0 0]) (t := 26) ?hr ?_; (case hd => rfl); (case hg => rfl); (case hr => exact B10x13_); intro gb439 hg w11 hbox hb; have BK439 := Aside0.mk (hbox); have GW439 := Aside0.mk ((bs hg (below_size HB.out))); have GE439 := Aside0.mk ((bs hg (below_size HB.out))); replace HB := Aside0.mk (below_step B10x7_ hb); clear hb hbox hg) | ((with_reducible refine gate_dst (N := 4) rfl ?_); refine box_event ?hg (N := 4) ?hd (cs := #[.int .i64 0, .int .i64 0, .string (⟨#[]⟩ : ByteArray)]) (t := 28) ?hr ?_; (case hd => rfl); (case hg => rfl); (case hr => exact B10x13_); intro gb440 hg w12 hbox hb; have BK440 := Aside0.mk (hbox); have GW440 := Aside0.mk ((bs hg (below_size HB.out))); have GE440 := Aside0.mk ((bs hg (below_size HB.out))); replace HB := Aside0.mk (below_step B10x27_ hb); have NB439_440 := Aside0.mk ((nl hg (blk_lt BK439.out))); have NB440_439 := Aside0.mk ((ng hg (blk_lt BK439.out))); replace BK439 := Aside0.mk (bb BK439.out hb); clear hb hbox hg) | ((with_reducible refine gate_callee (f := 37) rfl ?_); refine goesL_ (some 11) rfl rfl Try.func37 B10x19_ rfl #[.slice A0 l0.length c0] rfl B10x2_ ?_; (with_reducible refine (spec_l01New.calls k _ _ l0 t441 t442 t443 w _ ?side1 ?side2 ?side3 A2.out).mono ?_); (case side1 => exact B10x26_); (case side2 => exact HR0.out); (case side3 => exact HC0.out); rintro e w13 ⟨g444, rfl, hi, hb, hb2⟩; refine ⟨_, rfl, ?_⟩; replace HB := Aside0.mk (hb); have HI444 := Aside0.mk (hi); have NB444_439 := Aside0.mk (IsS107.ne_blk hi (bb BK439.out hb2) (by decide)); have NB439_444 := Aside0.mk (Ne.symm (IsS107.ne_blk hi (bb BK439.out hb2) (by decide))); replace BK439 := Aside0.mk (bb BK439.out hb2); have NB444_440 := Aside0.mk (IsS107.ne_blk hi (bb BK440.out hb2) (by decide)); have NB440_444 := Aside0.mk (Ne.symm (IsS107.ne_blk hi (bb BK440.out hb2) (by decide))); replace BK440 := Aside0.mk (bb BK440.out hb2); (try clear hb); (try clear hb2); (try clear hi)) | ((with_reducible refine gate_callee (f := 38) rfl ?_); refine goesL_ (some 13) rfl rfl Try.func38 B10x19_ rfl #[.pointer (some ⟨g444, 0, none⟩)] rfl B10x2_ ?_; (with_reducible refine (spec_l06Any.calls k g444 t441 t442 t443 t445 t446 t447 t450 t451 w _ ?side1 ?side2 A3.out).mono ?_); (case side1 => exact B10x9_); (case side2 => exact B10x5_); rintro e w14 ⟨v448, rfl, ho0, hi, hb, hk⟩; refine ⟨_, rfl, ?_⟩; replace BK439 := Aside0.mk (kb hk BK439.out NB439_444.out); have HO449 := Aside0.mk (Kd.R_lower (Kd.R_newB ho0 (g := gb440) (o := .cells #[.int .i64 0, .int .i64 0, .string (⟨#[]⟩ : ByteArray)] 28 (0, 0)) B10x29_) (below_size B10x5_)); replace BK440 := Aside0.mk (kb hk BK440.out NB440_444.out); replace HB := Aside0.mk (hb); replace HI444 := Aside0.mk (hi); (try clear hb); (try clear hb2); (try clear hk hi); (try clear ho0)) | ((with_reducible refine gate_dst (N := 6) rfl ?_); refine box_event ?hg (N := 6) ?hd (cs := #[.int .i64 0, .int .i64 0, .slice none 0 0]) (t := 26) ?hr ?_; (case hd => rfl); (case hg => rfl); (case hr => exact B10x13_); intro gb452 hg w15 hbox hb; replace HO449 := Aside0.mk (Kd.R_below B10x6_ hb); have BK452 := Aside0.mk (hbox); have GW452 := Aside0.mk ((bs hg (below_size HB.out))); have GE452 := Aside0.mk ((bs hg (below_size HB.out))); replace HB := Aside0.mk (below_step B10x5_ hb); have NB439_452 := Aside0.mk ((nl hg (blk_lt BK439.out))); have NB452_439 := Aside0.mk ((ng hg (blk_lt BK439.out))); replace BK439 := Aside0.mk (bb BK439.out hb); have NB440_452 := Aside0.mk ((nl hg (blk_lt BK440.out))); have NB452_440 := Aside0.mk ((ng hg (blk_lt BK440.out))); replace BK440 := Aside0.mk (bb BK440.out hb); have NB444_452 := Aside0.mk ((nl hg (IsS107.lt HI444.out))); have NB452_444 := Aside0.mk ((ng hg (IsS107.lt HI444.out))); replace HI444 := Aside0.mk (IsS107.below B10x9_ hb); clear hb hbox hg; have hnb16 := NB452_439.out; have hnc16 := NB439_452.out; have hnb17 := NB452_440.out; have hnc17 := NB440_452.out; have hnb18 := NB452_444.out; have hnc18 := NB444_452.out; obtain ⟨hcz19_0, hcz19_1, hcz19_2⟩ := cl3 BK452.out; obtain ⟨hfz19_0, hfz19_1, hfz19_2⟩ := fr3 BK452.out; obtain ⟨Ao20, co20, eo20⟩ := Kd.R_slice HO449.out; subst eo20) | ((with_reducible refine gate_callee (f := 39) rfl ?_); refine goesL_ (some 16) rfl rfl Try.func39 B10x19_ rfl #[.agg #[.int .i64 t445, .int .i64 t446, .slice Ao20 t447.length co20]] rfl B10x2_ ?_; (with_reducible refine (spec_LogLast.calls t445 t446 _ _ t447 t453 t454 _ ?side1 ?side2 A4.out).mono ?_); (case side1 => refine (Kd.R_reads' (e := 28) (base := w.heap.size) (ok := fun k_ => (True ∧ k_ ≠ gb440)) (n := t447.length) (c := co20) ?_).2.2; exact B10x17_); (case side2 => exact (Kd.R_reads' HO449.out).2.1); rintro e w21 ⟨rfl, hb⟩; refine ⟨_, rfl, ?_⟩; replace HO449 := Aside0.mk (Kd.R_below B10x17_ hb); replace BK439 := Aside0.mk (blk_below (g := gb439) (o := .cells #[.int .i64 0, .int .i64 0, .slice none 0 0] 26 (0, 0)) B10x22_ hb); replace BK440 := Aside0.mk (blk_below (g := gb440) (o := .cells #[.int .i64 0, .int .i64 0, .string (⟨#[]⟩ : ByteArray)] 28 (0, 0)) B10x24_ hb); replace BK452 := Aside0.mk (blk_below (g := gb452) (o := .cells #[.int .i64 t445, .int .i64 t446, .slice Ao20 t447.length co20] 26 (0, 0)) B10x25_ hb); replace HB := Aside0.mk (below_step B10x3_ hb); replace HI444 := Aside0.mk (IsS107.below (show IsS107 w (((w15.setCell ⟨gb452, 0, none⟩ (.int .i64 t445)).setCell ⟨gb452, 1, none⟩ (.int .i64 t446)).setCell ⟨gb452, 2, none⟩ (.slice Ao20 t447.length co20)) g444 t441 t450 t451 from B10x1_) hb); (try clear hb); (try clear hb2)) | ((with_reducible refine gate_callee (f := 41) rfl ?_); refine goesL_ (some 22) rfl rfl Try.func41 B10x19_ rfl #[.pointer (some ⟨g444, 0, none⟩), .int .i64 2] rfl B10x2_ ?_; (with_reducible refine (spec_l01Below.calls g444 t441 t450 t451 2 t455 t456 t457 w _ ?side1 ?side2 A5.out).mono ?_); (case side1 => exact B10x1_); (case side2 => exact B10x3_); rintro e w22 ⟨rfl, hi, hb, hk⟩; refine ⟨_, rfl, ?_⟩; replace BK439 := Aside0.mk (kb hk BK439.out NB439_444.out); replace BK440 := Aside0.mk (kb hk BK440.out NB440_444.out); replace HO449 := Aside0.mk (Kd.R_mono (Kd.R_keep (IsS107.apart (show IsS107 w _ g444 t441 t450 t451 from B10x1_) B10x6_ (by decide)) hk (fun _ h => h.2)) (fun _ h => h.1)); replace BK452 := Aside0.mk (kb hk BK452.out NB452_444.out); replace HB := Aside0.mk (hb); replace HI444 := Aside0.mk (hi); (try clear hb); (try clear hb2); (try clear hk hi)) | ((with_reducible refine gate_callee (f := 40) rfl ?_); refine goesL_ (some 24) rfl rfl Try.func40 B10x19_ rfl #[.pointer (some ⟨g444, 0, none⟩), .int .i64 (wrap64 (t454 + t455))] rfl B10x2_ ?_; (with_reducible refine (spec_l05Right.calls k g444 t441 t456 t457 (wrap64 (t454 + t455)) t458 t459 t460 t461 t462 w _ ?side1 ?side2 A6.out).mono ?_); (case side1 => exact B10x1_); (case side2 => exact B10x3_); rintro e w23 ⟨rfl, hi, hb, hk⟩; refine ⟨_, rfl, ?_⟩; replace BK439 := Aside0.mk (kb hk BK439.out NB439_444.out); replace BK440 := Aside0.mk (kb hk BK440.out NB440_444.out); replace HO449 := Aside0.mk (Kd.R_mono (Kd.R_keep (IsS107.apart (show IsS107 w _ g444 t441 t456 t457 from B10x1_) B10x6_ (by decide)) hk (fun _ h => h.2)) (fun _ h => h.1)); replace BK452 := Aside0.mk (kb hk BK452.out NB452_444.out); replace HB := Aside0.mk (hb); replace HI444 := Aside0.mk (hi); (try clear hb); (try clear hb2); (try clear hk hi)) | ((with_reducible refine gate_dst (N := 9) rfl ?_); refine box_event ?hg (N := 9) ?hd (cs := #[.int .i64 0, .int .i64 0, .string (⟨#[]⟩ : ByteArray)]) (t := 28) ?hr ?_; (case hd => rfl); (case hg => rfl); (case hr => exact B10x13_); intro gb463 hg w24 hbox hb; replace HO449 := Aside0.mk (Kd.R_below (Kd.R_elderB B10x6_ gb463 (Nat.le_of_eq hg.symm)) hb); have BK463 := Aside0.mk (hbox); have GW463 := Aside0.mk ((bs hg (below_size HB.out))); have GE463 := Aside0.mk ((bs hg (below_size HB.out))); replace HB := Aside0.mk (below_step B10x3_ hb); have NB439_463 := Aside0.mk ((nl hg (blk_lt BK439.out))); have NB463_439 := Aside0.mk ((ng hg (blk_lt BK439.out))); replace BK439 := Aside0.mk (bb BK439.out hb); have NB440_463 := Aside0.mk ((nl hg (blk_lt BK440.out))); have NB463_440 := Aside0.mk ((ng hg (blk_lt BK440.out))); replace BK440 := Aside0.mk (bb BK440.out hb); have NB452_463 := Aside0.mk ((nl hg (blk_lt BK452.out))); have NB463_452 := Aside0.mk ((ng hg (blk_lt BK452.out))); replace BK452 := Aside0.mk (bb BK452.out hb); have NB444_463 := Aside0.mk ((nl hg (IsS107.lt HI444.out))); have NB463_444 := Aside0.mk ((ng hg (IsS107.lt HI444.out))); replace HI444 := Aside0.mk (IsS107.below B10x1_ hb); clear hb hbox hg; have hnb25 := NB463_439.out; have hnc25 := NB439_463.out; have hnb26 := NB463_440.out; have hnc26 := NB440_463.out; have hnb27 := NB463_452.out; have hnc27 := NB452_463.out; have hnb28 := NB463_444.out; have hnc28 := NB444_463.out; obtain ⟨hcz29_0, hcz29_1, hcz29_2⟩ := cl3 BK463.out; obtain ⟨hfz29_0, hfz29_1, hfz29_2⟩ := fr3 BK463.out) | ((with_reducible refine gate_callee (f := 42) rfl ?_); refine goesL_ (some 26) rfl rfl Try.func42 B10x19_ rfl #[.pointer (some ⟨g444, 0, none⟩), .int .i64 8] rfl B10x2_ ?_; (with_reducible refine (spec_l01Once.calls g444 t441 t461 t462 8 true t465 t466 w _ ?side1 ?side2 A7.out).mono ?_); (case side1 => exact B10x0_); (case side2 => exact B10x4_); rintro e w30 ⟨rfl, hi, hb, hk⟩; refine ⟨_, rfl, ?_⟩; replace BK439 := Aside0.mk (KeepBut.blk hk (g' := gb439) (o := .cells #[.int .i64 0, .int .i64 0, .slice none 0 0] 26 (0, 0)) B10x10_ NB439_444.out (by simp)); replace BK440 := Aside0.mk (KeepBut.blk hk (g' := gb440) (o := .cells #[.int .i64 0, .int .i64 0, .string (⟨#[]⟩ : ByteArray)] 28 (0, 0)) B10x11_ NB440_444.out (by simp)); replace HO449 := Aside0.mk (Kd.R_mono (Kd.R_keep (IsS107.apart (show IsS107 w _ g444 t441 t461 t462 from B10x0_) B10x16_ (by decide)) hk (fun _ h => h.2)) (fun _ h => h.1)); replace BK452 := Aside0.mk (KeepBut.blk hk (g' := gb452) (o := .cells #[.int .i64 t445, .int .i64 t446, .slice Ao20 t447.length co20] 26 (0, 0)) B10x12_ NB452_444.out (by simp)); replace BK463 := Aside0.mk (KeepBut.blk hk (g' := gb463) (o := .cells #[.int .i64 t458, .int .i64 t459, .string t460] 28 (0, 0)) B10x14_ NB463_444.out (by simp)); replace HB := Aside0.mk (hb); replace HI444 := Aside0.mk (hi); (try clear hb); (try clear hb2); (try clear hk hi)) | ((with_reducible refine gate_callee (f := 43) rfl ?_); refine goesL_ (some 28) rfl rfl Try.func43 B10x19_ rfl #[.pointer (some ⟨g444, 0, none⟩)] rfl B10x2_ ?_; (with_reducible refine (spec_l05Any.calls k g444 t441 t465 t466 t467 t468 t469 t470 t471 w _ ?side1 ?side2 A9.out).mono ?_); (case side1 => exact B10x0_); (case side2 => exact B10x4_); rintro e w31 ⟨rfl, hi, hb, hk⟩; refine ⟨_, rfl, ?_⟩; replace BK439 := Aside0.mk (kb hk BK439.out NB439_444.out); replace BK440 := Aside0.mk (kb hk BK440.out NB440_444.out); replace HO449 := Aside0.mk (Kd.R_mono (Kd.R_keep (IsS107.apart (show IsS107 w _ g444 t441 t465 t466 from B10x0_) B10x6_ (by decide)) hk (fun _ h => h.2)) (fun _ h => h.1)); replace BK452 := Aside0.mk (kb hk BK452.out NB452_444.out); replace BK463 := Aside0.mk (kb hk BK463.out NB463_444.out); replace HB := Aside0.mk (hb); replace HI444 := Aside0.mk (hi); (try clear hb); (try clear hb2); (try clear hk hi); obtain ⟨hcz32_0, hcz32_1, hcz32_2⟩ := cl3 BK463.out; obtain ⟨hfz32_0, hfz32_1, hfz32_2⟩ := fr3 BK463.out))
  have n0_ : Aside0 (Kd.R k28 28 (((w31.setCell ⟨gb463, 0, none⟩ (.int .i64 t467)).setCell ⟨gb463, 1, none⟩ (.int .i64 t468)).setCell ⟨gb463, 2, none⟩ (.string t469)) w.heap.size (fun k_ => k_ ≠ gb440 ∧ k_ ≠ gb463) (.slice Ao20 t447.length co20) t447) := ⟨(by (with_reducible repeat (first | apply Kd.R_alloc | apply Kd.R_drewN | apply Kd.R_drew)); exact Kd.R_mono (Kd.R_far (p := ⟨gb463, 2, none⟩) (Kd.R_far (p := ⟨gb463, 1, none⟩) (Kd.R_far (p := ⟨gb463, 0, none⟩) (Kd.R_mono HO449.out (fun k_ hk => (⟨hk, hk.2⟩ : _ ∧ k_ ≠ gb463))) (fun _ hk => hk.2) (.int .i64 t467)) (fun _ hk => hk.2) (.int .i64 t468)) (fun _ hk => hk.2) (.string t469)) (fun _ hk => ⟨hk.1.1.2, hk.1.2⟩))⟩
  have n1_ : Aside0 ((((w31.setCell ⟨gb463, 0, none⟩ (.int .i64 t467)).setCell ⟨gb463, 1, none⟩ (.int .i64 t468)).setCell ⟨gb463, 2, none⟩ (.string t469)).heap[gb439]? = some (.cells #[.int .i64 0, .int .i64 0, .slice none 0 0] 26 (0, 0))) := ⟨B10x10_⟩
  have n2_ : Aside0 ((((w31.setCell ⟨gb463, 0, none⟩ (.int .i64 t467)).setCell ⟨gb463, 1, none⟩ (.int .i64 t468)).setCell ⟨gb463, 2, none⟩ (.string t469)).heap[gb440]? = some (.cells #[.int .i64 0, .int .i64 0, .string (⟨#[]⟩ : ByteArray)] 28 (0, 0))) := ⟨B10x11_⟩
  have n3_ : Aside0 ((((w31.setCell ⟨gb463, 0, none⟩ (.int .i64 t467)).setCell ⟨gb463, 1, none⟩ (.int .i64 t468)).setCell ⟨gb463, 2, none⟩ (.string t469)).heap[gb452]? = some (.cells #[.int .i64 t445, .int .i64 t446, .slice Ao20 t447.length co20] 26 (0, 0))) := ⟨B10x12_⟩
  have n4_ : Aside0 ((((w31.setCell ⟨gb463, 0, none⟩ (.int .i64 t467)).setCell ⟨gb463, 1, none⟩ (.int .i64 t468)).setCell ⟨gb463, 2, none⟩ (.string t469)).heap[gb463]? = some (.cells #[.int .i64 t467, .int .i64 t468, .string t469] 28 (0, 0))) := ⟨B10x14_⟩
  have n5_ : Aside0 (IsS107 w (((w31.setCell ⟨gb463, 0, none⟩ (.int .i64 t467)).setCell ⟨gb463, 1, none⟩ (.int .i64 t468)).setCell ⟨gb463, 2, none⟩ (.string t469)) g444 t441 t470 t471) := ⟨B10x0_⟩
  have n6_ : Aside0 (Below w.heap.size w (((w31.setCell ⟨gb463, 0, none⟩ (.int .i64 t467)).setCell ⟨gb463, 1, none⟩ (.int .i64 t468)).setCell ⟨gb463, 2, none⟩ (.string t469))) := ⟨B10x4_⟩
  (try clear HO449)
  (try clear BK439)
  (try clear BK440)
  (try clear BK452)
  (try clear BK463)
  (try clear HI444)
  (try clear HB)
  generalize (((w31.setCell ⟨gb463, 0, none⟩ (.int .i64 t467)).setCell ⟨gb463, 1, none⟩ (.int .i64 t468)).setCell ⟨gb463, 2, none⟩ (.string t469)) = w33 at n0_ n1_ n2_ n3_ n4_ n5_ n6_ ⊢
  have HO449 := n0_
  have BK439 := n1_
  have BK440 := n2_
  have BK452 := n3_
  have BK463 := n4_
  have HI444 := n5_
  have HB := n6_
  clear n0_ n1_ n2_ n3_ n4_ n5_ n6_
  replace HO449 := Aside0.mk (Kd.R_drew HO449.out)
  replace BK439 := Aside0.mk (blk_drew BK439.out)
  replace BK440 := Aside0.mk (blk_drew BK440.out)
  replace BK452 := Aside0.mk (blk_drew BK452.out)
  replace BK463 := Aside0.mk (blk_drew BK463.out)
  replace HI444 := Aside0.mk (IsS107.drew HI444.out)
  replace HB := Aside0.mk (below_drew1 HB.out)
  refine start_ (n := 14) (S := fun w' => w'.cell? ⟨gb452, 0, none⟩ = some (.int .i64 t445) ∧ w'.cell? ⟨gb452, 1, none⟩ = some (.int .i64 t446) ∧ w'.cell? ⟨gb452, 2, none⟩ = some (.slice Ao20 t447.length co20) ∧ w'.cell? ⟨gb463, 0, none⟩ = some (.int .i64 t467) ∧ w'.cell? ⟨gb463, 1, none⟩ = some (.int .i64 t468) ∧ w'.cell? ⟨gb463, 2, none⟩ = some (.string t469)) (ds := []) #[false, false, false, false, false, false, false, false, false, false, false, false, false, false] B10x19_ rfl rfl ⟨(blk_cell BK452.out 0).trans rfl, (blk_cell BK452.out 1).trans rfl, (blk_cell BK452.out 2).trans rfl, (blk_cell BK463.out 0).trans rfl, (blk_cell BK463.out 1).trans rfl, (blk_cell BK463.out 2).trans rfl⟩ (fun hHeld => ?_); refine with_tabW spec_DrawLogPut.tab7 spec_DrawLogPut.bits7 (fun HT_ HW_ => ?_)
  generalize w33.drew = w34 at HO449 BK439 BK440 BK452 BK463 HI444 HB hHeld ⊢
  refine pu_ 1 30 HT_ ?_
  refine pu_ 3 32 HT_ ?_
  refine pu_ 4 33 HT_ ?_
  refine ta_ 0 29 HT_ HW_ hHeld ?_
  refine ta_ 2 31 HT_ HW_ hHeld ?_
  refine ta_ 5 34 HT_ HW_ hHeld ?_
  refine pu_ 6 35 HT_ ?_
  refine pu_ 7 36 HT_ ?_
  refine ta_ 10 39 HT_ HW_ hHeld ?_
  refine one_ (i := 8) (N := some 37) #[true, true, true, true, true, true, true, true, true, false, true, false, false, false] rfl rfl (one_of HT_.out B10x19_) (by decide) (fun K hK => ?_)
  refine goes_ Try.func44 B10x19_ rfl #[.pointer (some ⟨g444, 0, none⟩), .int .i64 (wrap64 ((t447.length : Int) + 2))] (by rfl) rfl rfl B10x2_ ?_
  with_reducible refine (spec_l01Place.calls g444 t441 t470 t471 (wrap64 ((t447.length : Int) + 2)) t472 t473 t474 w _ ?side1 ?side2 A10.out).mono ?_
  (case side1 => exact B10x0_)
  (case side2 => exact B10x4_)
  rintro e w35 ⟨rfl, hi, hb, hk⟩
  refine ⟨_, rfl, ?_⟩
  replace BK439 := Aside0.mk (kb hk BK439.out NB439_444.out)
  replace BK440 := Aside0.mk (kb hk BK440.out NB440_444.out)
  replace HO449 := Aside0.mk (Kd.R_mono (Kd.R_keep (IsS107.apart (show IsS107 w _ g444 t441 t470 t471 from B10x0_) B10x6_ (by decide)) hk (fun _ h => h.2)) (fun _ h => h.1))
  replace BK452 := Aside0.mk (kb hk BK452.out NB452_444.out)
  replace BK463 := Aside0.mk (kb hk BK463.out NB463_444.out)
  replace HB := Aside0.mk (hb)
  replace HI444 := Aside0.mk (hi)
  (try clear hb)
  (try clear hb2)
  (try clear hk)
  (try clear hi)
  refine hK.out _ _ ⟨(blk_cell BK452.out 0).trans rfl, (blk_cell BK452.out 1).trans rfl, (blk_cell BK452.out 2).trans rfl, (blk_cell BK463.out 0).trans rfl, (blk_cell BK463.out 1).trans rfl, (blk_cell BK463.out 2).trans rfl⟩ (fun hHeld => ?_)
  clear hK K
  refine norm_ (a' := ?_) ?_ ?_
  rotate_left
  ·show Act.put _ (some 37) _ = _
   simp only [Act.put, List.setIfInBounds_toArray, List.set_cons_zero, List.set_cons_succ, i64_w, i32_w]
   rfl
  refine pu_ 9 38 HT_ ?_
  refine one_ (i := 11) (N := none) #[true, true, true, true, true, true, true, true, true, true, true, true, false, false] rfl rfl (one_of HT_.out B10x19_) (by decide) (fun K hK => ?_)
  have hs36 : w35.cell? ⟨gb439, 0, none⟩ = some (.int .i64 0) := (blk_cell BK439.out 0).trans rfl
  have hfs36 := blk_frozen BK439.out 0
  have hns36_1 := NB440_439.out
  have hns36_2 := NB452_439.out
  have hns36_3 := NB463_439.out
  have hms36_1 := NB439_440.out
  have hms36_2 := NB439_452.out
  have hms36_3 := NB439_463.out
  have hs37 : w35.cell? ⟨gb439, 1, none⟩ = some (.int .i64 0) := (blk_cell BK439.out 1).trans rfl
  have hfs37 := blk_frozen BK439.out 1
  have hns37_1 := NB440_439.out
  have hns37_2 := NB452_439.out
  have hns37_3 := NB463_439.out
  have hms37_1 := NB439_440.out
  have hms37_2 := NB439_452.out
  have hms37_3 := NB439_463.out
  have hs38 : w35.cell? ⟨gb439, 2, none⟩ = some (.slice none 0 0) := (blk_cell BK439.out 2).trans rfl
  have hfs38 := blk_frozen BK439.out 2
  have hns38_1 := NB440_439.out
  have hns38_2 := NB452_439.out
  have hns38_3 := NB463_439.out
  have hms38_1 := NB439_440.out
  have hms38_2 := NB439_452.out
  have hms38_3 := NB439_463.out
  refine skip_ (w1 := ?_) (by rfl) rfl ?_ ?_
  rotate_left
  ·go_simp
   rfl
  refine hK.out _ _ ⟨((cell_far (p := ⟨gb439, _, none⟩) NB452_439.out _).trans (((cell_far (p := ⟨gb439, _, none⟩) NB452_439.out _).trans (((cell_far (p := ⟨gb439, _, none⟩) NB452_439.out _).trans (hHeld.1)))))), ((cell_far (p := ⟨gb439, _, none⟩) NB452_439.out _).trans (((cell_far (p := ⟨gb439, _, none⟩) NB452_439.out _).trans (((cell_far (p := ⟨gb439, _, none⟩) NB452_439.out _).trans (hHeld.2.1)))))), ((cell_far (p := ⟨gb439, _, none⟩) NB452_439.out _).trans (((cell_far (p := ⟨gb439, _, none⟩) NB452_439.out _).trans (((cell_far (p := ⟨gb439, _, none⟩) NB452_439.out _).trans (hHeld.2.2.1)))))), ((cell_far (p := ⟨gb439, _, none⟩) NB463_439.out _).trans (((cell_far (p := ⟨gb439, _, none⟩) NB463_439.out _).trans (((cell_far (p := ⟨gb439, _, none⟩) NB463_439.out _).trans (hHeld.2.2.2.1)))))), ((cell_far (p := ⟨gb439, _, none⟩) NB463_439.out _).trans (((cell_far (p := ⟨gb439, _, none⟩) NB463_439.out _).trans (((cell_far (p := ⟨gb439, _, none⟩) NB463_439.out _).trans (hHeld.2.2.2.2.1)))))), ((cell_far (p := ⟨gb439, _, none⟩) NB463_439.out _).trans (((cell_far (p := ⟨gb439, _, none⟩) NB463_439.out _).trans (((cell_far (p := ⟨gb439, _, none⟩) NB463_439.out _).trans (hHeld.2.2.2.2.2))))))⟩ (fun hHeld => ?_)
  clear hK K
  refine pu_ 12 3 HT_ ?_
  refine one_ (i := 13) (N := none) #[true, true, true, true, true, true, true, true, true, true, true, true, true, true] rfl rfl (one_of HT_.out B10x19_) (by decide) (fun K hK => ?_)
  have hs39 : w35.cell? ⟨gb440, 0, none⟩ = some (.int .i64 0) := (blk_cell BK440.out 0).trans rfl
  have hfs39 := blk_frozen BK440.out 0
  have hns39_0 := NB439_440.out
  have hns39_2 := NB452_440.out
  have hns39_3 := NB463_440.out
  have hms39_0 := NB440_439.out
  have hms39_2 := NB440_452.out
  have hms39_3 := NB440_463.out
  have hs40 : w35.cell? ⟨gb440, 1, none⟩ = some (.int .i64 0) := (blk_cell BK440.out 1).trans rfl
  have hfs40 := blk_frozen BK440.out 1
  have hns40_0 := NB439_440.out
  have hns40_2 := NB452_440.out
  have hns40_3 := NB463_440.out
  have hms40_0 := NB440_439.out
  have hms40_2 := NB440_452.out
  have hms40_3 := NB440_463.out
  have hs41 : w35.cell? ⟨gb440, 2, none⟩ = some (.string (⟨#[]⟩ : ByteArray)) := (blk_cell BK440.out 2).trans rfl
  have hfs41 := blk_frozen BK440.out 2
  have hns41_0 := NB439_440.out
  have hns41_2 := NB452_440.out
  have hns41_3 := NB463_440.out
  have hms41_0 := NB440_439.out
  have hms41_2 := NB440_452.out
  have hms41_3 := NB440_463.out
  refine skip_ (w1 := ?_) (by rfl) rfl ?_ ?_
  rotate_left
  ·go_simp
   rfl
  refine hK.out _ _ ⟨((cell_far (p := ⟨gb440, _, none⟩) NB452_440.out _).trans (((cell_far (p := ⟨gb440, _, none⟩) NB452_440.out _).trans (((cell_far (p := ⟨gb440, _, none⟩) NB452_440.out _).trans (hHeld.1)))))), ((cell_far (p := ⟨gb440, _, none⟩) NB452_440.out _).trans (((cell_far (p := ⟨gb440, _, none⟩) NB452_440.out _).trans (((cell_far (p := ⟨gb440, _, none⟩) NB452_440.out _).trans (hHeld.2.1)))))), ((cell_far (p := ⟨gb440, _, none⟩) NB452_440.out _).trans (((cell_far (p := ⟨gb440, _, none⟩) NB452_440.out _).trans (((cell_far (p := ⟨gb440, _, none⟩) NB452_440.out _).trans (hHeld.2.2.1)))))), ((cell_far (p := ⟨gb440, _, none⟩) NB463_440.out _).trans (((cell_far (p := ⟨gb440, _, none⟩) NB463_440.out _).trans (((cell_far (p := ⟨gb440, _, none⟩) NB463_440.out _).trans (hHeld.2.2.2.1)))))), ((cell_far (p := ⟨gb440, _, none⟩) NB463_440.out _).trans (((cell_far (p := ⟨gb440, _, none⟩) NB463_440.out _).trans (((cell_far (p := ⟨gb440, _, none⟩) NB463_440.out _).trans (hHeld.2.2.2.2.1)))))), ((cell_far (p := ⟨gb440, _, none⟩) NB463_440.out _).trans (((cell_far (p := ⟨gb440, _, none⟩) NB463_440.out _).trans (((cell_far (p := ⟨gb440, _, none⟩) NB463_440.out _).trans (hHeld.2.2.2.2.2))))))⟩ (fun hHeld => ?_)
  clear hK K
  refine done_ (done_of HT_.out B10x19_) ?_
  try go_wp2
  refine bodyPost_ret (results_list (rs := [.cell 2 26, .tmp 3, .cell 4 28]) rfl (by simp) (.cell gb439 26 #[.int .i64 t445, .int .i64 t446, .slice Ao20 t447.length co20] (0, 0) _ rfl B10x21_ Try.underlying26 rfl B10x19_ (.tmp (.cell gb440 28 #[.int .i64 t467, .int .i64 t468, .string t469] (0, 0) _ rfl B10x23_ Try.underlying28 rfl B10x19_ .nil)))) rfl ?_
  exact ⟨_, by first | rfl | (simp [errW_none, errW_some] <;> rfl) | (simp [*, errW_none, errW_some] <;> rfl), by (with_reducible repeat (first | apply Kd.R_alloc | apply Kd.R_drewN | apply Kd.R_drew)); exact Kd.R_mono (Kd.R_far (p := ⟨gb440, 2, none⟩) (Kd.R_far (p := ⟨gb440, 1, none⟩) (Kd.R_far (p := ⟨gb440, 0, none⟩) (Kd.R_far (p := ⟨gb439, 2, none⟩) (Kd.R_far (p := ⟨gb439, 1, none⟩) (Kd.R_far (p := ⟨gb439, 0, none⟩) (Kd.R_mono (Kd.R_types HO449.out BK439.out (by decide)) (fun k_ hk => (⟨hk, hk.1.1⟩ : _ ∧ k_ ≠ gb440))) (fun _ hk => hk.1.2) (.int .i64 t445)) (fun _ hk => hk.1.2) (.int .i64 t446)) (fun _ hk => hk.1.2) (.slice Ao20 t447.length co20)) (fun _ hk => hk.2) (.int .i64 t467)) (fun _ hk => hk.2) (.int .i64 t468)) (fun _ hk => hk.2) (.string t469)) (fun _ hk => trivial), by repeat (first | (with_reducible first | exact HB.out | apply below_alloc | apply pw_below_drewN | apply below_drew1 | refine below_set ?_ (IsS107.ge HI444.out) | refine below_set ?_ GE439.out | refine below_set ?_ GE440.out | refine below_set ?_ GE452.out | refine below_set ?_ GE463.out) | exact HB.out)⟩
 ·replace c8 := Bool.eq_false_iff.mpr c8
  subst c8
  rw [if_neg (show ¬ (false = true) by decide)] at H
  replace H := bsi H
  obtain ⟨⟨t475, t476, t477⟩, A42, H⟩ := H
  (try dsimp only at H)
  simp only [Option.some.injEq, Prod.mk.injEq] at H
  obtain ⟨rfl, rfl, rfl, rfl, rfl, rfl, rfl⟩ := H
  go_enter Try.func8, Try.ntmps8
  try go_wp2_with (first | ((with_reducible refine gate_dst (N := 2) rfl ?_); refine box_event ?hg (N := 2) ?hd (cs := #[.int .i64 0, .int .i64 0, .slice none 0 0]) (t := 26) ?hr ?_; (case hd => rfl); (case hg => rfl); (case hr => exact B10x13_); intro gb439 hg w43 hbox hb; have BK439 := Aside0.mk (hbox); have GW439 := Aside0.mk ((bs hg (below_size HB.out))); have GE439 := Aside0.mk ((bs hg (below_size HB.out))); replace HB := Aside0.mk (below_step B10x7_ hb); clear hb hbox hg) | ((with_reducible refine gate_dst (N := 4) rfl ?_); refine box_event ?hg (N := 4) ?hd (cs := #[.int .i64 0, .int .i64 0, .string (⟨#[]⟩ : ByteArray)]) (t := 28) ?hr ?_; (case hd => rfl); (case hg => rfl); (case hr => exact B10x13_); intro gb440 hg w44 hbox hb; have BK440 := Aside0.mk (hbox); have GW440 := Aside0.mk ((bs hg (below_size HB.out))); have GE440 := Aside0.mk ((bs hg (below_size HB.out))); replace HB := Aside0.mk (below_step B10x27_ hb); have NB439_440 := Aside0.mk ((nl hg (blk_lt BK439.out))); have NB440_439 := Aside0.mk ((ng hg (blk_lt BK439.out))); replace BK439 := Aside0.mk (bb BK439.out hb); clear hb hbox hg) | ((with_reducible refine gate_callee (f := 37) rfl ?_); refine goesL_ (some 11) rfl rfl Try.func37 B10x19_ rfl #[.slice A0 l0.length c0] rfl B10x2_ ?_; (with_reducible refine (spec_l01New.calls k _ _ l0 t441 t442 t443 w _ ?side1 ?side2 ?side3 A2.out).mono ?_); (case side1 => exact B10x26_); (case side2 => exact HR0.out); (case side3 => exact HC0.out); rintro e w45 ⟨g444, rfl, hi, hb, hb2⟩; refine ⟨_, rfl, ?_⟩; replace HB := Aside0.mk (hb); have HI444 := Aside0.mk (hi); have NB444_439 := Aside0.mk (IsS107.ne_blk hi (bb BK439.out hb2) (by decide)); have NB439_444 := Aside0.mk (Ne.symm (IsS107.ne_blk hi (bb BK439.out hb2) (by decide))); replace BK439 := Aside0.mk (bb BK439.out hb2); have NB444_440 := Aside0.mk (IsS107.ne_blk hi (bb BK440.out hb2) (by decide)); have NB440_444 := Aside0.mk (Ne.symm (IsS107.ne_blk hi (bb BK440.out hb2) (by decide))); replace BK440 := Aside0.mk (bb BK440.out hb2); (try clear hb); (try clear hb2); (try clear hi)) | ((with_reducible refine gate_callee (f := 38) rfl ?_); refine goesL_ (some 13) rfl rfl Try.func38 B10x19_ rfl #[.pointer (some ⟨g444, 0, none⟩)] rfl B10x2_ ?_; (with_reducible refine (spec_l06Any.calls k g444 t441 t442 t443 t445 t446 t447 t450 t451 w _ ?side1 ?side2 A3.out).mono ?_); (case side1 => exact B10x9_); (case side2 => exact B10x5_); rintro e w46 ⟨v448, rfl, ho0, hi, hb, hk⟩; refine ⟨_, rfl, ?_⟩; replace BK439 := Aside0.mk (kb hk BK439.out NB439_444.out); have HO449 := Aside0.mk (Kd.R_lower (Kd.R_newB ho0 (g := gb440) (o := .cells #[.int .i64 0, .int .i64 0, .string (⟨#[]⟩ : ByteArray)] 28 (0, 0)) B10x29_) (below_size B10x5_)); replace BK440 := Aside0.mk (kb hk BK440.out NB440_444.out); replace HB := Aside0.mk (hb); replace HI444 := Aside0.mk (hi); (try clear hb); (try clear hb2); (try clear hk hi); (try clear ho0)) | ((with_reducible refine gate_dst (N := 6) rfl ?_); refine box_event ?hg (N := 6) ?hd (cs := #[.int .i64 0, .int .i64 0, .slice none 0 0]) (t := 26) ?hr ?_; (case hd => rfl); (case hg => rfl); (case hr => exact B10x13_); intro gb452 hg w47 hbox hb; replace HO449 := Aside0.mk (Kd.R_below B10x6_ hb); have BK452 := Aside0.mk (hbox); have GW452 := Aside0.mk ((bs hg (below_size HB.out))); have GE452 := Aside0.mk ((bs hg (below_size HB.out))); replace HB := Aside0.mk (below_step B10x5_ hb); have NB439_452 := Aside0.mk ((nl hg (blk_lt BK439.out))); have NB452_439 := Aside0.mk ((ng hg (blk_lt BK439.out))); replace BK439 := Aside0.mk (bb BK439.out hb); have NB440_452 := Aside0.mk ((nl hg (blk_lt BK440.out))); have NB452_440 := Aside0.mk ((ng hg (blk_lt BK440.out))); replace BK440 := Aside0.mk (bb BK440.out hb); have NB444_452 := Aside0.mk ((nl hg (IsS107.lt HI444.out))); have NB452_444 := Aside0.mk ((ng hg (IsS107.lt HI444.out))); replace HI444 := Aside0.mk (IsS107.below B10x9_ hb); clear hb hbox hg; have hnb48 := NB452_439.out; have hnc48 := NB439_452.out; have hnb49 := NB452_440.out; have hnc49 := NB440_452.out; have hnb50 := NB452_444.out; have hnc50 := NB444_452.out; obtain ⟨hcz51_0, hcz51_1, hcz51_2⟩ := cl3 BK452.out; obtain ⟨hfz51_0, hfz51_1, hfz51_2⟩ := fr3 BK452.out; obtain ⟨Ao52, co52, eo52⟩ := Kd.R_slice HO449.out; subst eo52) | ((with_reducible refine gate_callee (f := 39) rfl ?_); refine goesL_ (some 16) rfl rfl Try.func39 B10x19_ rfl #[.agg #[.int .i64 t445, .int .i64 t446, .slice Ao52 t447.length co52]] rfl B10x2_ ?_; (with_reducible refine (spec_LogLast.calls t445 t446 _ _ t447 t453 t454 _ ?side1 ?side2 A4.out).mono ?_); (case side1 => refine (Kd.R_reads' (e := 28) (base := w.heap.size) (ok := fun k_ => (True ∧ k_ ≠ gb440)) (n := t447.length) (c := co52) ?_).2.2; exact B10x18_); (case side2 => exact (Kd.R_reads' HO449.out).2.1); rintro e w53 ⟨rfl, hb⟩; refine ⟨_, rfl, ?_⟩; replace HO449 := Aside0.mk (Kd.R_below B10x18_ hb); replace BK439 := Aside0.mk (blk_below (g := gb439) (o := .cells #[.int .i64 0, .int .i64 0, .slice none 0 0] 26 (0, 0)) B10x22_ hb); replace BK440 := Aside0.mk (blk_below (g := gb440) (o := .cells #[.int .i64 0, .int .i64 0, .string (⟨#[]⟩ : ByteArray)] 28 (0, 0)) B10x24_ hb); replace BK452 := Aside0.mk (blk_below (g := gb452) (o := .cells #[.int .i64 t445, .int .i64 t446, .slice Ao52 t447.length co52] 26 (0, 0)) B10x25_ hb); replace HB := Aside0.mk (below_step B10x3_ hb); replace HI444 := Aside0.mk (IsS107.below (show IsS107 w (((w47.setCell ⟨gb452, 0, none⟩ (.int .i64 t445)).setCell ⟨gb452, 1, none⟩ (.int .i64 t446)).setCell ⟨gb452, 2, none⟩ (.slice Ao52 t447.length co52)) g444 t441 t450 t451 from B10x1_) hb); (try clear hb); (try clear hb2)) | ((with_reducible refine gate_callee (f := 41) rfl ?_); refine goesL_ (some 22) rfl rfl Try.func41 B10x19_ rfl #[.pointer (some ⟨g444, 0, none⟩), .int .i64 2] rfl B10x2_ ?_; (with_reducible refine (spec_l01Below.calls g444 t441 t450 t451 2 t455 t456 t457 w _ ?side1 ?side2 A5.out).mono ?_); (case side1 => exact B10x1_); (case side2 => exact B10x3_); rintro e w54 ⟨rfl, hi, hb, hk⟩; refine ⟨_, rfl, ?_⟩; replace BK439 := Aside0.mk (kb hk BK439.out NB439_444.out); replace BK440 := Aside0.mk (kb hk BK440.out NB440_444.out); replace HO449 := Aside0.mk (Kd.R_mono (Kd.R_keep (IsS107.apart (show IsS107 w _ g444 t441 t450 t451 from B10x1_) B10x6_ (by decide)) hk (fun _ h => h.2)) (fun _ h => h.1)); replace BK452 := Aside0.mk (kb hk BK452.out NB452_444.out); replace HB := Aside0.mk (hb); replace HI444 := Aside0.mk (hi); (try clear hb); (try clear hb2); (try clear hk hi)) | ((with_reducible refine gate_callee (f := 40) rfl ?_); refine goesL_ (some 24) rfl rfl Try.func40 B10x19_ rfl #[.pointer (some ⟨g444, 0, none⟩), .int .i64 (wrap64 (t454 + t455))] rfl B10x2_ ?_; (with_reducible refine (spec_l05Right.calls k g444 t441 t456 t457 (wrap64 (t454 + t455)) t458 t459 t460 t461 t462 w _ ?side1 ?side2 A6.out).mono ?_); (case side1 => exact B10x1_); (case side2 => exact B10x3_); rintro e w55 ⟨rfl, hi, hb, hk⟩; refine ⟨_, rfl, ?_⟩; replace BK439 := Aside0.mk (kb hk BK439.out NB439_444.out); replace BK440 := Aside0.mk (kb hk BK440.out NB440_444.out); replace HO449 := Aside0.mk (Kd.R_mono (Kd.R_keep (IsS107.apart (show IsS107 w _ g444 t441 t456 t457 from B10x1_) B10x6_ (by decide)) hk (fun _ h => h.2)) (fun _ h => h.1)); replace BK452 := Aside0.mk (kb hk BK452.out NB452_444.out); replace HB := Aside0.mk (hb); replace HI444 := Aside0.mk (hi); (try clear hb); (try clear hb2); (try clear hk hi)) | ((with_reducible refine gate_dst (N := 9) rfl ?_); refine box_event ?hg (N := 9) ?hd (cs := #[.int .i64 0, .int .i64 0, .string (⟨#[]⟩ : ByteArray)]) (t := 28) ?hr ?_; (case hd => rfl); (case hg => rfl); (case hr => exact B10x13_); intro gb463 hg w56 hbox hb; replace HO449 := Aside0.mk (Kd.R_below (Kd.R_elderB B10x6_ gb463 (Nat.le_of_eq hg.symm)) hb); have BK463 := Aside0.mk (hbox); have GW463 := Aside0.mk ((bs hg (below_size HB.out))); have GE463 := Aside0.mk ((bs hg (below_size HB.out))); replace HB := Aside0.mk (below_step B10x3_ hb); have NB439_463 := Aside0.mk ((nl hg (blk_lt BK439.out))); have NB463_439 := Aside0.mk ((ng hg (blk_lt BK439.out))); replace BK439 := Aside0.mk (bb BK439.out hb); have NB440_463 := Aside0.mk ((nl hg (blk_lt BK440.out))); have NB463_440 := Aside0.mk ((ng hg (blk_lt BK440.out))); replace BK440 := Aside0.mk (bb BK440.out hb); have NB452_463 := Aside0.mk ((nl hg (blk_lt BK452.out))); have NB463_452 := Aside0.mk ((ng hg (blk_lt BK452.out))); replace BK452 := Aside0.mk (bb BK452.out hb); have NB444_463 := Aside0.mk ((nl hg (IsS107.lt HI444.out))); have NB463_444 := Aside0.mk ((ng hg (IsS107.lt HI444.out))); replace HI444 := Aside0.mk (IsS107.below B10x1_ hb); clear hb hbox hg; have hnb57 := NB463_439.out; have hnc57 := NB439_463.out; have hnb58 := NB463_440.out; have hnc58 := NB440_463.out; have hnb59 := NB463_452.out; have hnc59 := NB452_463.out; have hnb60 := NB463_444.out; have hnc60 := NB444_463.out; obtain ⟨hcz61_0, hcz61_1, hcz61_2⟩ := cl3 BK463.out; obtain ⟨hfz61_0, hfz61_1, hfz61_2⟩ := fr3 BK463.out) | ((with_reducible refine gate_callee (f := 42) rfl ?_); refine goesL_ (some 26) rfl rfl Try.func42 B10x19_ rfl #[.pointer (some ⟨g444, 0, none⟩), .int .i64 8] rfl B10x2_ ?_; (with_reducible refine (spec_l01Once.calls g444 t441 t461 t462 8 false t465 t466 w _ ?side1 ?side2 A7.out).mono ?_); (case side1 => exact B10x0_); (case side2 => exact B10x4_); rintro e w62 ⟨rfl, hi, hb, hk⟩; refine ⟨_, rfl, ?_⟩; replace BK439 := Aside0.mk (KeepBut.blk hk (g' := gb439) (o := .cells #[.int .i64 0, .int .i64 0, .slice none 0 0] 26 (0, 0)) B10x10_ NB439_444.out (by simp)); replace BK440 := Aside0.mk (KeepBut.blk hk (g' := gb440) (o := .cells #[.int .i64 0, .int .i64 0, .string (⟨#[]⟩ : ByteArray)] 28 (0, 0)) B10x11_ NB440_444.out (by simp)); replace HO449 := Aside0.mk (Kd.R_mono (Kd.R_keep (IsS107.apart (show IsS107 w _ g444 t441 t461 t462 from B10x0_) B10x16_ (by decide)) hk (fun _ h => h.2)) (fun _ h => h.1)); replace BK452 := Aside0.mk (KeepBut.blk hk (g' := gb452) (o := .cells #[.int .i64 t445, .int .i64 t446, .slice Ao52 t447.length co52] 26 (0, 0)) B10x12_ NB452_444.out (by simp)); replace BK463 := Aside0.mk (KeepBut.blk hk (g' := gb463) (o := .cells #[.int .i64 t458, .int .i64 t459, .string t460] 28 (0, 0)) B10x14_ NB463_444.out (by simp)); replace HB := Aside0.mk (hb); replace HI444 := Aside0.mk (hi); (try clear hb); (try clear hb2); (try clear hk hi)))
  replace HO449 := Aside0.mk (Kd.R_drew HO449.out)
  replace BK439 := Aside0.mk (blk_drew BK439.out)
  replace BK440 := Aside0.mk (blk_drew BK440.out)
  replace BK452 := Aside0.mk (blk_drew BK452.out)
  replace BK463 := Aside0.mk (blk_drew BK463.out)
  replace HI444 := Aside0.mk (IsS107.drew HI444.out)
  replace HB := Aside0.mk (below_drew1 HB.out)
  refine start_ (n := 14) (S := fun w' => w'.cell? ⟨gb452, 0, none⟩ = some (.int .i64 t445) ∧ w'.cell? ⟨gb452, 1, none⟩ = some (.int .i64 t446) ∧ w'.cell? ⟨gb452, 2, none⟩ = some (.slice Ao52 t447.length co52) ∧ w'.cell? ⟨gb463, 0, none⟩ = some (.int .i64 t458) ∧ w'.cell? ⟨gb463, 1, none⟩ = some (.int .i64 t459) ∧ w'.cell? ⟨gb463, 2, none⟩ = some (.string t460)) (ds := []) #[false, false, false, false, false, false, false, false, false, false, false, false, false, false] B10x19_ rfl rfl ⟨(blk_cell BK452.out 0).trans rfl, (blk_cell BK452.out 1).trans rfl, (blk_cell BK452.out 2).trans rfl, (blk_cell BK463.out 0).trans rfl, (blk_cell BK463.out 1).trans rfl, (blk_cell BK463.out 2).trans rfl⟩ (fun hHeld => ?_); refine with_tabW spec_DrawLogPut.tab7 spec_DrawLogPut.bits7 (fun HT_ HW_ => ?_)
  generalize w62.drew = w63 at HO449 BK439 BK440 BK452 BK463 HI444 HB hHeld ⊢
  refine pu_ 1 30 HT_ ?_
  refine pu_ 3 32 HT_ ?_
  refine pu_ 4 33 HT_ ?_
  refine ta_ 0 29 HT_ HW_ hHeld ?_
  refine ta_ 2 31 HT_ HW_ hHeld ?_
  refine ta_ 5 34 HT_ HW_ hHeld ?_
  refine pu_ 6 35 HT_ ?_
  refine pu_ 7 36 HT_ ?_
  refine ta_ 10 39 HT_ HW_ hHeld ?_
  refine one_ (i := 8) (N := some 37) #[true, true, true, true, true, true, true, true, true, false, true, false, false, false] rfl rfl (one_of HT_.out B10x19_) (by decide) (fun K hK => ?_)
  refine goes_ Try.func44 B10x19_ rfl #[.pointer (some ⟨g444, 0, none⟩), .int .i64 (wrap64 ((t447.length : Int) + 2))] (by rfl) rfl rfl B10x2_ ?_
  with_reducible refine (spec_l01Place.calls g444 t441 t465 t466 (wrap64 ((t447.length : Int) + 2)) t475 t476 t477 w _ ?side1 ?side2 A42.out).mono ?_
  (case side1 => exact B10x0_)
  (case side2 => exact B10x4_)
  rintro e w64 ⟨rfl, hi, hb, hk⟩
  refine ⟨_, rfl, ?_⟩
  replace BK439 := Aside0.mk (kb hk BK439.out NB439_444.out)
  replace BK440 := Aside0.mk (kb hk BK440.out NB440_444.out)
  replace HO449 := Aside0.mk (Kd.R_mono (Kd.R_keep (IsS107.apart (show IsS107 w _ g444 t441 t465 t466 from B10x0_) B10x6_ (by decide)) hk (fun _ h => h.2)) (fun _ h => h.1))
  replace BK452 := Aside0.mk (kb hk BK452.out NB452_444.out)
  replace BK463 := Aside0.mk (kb hk BK463.out NB463_444.out)
  replace HB := Aside0.mk (hb)
  replace HI444 := Aside0.mk (hi)
  (try clear hb)
  (try clear hb2)
  (try clear hk)
  (try clear hi)
  refine hK.out _ _ ⟨(blk_cell BK452.out 0).trans rfl, (blk_cell BK452.out 1).trans rfl, (blk_cell BK452.out 2).trans rfl, (blk_cell BK463.out 0).trans rfl, (blk_cell BK463.out 1).trans rfl, (blk_cell BK463.out 2).trans rfl⟩ (fun hHeld => ?_)
  clear hK K
  refine norm_ (a' := ?_) ?_ ?_
  rotate_left
  ·show Act.put _ (some 37) _ = _
   simp only [Act.put, List.setIfInBounds_toArray, List.set_cons_zero, List.set_cons_succ, i64_w, i32_w]
   rfl
  refine pu_ 9 38 HT_ ?_
  refine one_ (i := 11) (N := none) #[true, true, true, true, true, true, true, true, true, true, true, true, false, false] rfl rfl (one_of HT_.out B10x19_) (by decide) (fun K hK => ?_)
  have hs65 : w64.cell? ⟨gb439, 0, none⟩ = some (.int .i64 0) := (blk_cell BK439.out 0).trans rfl
  have hfs65 := blk_frozen BK439.out 0
  have hns65_1 := NB440_439.out
  have hns65_2 := NB452_439.out
  have hns65_3 := NB463_439.out
  have hms65_1 := NB439_440.out
  have hms65_2 := NB439_452.out
  have hms65_3 := NB439_463.out
  have hs66 : w64.cell? ⟨gb439, 1, none⟩ = some (.int .i64 0) := (blk_cell BK439.out 1).trans rfl
  have hfs66 := blk_frozen BK439.out 1
  have hns66_1 := NB440_439.out
  have hns66_2 := NB452_439.out
  have hns66_3 := NB463_439.out
  have hms66_1 := NB439_440.out
  have hms66_2 := NB439_452.out
  have hms66_3 := NB439_463.out
  have hs67 : w64.cell? ⟨gb439, 2, none⟩ = some (.slice none 0 0) := (blk_cell BK439.out 2).trans rfl
  have hfs67 := blk_frozen BK439.out 2
  have hns67_1 := NB440_439.out
  have hns67_2 := NB452_439.out
  have hns67_3 := NB463_439.out
  have hms67_1 := NB439_440.out
  have hms67_2 := NB439_452.out
  have hms67_3 := NB439_463.out
  refine skip_ (w1 := ?_) (by rfl) rfl ?_ ?_
  rotate_left
  ·go_simp
   rfl
  refine hK.out _ _ ⟨((cell_far (p := ⟨gb439, _, none⟩) NB452_439.out _).trans (((cell_far (p := ⟨gb439, _, none⟩) NB452_439.out _).trans (((cell_far (p := ⟨gb439, _, none⟩) NB452_439.out _).trans (hHeld.1)))))), ((cell_far (p := ⟨gb439, _, none⟩) NB452_439.out _).trans (((cell_far (p := ⟨gb439, _, none⟩) NB452_439.out _).trans (((cell_far (p := ⟨gb439, _, none⟩) NB452_439.out _).trans (hHeld.2.1)))))), ((cell_far (p := ⟨gb439, _, none⟩) NB452_439.out _).trans (((cell_far (p := ⟨gb439, _, none⟩) NB452_439.out _).trans (((cell_far (p := ⟨gb439, _, none⟩) NB452_439.out _).trans (hHeld.2.2.1)))))), ((cell_far (p := ⟨gb439, _, none⟩) NB463_439.out _).trans (((cell_far (p := ⟨gb439, _, none⟩) NB463_439.out _).trans (((cell_far (p := ⟨gb439, _, none⟩) NB463_439.out _).trans (hHeld.2.2.2.1)))))), ((cell_far (p := ⟨gb439, _, none⟩) NB463_439.out _).trans (((cell_far (p := ⟨gb439, _, none⟩) NB463_439.out _).trans (((cell_far (p := ⟨gb439, _, none⟩) NB463_439.out _).trans (hHeld.2.2.2.2.1)))))), ((cell_far (p := ⟨gb439, _, none⟩) NB463_439.out _).trans (((cell_far (p := ⟨gb439, _, none⟩) NB463_439.out _).trans (((cell_far (p := ⟨gb439, _, none⟩) NB463_439.out _).trans (hHeld.2.2.2.2.2))))))⟩ (fun hHeld => ?_)
  clear hK K
  refine pu_ 12 3 HT_ ?_
  refine one_ (i := 13) (N := none) #[true, true, true, true, true, true, true, true, true, true, true, true, true, true] rfl rfl (one_of HT_.out B10x19_) (by decide) (fun K hK => ?_)
  have hs68 : w64.cell? ⟨gb440, 0, none⟩ = some (.int .i64 0) := (blk_cell BK440.out 0).trans rfl
  have hfs68 := blk_frozen BK440.out 0
  have hns68_0 := NB439_440.out
  have hns68_2 := NB452_440.out
  have hns68_3 := NB463_440.out
  have hms68_0 := NB440_439.out
  have hms68_2 := NB440_452.out
  have hms68_3 := NB440_463.out
  have hs69 : w64.cell? ⟨gb440, 1, none⟩ = some (.int .i64 0) := (blk_cell BK440.out 1).trans rfl
  have hfs69 := blk_frozen BK440.out 1
  have hns69_0 := NB439_440.out
  have hns69_2 := NB452_440.out
  have hns69_3 := NB463_440.out
  have hms69_0 := NB440_439.out
  have hms69_2 := NB440_452.out
  have hms69_3 := NB440_463.out
  have hs70 : w64.cell? ⟨gb440, 2, none⟩ = some (.string (⟨#[]⟩ : ByteArray)) := (blk_cell BK440.out 2).trans rfl
  have hfs70 := blk_frozen BK440.out 2
  have hns70_0 := NB439_440.out
  have hns70_2 := NB452_440.out
  have hns70_3 := NB463_440.out
  have hms70_0 := NB440_439.out
  have hms70_2 := NB440_452.out
  have hms70_3 := NB440_463.out
  refine skip_ (w1 := ?_) (by rfl) rfl ?_ ?_
  rotate_left
  ·go_simp
   rfl
  refine hK.out _ _ ⟨((cell_far (p := ⟨gb440, _, none⟩) NB452_440.out _).trans (((cell_far (p := ⟨gb440, _, none⟩) NB452_440.out _).trans (((cell_far (p := ⟨gb440, _, none⟩) NB452_440.out _).trans (hHeld.1)))))), ((cell_far (p := ⟨gb440, _, none⟩) NB452_440.out _).trans (((cell_far (p := ⟨gb440, _, none⟩) NB452_440.out _).trans (((cell_far (p := ⟨gb440, _, none⟩) NB452_440.out _).trans (hHeld.2.1)))))), ((cell_far (p := ⟨gb440, _, none⟩) NB452_440.out _).trans (((cell_far (p := ⟨gb440, _, none⟩) NB452_440.out _).trans (((cell_far (p := ⟨gb440, _, none⟩) NB452_440.out _).trans (hHeld.2.2.1)))))), ((cell_far (p := ⟨gb440, _, none⟩) NB463_440.out _).trans (((cell_far (p := ⟨gb440, _, none⟩) NB463_440.out _).trans (((cell_far (p := ⟨gb440, _, none⟩) NB463_440.out _).trans (hHeld.2.2.2.1)))))), ((cell_far (p := ⟨gb440, _, none⟩) NB463_440.out _).trans (((cell_far (p := ⟨gb440, _, none⟩) NB463_440.out _).trans (((cell_far (p := ⟨gb440, _, none⟩) NB463_440.out _).trans (hHeld.2.2.2.2.1)))))), ((cell_far (p := ⟨gb440, _, none⟩) NB463_440.out _).trans (((cell_far (p := ⟨gb440, _, none⟩) NB463_440.out _).trans (((cell_far (p := ⟨gb440, _, none⟩) NB463_440.out _).trans (hHeld.2.2.2.2.2))))))⟩ (fun hHeld => ?_)
  clear hK K
  refine done_ (done_of HT_.out B10x19_) ?_
  try go_wp2
  refine bodyPost_ret (results_list (rs := [.cell 2 26, .tmp 3, .cell 4 28]) rfl (by simp) (.cell gb439 26 #[.int .i64 t445, .int .i64 t446, .slice Ao52 t447.length co52] (0, 0) _ rfl B10x21_ Try.underlying26 rfl B10x19_ (.tmp (.cell gb440 28 #[.int .i64 t458, .int .i64 t459, .string t460] (0, 0) _ rfl B10x23_ Try.underlying28 rfl B10x19_ .nil)))) rfl ?_
  exact ⟨_, by first | rfl | (simp [errW_none, errW_some] <;> rfl) | (simp [*, errW_none, errW_some] <;> rfl), by (with_reducible repeat (first | apply Kd.R_alloc | apply Kd.R_drewN | apply Kd.R_drew)); exact Kd.R_mono (Kd.R_far (p := ⟨gb440, 2, none⟩) (Kd.R_far (p := ⟨gb440, 1, none⟩) (Kd.R_far (p := ⟨gb440, 0, none⟩) (Kd.R_far (p := ⟨gb439, 2, none⟩) (Kd.R_far (p := ⟨gb439, 1, none⟩) (Kd.R_far (p := ⟨gb439, 0, none⟩) (Kd.R_mono (Kd.R_types HO449.out BK439.out (by decide)) (fun k_ hk => (⟨hk, hk.1.1.2⟩ : _ ∧ k_ ≠ gb440))) (fun _ hk => hk.1.2) (.int .i64 t445)) (fun _ hk => hk.1.2) (.int .i64 t446)) (fun _ hk => hk.1.2) (.slice Ao52 t447.length co52)) (fun _ hk => hk.2) (.int .i64 t458)) (fun _ hk => hk.2) (.int .i64 t459)) (fun _ hk => hk.2) (.string t460)) (fun _ hk => trivial), by repeat (first | (with_reducible first | exact HB.out | apply below_alloc | apply pw_below_drewN | apply below_drew1 | refine below_set ?_ (IsS107.ge HI444.out) | refine below_set ?_ GE439.out | refine below_set ?_ GE440.out | refine below_set ?_ GE452.out | refine below_set ?_ GE463.out) | exact HB.out)⟩

/-! ### impl_LogLast: function 17 -/
def impl_LogLast.f (a0_0 : Int) (a0_1 : Int) (l0_2 : List (S28)) : Option (Int × Int) := if (l0_2.length : Int) = 0 then (some (a0_0, a0_1)) else (if 0 ≤ (wrap64 ((l0_2.length : Int) - 1)) then (if (wrap64 ((l0_2.length : Int) - 1)) < (l0_2.length : Int) then (some (wrap64 (a0_0 + (l0_2.length : Int)), (rd_T28 l0_2 (wrap64 ((l0_2.length : Int) - 1))).f0)) else (none)) else (none))
set_option maxHeartbeats 8000000 in
set_option maxRecDepth 100000 in
theorem impl_LogLast.calls (a0_0 : Int) (a0_1 : Int) (A0_2 : Option Addr) (c0_2 : Nat) (l0_2 : List (S28)) (r1 : Int) (r2 : Int) (w : World) (hr0_2 : Kd.C k28 w A0_2 l0_2.length l0_2) (hc0_2 : l0_2.length ≤ c0_2) (h : impl_LogLast.f a0_0 a0_1 l0_2 = some (r1, r2)) :
  Calls Try.prog 17 #[.agg #[.int .i64 a0_0, .int .i64 a0_1, .slice A0_2 l0_2.length c0_2]] w fun e w' => e = .returned (.tuple #[.int .i64 r1, .int .i64 r2]) ∧ Below w.heap.size w w' := by
 have hu26 := Try.underlying26
 have HR0_2 := Aside0.mk hr0_2
 have HC0_2 := Aside0.mk hc0_2
 clear hr0_2 hc0_2
 have HB := Aside0.mk (Below.refl w.heap.size w)
 have H : (if (l0_2.length : Int) = 0 then (some (a0_0, a0_1)) else (if 0 ≤ (wrap64 ((l0_2.length : Int) - 1)) then (if (wrap64 ((l0_2.length : Int) - 1)) < (l0_2.length : Int) then (some (wrap64 (a0_0 + (l0_2.length : Int)), (rd_T28 l0_2 (wrap64 ((l0_2.length : Int) - 1))).f0)) else (none)) else (none))) = some (r1, r2) := h
 clear h
 by_cases c2 : (l0_2.length : Int) = 0
 ·rw [if_pos c2] at H
  have c2b0 := beq_iff_eq.mpr c2
  have c2b1 := bne_eq_false_iff_eq.mpr c2
  clear c2
  simp only [Option.some.injEq, Prod.mk.injEq] at H
  obtain ⟨rfl, rfl⟩ := H
  go_enter Try.func17, Try.ntmps17
  go_wp2_with (first | ((with_reducible refine gate_dst (N := 1) rfl ?_); refine box_event ?hg (N := 1) ?hd (cs := #[.int .i64 a0_0, .int .i64 a0_1, .slice A0_2 l0_2.length c0_2]) (t := 26) ?hr ?_; (case hd => rfl); (case hg => rfl); (case hr => exact B10x13_); intro gb478 hg w3 hbox hb; have BK478 := Aside0.mk (hbox); have GW478 := Aside0.mk ((bs hg (below_size HB.out))); have GE478 := Aside0.mk ((bs hg (below_size HB.out))); replace HB := Aside0.mk (below_step B10x7_ hb); clear hb hbox hg; obtain ⟨hcz4_0, hcz4_1, hcz4_2⟩ := cl3 BK478.out; obtain ⟨hfz4_0, hfz4_1, hfz4_2⟩ := fr3 BK478.out))
  repeat (go_quiet (first | ((with_reducible refine gate_dst (N := 1) rfl ?_); refine box_event ?hg (N := 1) ?hd (cs := #[.int .i64 a0_0, .int .i64 a0_1, .slice A0_2 l0_2.length c0_2]) (t := 26) ?hr ?_; (case hd => rfl); (case hg => rfl); (case hr => exact B10x13_); intro gb478 hg w3 hbox hb; have BK478 := Aside0.mk (hbox); have GW478 := Aside0.mk ((bs hg (below_size HB.out))); have GE478 := Aside0.mk ((bs hg (below_size HB.out))); replace HB := Aside0.mk (below_step B10x7_ hb); clear hb hbox hg; obtain ⟨hcz4_0, hcz4_1, hcz4_2⟩ := cl3 BK478.out; obtain ⟨hfz4_0, hfz4_1, hfz4_2⟩ := fr3 BK478.out)); try go_wp2_with (first | ((with_reducible refine gate_dst (N := 1) rfl ?_); refine box_event ?hg (N := 1) ?hd (cs := #[.int .i64 a0_0, .int .i64 a0_1, .slice A0_2 l0_2.length c0_2]) (t := 26) ?hr ?_; (case hd => rfl); (case hg => rfl); (case hr => exact B10x13_); intro gb478 hg w3 hbox hb; have BK478 := Aside0.mk (hbox); have GW478 := Aside0.mk ((bs hg (below_size HB.out))); have GE478 := Aside0.mk ((bs hg (below_size HB.out))); replace HB := Aside0.mk (below_step B10x7_ hb); clear hb hbox hg; obtain ⟨hcz4_0, hcz4_1, hcz4_2⟩ := cl3 BK478.out; obtain ⟨hfz4_0, hfz4_1, hfz4_2⟩ := fr3 BK478.out)))
  go_ret2
  exact ⟨(by first | rfl | (simp [errW_none, errW_some] <;> rfl) | (simp [*, errW_none, errW_some] <;> rfl)), B10x28_⟩
 ·rw [if_neg c2] at H
  have c2b0 := beq_eq_false_iff_ne.mpr c2
  have c2b1 := bne_iff_ne.mpr c2
  have c2b2 : ¬ (l0_2 = []) := fun h_ => c2 (by rw [h_]; rfl)
  obtain ⟨ji5, hji5⟩ : ∃ j_ : Int, (wrap64 ((l0_2.length : Int) - 1)) = j_ := ⟨_, rfl⟩
  replace H : (if 0 ≤ (ji5) then (if (ji5) < (l0_2.length : Int) then (some (wrap64 (a0_0 + (l0_2.length : Int)), (rd_T28 l0_2 (ji5)).f0)) else (none)) else (none)) = some (r1, r2) := by first | (rw [hji5] at H; exact H) | (simp only [hji5] at H ⊢; exact H)
  have hji5w : (IntKind.i64.wrap ((l0_2.length : Int) - 1)) = ji5 := (i64_w _).trans hji5
  by_cases c6 : 0 ≤ (ji5)
  rotate_left
  ·rw [if_neg c6] at H
   exact absurd H (by simp)
  rw [if_pos c6] at H
  have c6b0 : decide (0 ≤ (ji5)) = true := decide_eq_true c6
  clear c6
  by_cases c7 : (ji5) < (l0_2.length : Int)
  rotate_left
  ·rw [if_neg c7] at H
   exact absurd H (by simp)
  rw [if_pos c7] at H
  have c7b0 : decide ((ji5) < (l0_2.length : Int)) = true := decide_eq_true c7
  clear c7
  simp only [Option.some.injEq, Prod.mk.injEq] at H
  obtain ⟨rfl, rfl⟩ := H
  go_enter Try.func17, Try.ntmps17
  go_wp2_with (first | ((with_reducible refine gate_dst (N := 1) rfl ?_); refine box_event ?hg (N := 1) ?hd (cs := #[.int .i64 a0_0, .int .i64 a0_1, .slice A0_2 l0_2.length c0_2]) (t := 26) ?hr ?_; (case hd => rfl); (case hg => rfl); (case hr => exact B10x13_); intro gb478 hg w8 hbox hb; have BK478 := Aside0.mk (hbox); have GW478 := Aside0.mk ((bs hg (below_size HB.out))); have GE478 := Aside0.mk ((bs hg (below_size HB.out))); replace HB := Aside0.mk (below_step B10x7_ hb); clear hb hbox hg; obtain ⟨hcz9_0, hcz9_1, hcz9_2⟩ := cl3 BK478.out; obtain ⟨hfz9_0, hfz9_1, hfz9_2⟩ := fr3 BK478.out; have p479 : 0 ≤ ((ji5) : Int) := of_decide_eq_true B10x8_; have q479 : (ji5) < (l0_2.length : Int) := of_decide_eq_true B10x8_; obtain ⟨ad479, e479, hx479_0, hx479_1, hx479_2⟩ := at_T28 HR0_2.out (ji5) p479 q479; cases e479; replace hx479_0 := (HB.out.cell (World.block_lt_of_cell? w _ hx479_0)).trans hx479_0; replace hx479_1 := (HB.out.cell (World.block_lt_of_cell? w _ hx479_1)).trans hx479_1; replace hx479_2 := (HB.out.cell (World.block_lt_of_cell? w _ hx479_2)).trans hx479_2; replace p479 := eq_true p479; replace q479 := eq_true q479))
  repeat (go_quiet (first | ((with_reducible refine gate_dst (N := 1) rfl ?_); refine box_event ?hg (N := 1) ?hd (cs := #[.int .i64 a0_0, .int .i64 a0_1, .slice A0_2 l0_2.length c0_2]) (t := 26) ?hr ?_; (case hd => rfl); (case hg => rfl); (case hr => exact B10x13_); intro gb478 hg w8 hbox hb; have BK478 := Aside0.mk (hbox); have GW478 := Aside0.mk ((bs hg (below_size HB.out))); have GE478 := Aside0.mk ((bs hg (below_size HB.out))); replace HB := Aside0.mk (below_step B10x7_ hb); clear hb hbox hg; obtain ⟨hcz9_0, hcz9_1, hcz9_2⟩ := cl3 BK478.out; obtain ⟨hfz9_0, hfz9_1, hfz9_2⟩ := fr3 BK478.out; have p479 : 0 ≤ ((ji5) : Int) := of_decide_eq_true B10x8_; have q479 : (ji5) < (l0_2.length : Int) := of_decide_eq_true B10x8_; obtain ⟨ad479, e479, hx479_0, hx479_1, hx479_2⟩ := at_T28 HR0_2.out (ji5) p479 q479; cases e479; replace hx479_0 := (HB.out.cell (World.block_lt_of_cell? w _ hx479_0)).trans hx479_0; replace hx479_1 := (HB.out.cell (World.block_lt_of_cell? w _ hx479_1)).trans hx479_1; replace hx479_2 := (HB.out.cell (World.block_lt_of_cell? w _ hx479_2)).trans hx479_2; replace p479 := eq_true p479; replace q479 := eq_true q479)); try go_wp2_with (first | ((with_reducible refine gate_dst (N := 1) rfl ?_); refine box_event ?hg (N := 1) ?hd (cs := #[.int .i64 a0_0, .int .i64 a0_1, .slice A0_2 l0_2.length c0_2]) (t := 26) ?hr ?_; (case hd => rfl); (case hg => rfl); (case hr => exact B10x13_); intro gb478 hg w8 hbox hb; have BK478 := Aside0.mk (hbox); have GW478 := Aside0.mk ((bs hg (below_size HB.out))); have GE478 := Aside0.mk ((bs hg (below_size HB.out))); replace HB := Aside0.mk (below_step B10x7_ hb); clear hb hbox hg; obtain ⟨hcz9_0, hcz9_1, hcz9_2⟩ := cl3 BK478.out; obtain ⟨hfz9_0, hfz9_1, hfz9_2⟩ := fr3 BK478.out; have p479 : 0 ≤ ((ji5) : Int) := of_decide_eq_true B10x8_; have q479 : (ji5) < (l0_2.length : Int) := of_decide_eq_true B10x8_; obtain ⟨ad479, e479, hx479_0, hx479_1, hx479_2⟩ := at_T28 HR0_2.out (ji5) p479 q479; cases e479; replace hx479_0 := (HB.out.cell (World.block_lt_of_cell? w _ hx479_0)).trans hx479_0; replace hx479_1 := (HB.out.cell (World.block_lt_of_cell? w _ hx479_1)).trans hx479_1; replace hx479_2 := (HB.out.cell (World.block_lt_of_cell? w _ hx479_2)).trans hx479_2; replace p479 := eq_true p479; replace q479 := eq_true q479)))
  go_ret2
  exact ⟨(by first | rfl | (simp [errW_none, errW_some] <;> rfl) | (simp only [← hji5]; first | rfl | (simp [errW_none, errW_some] <;> rfl)) | (simp [*, errW_none, errW_some] <;> rfl)), B10x28_⟩

/-! ### impl_within: function 45 -/
def impl_within.f (a0 : Int) (a1 : Int) (a2 : Int) : Option (Bool) := if a0 ≥ a1 then (some (decide (a0 ≤ a2))) else (some false)
set_option maxHeartbeats 8000000 in
set_option maxRecDepth 100000 in
theorem impl_within.calls (a0 : Int) (a1 : Int) (a2 : Int) (r : Bool) (w : World) (h : impl_within.f a0 a1 a2 = some r) :
  Calls Try.prog 45 #[.int .i64 a0, .int .i64 a1, .int .i64 a2] w fun e w' => e = .returned (.bool r) ∧ Drawn0 w w' := by
 have H : (if a0 ≥ a1 then (some (decide (a0 ≤ a2))) else (some false)) = some r := h
 clear h
 by_cases c4 : a0 ≥ a1
 ·rw [if_pos c4] at H
  have c4b0 : decide (a1 ≤ a0) = true := decide_eq_true c4
  clear c4
  obtain rfl := Option.some.inj H
  go_enter Try.func45, Try.ntmps45
  go_wp2
  go_ret
  exact ⟨B10x20_, B10x15_⟩
 ·rw [if_neg c4] at H
  have c4b0 : decide (a1 ≤ a0) = false := decide_eq_false c4
  clear c4
  obtain rfl := Option.some.inj H
  go_enter Try.func45, Try.ntmps45
  go_wp2
  go_ret
  exact ⟨B10x20_, B10x15_⟩

/-! ### impl_isTerm: function 55 -/
def impl_isTerm.f (a0 : Int) : Option (Bool) := (impl_within.f a0 0 100000).bind fun t480 => (some t480)
set_option maxHeartbeats 8000000 in
set_option maxRecDepth 100000 in
theorem impl_isTerm.calls (a0 : Int) (r : Bool) (w : World) (h : impl_isTerm.f a0 = some r) :
  Calls Try.prog 55 #[.int .i64 a0] w fun e w' => e = .returned (.bool r) ∧ Drawn0 w w' := by
 have H : ((impl_within.f a0 0 100000).bind fun t480 => (some t480)) = some r := h
 clear h
 replace H := bsi H
 obtain ⟨t480, A2, H⟩ := H
 (try dsimp only at H)
 obtain rfl := Option.some.inj H
 go_enter Try.func55, Try.ntmps55
 go_wp2_with (first | ((with_reducible refine gate_callee (f := 45) rfl ?_); refine goesL_ (some 4) rfl rfl Try.func45 B10x19_ rfl #[.int .i64 a0, .int .i64 0, .int .i64 100000] rfl B10x2_ ?_; (with_reducible refine (impl_within.calls a0 0 100000 t480 _ A2.out).mono ?_); rintro e w' ⟨rfl, ⟨nd, rfl⟩⟩; refine ⟨_, rfl, ?_⟩))
 go_ret
 exact ⟨B10x20_, B10x15_⟩

/-! ### impl_isNode: function 112 -/
def impl_isNode.f (a0 : Int) : Option (Bool) := (impl_within.f a0 1 4).bind fun t481 => (some t481)
set_option maxHeartbeats 8000000 in
set_option maxRecDepth 100000 in
theorem impl_isNode.calls (a0 : Int) (r : Bool) (w : World) (h : impl_isNode.f a0 = some r) :
  Calls Try.prog 112 #[.int .i64 a0] w fun e w' => e = .returned (.bool r) ∧ Drawn0 w w' := by
 have H : ((impl_within.f a0 1 4).bind fun t481 => (some t481)) = some r := h
 clear h
 replace H := bsi H
 obtain ⟨t481, A2, H⟩ := H
 (try dsimp only at H)
 obtain rfl := Option.some.inj H
 go_enter Try.func112, Try.ntmps112
 go_wp2_with (first | ((with_reducible refine gate_callee (f := 45) rfl ?_); refine goesL_ (some 4) rfl rfl Try.func45 B10x19_ rfl #[.int .i64 a0, .int .i64 1, .int .i64 4] rfl B10x2_ ?_; (with_reducible refine (impl_within.calls a0 1 4 t481 _ A2.out).mono ?_); rintro e w' ⟨rfl, ⟨nd, rfl⟩⟩; refine ⟨_, rfl, ?_⟩))
 go_ret
 exact ⟨B10x20_, B10x15_⟩

/-! ### impl_nodesOk: function 109 -/
def impl_nodesOk.l0 : Nat → List Int → List Int → Int → Int → Option (Bool)
 | 0, _, _, _, _ => none
 | k + 1, x0, x5, x6, x7 => if x7 < x6 then (if 0 ≤ x7 then (if x7 < (x5.length : Int) then ((impl_isNode.f (rd x5 x7)).bind fun t483 => (if t483 = true then (if x7 > 0 then (if 0 ≤ (wrap64 (x7 - 1)) then (if (wrap64 (x7 - 1)) < (x0.length : Int) then (if (rd x0 (wrap64 (x7 - 1))) ≥ (rd x5 x7) then (some false) else (impl_nodesOk.l0 k x0 x5 x6 (wrap64 (x7 + 1)))) else (none)) else (none)) else (impl_nodesOk.l0 k x0 x5 x6 (wrap64 (x7 + 1)))) else (some false))) else (none)) else (none)) else (some true)
def impl_nodesOk.f (k : Nat) (l0 : List Int) : Option (Bool) := impl_nodesOk.l0 k l0 l0 (l0.length : Int) 0
theorem impl_nodesOk.mono_l : ∀ k, (∀ y0 y1 y2 y3, LeO (impl_nodesOk.l0 k y0 y1 y2 y3) (impl_nodesOk.l0 (k + 1) y0 y1 y2 y3))
 | 0 => fun _ _ _ _ r h => by simp [impl_nodesOk.l0] at h
 | k + 1 => by
  have ih0 := impl_nodesOk.mono_l k
  ·intro y0 y1 y2 y3
   unfold impl_nodesOk.l0
   repeat' first
   | (with_reducible exact ih0 _ _ _ _)
   | (with_reducible first | exact LeO.refl _ | exact LeO.none _ | refine LeO.ite ?_ ?_ | refine LeO.bind ?_ (fun _ => ?_))
   | exact ih0 _ _ _ _
theorem impl_nodesOk.mono : ∀ a0 k, LeO (impl_nodesOk.f k a0) (impl_nodesOk.f (k + 1) a0) := by
 intro a0 k
 have ih0 := impl_nodesOk.mono_l k
 unfold impl_nodesOk.f
 repeat' first
   | (with_reducible exact ih0 _ _ _ _)
   | (with_reducible first | exact LeO.refl _ | exact LeO.none _ | refine LeO.ite ?_ ?_ | refine LeO.bind ?_ (fun _ => ?_))
   | exact ih0 _ _ _ _
set_option maxHeartbeats 8000000 in
set_option maxRecDepth 100000 in
theorem impl_nodesOk.calls (k : Nat) (A0 : Option Addr) (c0 : Nat) (l0 : List Int) (r : Bool) (w : World) (hr0 : Kd.C (Kd.int .i64) w A0 l0.length l0) (hc0 : l0.length ≤ c0) (h : impl_nodesOk.f k l0 = some r) :
  Calls Try.prog 109 #[.slice A0 l0.length c0] w fun e w' => e = .returned (.bool r) ∧ Drawn0 w w' := by
 have HR0 := Aside0.mk hr0
 have HC0 := Aside0.mk hc0
 clear hr0 hc0
 have H : (impl_nodesOk.l0 k l0 l0 (l0.length : Int) 0) = some r := h
 clear h
 have H' := Aside0.mk H
 clear H
 go_enter Try.func109, Try.ntmps109
 go_wp2
 go_loopg [7] k (fun kq v7 w' => ∃ (x7_1 : Int), v7 = .int .i64 x7_1 ∧ Aside0 (impl_nodesOk.l0 kq l0 l0 (l0.length : Int) x7_1 = some r) ∧ Aside0 (kq ≤ k) ∧ Drawn0 w w')
 case atStart => exact ⟨(0), (be_), H', ⟨Nat.le_refl _⟩, by repeat (first | exact Drawn0.refl _ | apply Drawn0.step)⟩
 case round =>
  clear H'
  obtain ⟨x7_1, rfl, HA, HK1, ⟨m1, rfl⟩⟩ := hrel
  cases gk with
  | zero => exact absurd HA.out (by simp [impl_nodesOk.l0])
  | succ k1 =>
   have H := HA.out
   clear HA
   simp only [impl_nodesOk.l0] at H
   by_cases c2 : x7_1 < (l0.length : Int)
   ·rw [if_pos c2] at H
    have c2b0 : decide (x7_1 < (l0.length : Int)) = true := decide_eq_true c2
    clear c2
    by_cases c3 : 0 ≤ x7_1
    rotate_left
    ·rw [if_neg c3] at H
     exact absurd H (by simp)
    rw [if_pos c3] at H
    have c3b0 : decide (0 ≤ x7_1) = true := decide_eq_true c3
    clear c3
    by_cases c4 : x7_1 < (l0.length : Int)
    rotate_left
    ·exact absurd H (by exfalso; (try have h0_ := of_decide_eq_true c2b0); (try have g0_ := c2); omega)
    rw [if_pos c4] at H
    have c4b0 : decide (x7_1 < (l0.length : Int)) = true := decide_eq_true c4
    clear c4
    replace H := bsi H
    obtain ⟨t483, A5, H⟩ := H
    (try dsimp only at H)
    by_cases c6 : t483 = true
    ·subst c6
     rw [if_pos rfl] at H
     by_cases c7 : x7_1 > 0
     ·rw [if_pos c7] at H
      have c7b0 : decide (0 < x7_1) = true := decide_eq_true c7
      clear c7
      obtain ⟨ji8, hji8⟩ : ∃ j_ : Int, (wrap64 (x7_1 - 1)) = j_ := ⟨_, rfl⟩
      replace H : (if 0 ≤ (ji8) then (if (ji8) < (l0.length : Int) then (if (rd l0 (ji8)) ≥ (rd l0 x7_1) then (some false) else (impl_nodesOk.l0 k1 l0 l0 (l0.length : Int) (wrap64 (x7_1 + 1)))) else (none)) else (none)) = some r := by first | (rw [hji8] at H; exact H) | (simp only [hji8] at H ⊢; exact H)
      (try rw [hji8] at A5)
      have hji8w : (IntKind.i64.wrap (x7_1 - 1)) = ji8 := (i64_w _).trans hji8
      by_cases c9 : 0 ≤ (ji8)
      rotate_left
      ·rw [if_neg c9] at H
       exact absurd H (by simp)
      rw [if_pos c9] at H
      have c9b0 : decide (0 ≤ (ji8)) = true := decide_eq_true c9
      clear c9
      by_cases c10 : (ji8) < (l0.length : Int)
      rotate_left
      ·rw [if_neg c10] at H
       exact absurd H (by simp)
      rw [if_pos c10] at H
      have c10b0 : decide ((ji8) < (l0.length : Int)) = true := decide_eq_true c10
      clear c10
      by_cases c11 : (rd l0 (ji8)) ≥ (rd l0 x7_1)
      ·rw [if_pos c11] at H
       have c11b0 : decide ((rd l0 x7_1) ≤ (rd l0 (ji8))) = true := decide_eq_true c11
       clear c11
       obtain rfl := Option.some.inj H
       have p482 : 0 ≤ (x7_1 : Int) := of_decide_eq_true B10x8_
       have q482 : x7_1 < (l0.length : Int) := of_decide_eq_true B10x8_
       obtain ⟨ad482, e482, hx482_0⟩ := Kd.at_int HR0.out x7_1 p482 q482
       cases e482
       replace p482 := eq_true p482
       replace q482 := eq_true q482
       go_wp2_with (first | ((with_reducible refine gate_callee (f := 112) rfl ?_); refine goesL_ (some 13) rfl rfl Try.func112 B10x19_ rfl #[.int .i64 (rd l0 x7_1)] rfl B10x2_ ?_; (with_reducible refine (impl_isNode.calls (rd l0 x7_1) true _ A5.out).mono ?_); rintro e w' ⟨rfl, ⟨nd, rfl⟩⟩; refine ⟨_, rfl, ?_⟩; have p484 : 0 ≤ ((ji8) : Int) := of_decide_eq_true B10x8_; have q484 : (ji8) < (l0.length : Int) := of_decide_eq_true B10x8_; obtain ⟨ad484, e484, hx484_0⟩ := Kd.at_int HR0.out (ji8) p484 q484; obtain rfl : ad482 = ad484 := (by injection e484); replace p484 := eq_true p484; replace q484 := eq_true q484))
       go_ret
       exact ⟨(by first | rfl | (simp; done) | (simp only [← hji8] <;> (first | rfl | simp)) | (simp [*]; done)), B10x15_⟩
      ·rw [if_neg c11] at H
       have c11b0 : decide ((rd l0 x7_1) ≤ (rd l0 (ji8))) = false := decide_eq_false c11
       clear c11
       have H' := Aside0.mk H
       clear H
       have p482 : 0 ≤ (x7_1 : Int) := of_decide_eq_true B10x8_
       have q482 : x7_1 < (l0.length : Int) := of_decide_eq_true B10x8_
       obtain ⟨ad482, e482, hx482_0⟩ := Kd.at_int HR0.out x7_1 p482 q482
       cases e482
       replace p482 := eq_true p482
       replace q482 := eq_true q482
       go_wp2_with (first | ((with_reducible refine gate_callee (f := 112) rfl ?_); refine goesL_ (some 13) rfl rfl Try.func112 B10x19_ rfl #[.int .i64 (rd l0 x7_1)] rfl B10x2_ ?_; (with_reducible refine (impl_isNode.calls (rd l0 x7_1) true _ A5.out).mono ?_); rintro e w' ⟨rfl, ⟨nd, rfl⟩⟩; refine ⟨_, rfl, ?_⟩; have p484 : 0 ≤ ((ji8) : Int) := of_decide_eq_true B10x8_; have q484 : (ji8) < (l0.length : Int) := of_decide_eq_true B10x8_; obtain ⟨ad484, e484, hx484_0⟩ := Kd.at_int HR0.out (ji8) p484 q484; obtain rfl : ad482 = ad484 := (by injection e484); replace p484 := eq_true p484; replace q484 := eq_true q484))
       go_roundg k1
       case measure => have := HK1.out; omega
       case rel => exact ⟨(wrap64 (x7_1 + 1)), (be_), H', ⟨(by have := HK1.out; omega)⟩, by repeat (first | exact Drawn0.refl _ | apply Drawn0.step)⟩
     ·rw [if_neg c7] at H
      have c7b0 : decide (0 < x7_1) = false := decide_eq_false c7
      clear c7
      have H' := Aside0.mk H
      clear H
      have p482 : 0 ≤ (x7_1 : Int) := of_decide_eq_true B10x8_
      have q482 : x7_1 < (l0.length : Int) := of_decide_eq_true B10x8_
      obtain ⟨ad482, e482, hx482_0⟩ := Kd.at_int HR0.out x7_1 p482 q482
      cases e482
      replace p482 := eq_true p482
      replace q482 := eq_true q482
      go_wp2_with (first | ((with_reducible refine gate_callee (f := 112) rfl ?_); refine goesL_ (some 13) rfl rfl Try.func112 B10x19_ rfl #[.int .i64 (rd l0 x7_1)] rfl B10x2_ ?_; (with_reducible refine (impl_isNode.calls (rd l0 x7_1) true _ A5.out).mono ?_); rintro e w' ⟨rfl, ⟨nd, rfl⟩⟩; refine ⟨_, rfl, ?_⟩))
      go_roundg k1
      case measure => have := HK1.out; omega
      case rel => exact ⟨(wrap64 (x7_1 + 1)), (be_), H', ⟨(by have := HK1.out; omega)⟩, by repeat (first | exact Drawn0.refl _ | apply Drawn0.step)⟩
    ·replace c6 := Bool.eq_false_iff.mpr c6
     subst c6
     rw [if_neg (show ¬ (false = true) by decide)] at H
     obtain rfl := Option.some.inj H
     have p482 : 0 ≤ (x7_1 : Int) := of_decide_eq_true B10x8_
     have q482 : x7_1 < (l0.length : Int) := of_decide_eq_true B10x8_
     obtain ⟨ad482, e482, hx482_0⟩ := Kd.at_int HR0.out x7_1 p482 q482
     cases e482
     replace p482 := eq_true p482
     replace q482 := eq_true q482
     go_wp2_with (first | ((with_reducible refine gate_callee (f := 112) rfl ?_); refine goesL_ (some 13) rfl rfl Try.func112 B10x19_ rfl #[.int .i64 (rd l0 x7_1)] rfl B10x2_ ?_; (with_reducible refine (impl_isNode.calls (rd l0 x7_1) false _ A5.out).mono ?_); rintro e w' ⟨rfl, ⟨nd, rfl⟩⟩; refine ⟨_, rfl, ?_⟩))
     go_ret
     exact ⟨B10x20_, B10x15_⟩
   ·rw [if_neg c2] at H
    have c2b0 : decide (x7_1 < (l0.length : Int)) = false := decide_eq_false c2
    clear c2
    obtain rfl := Option.some.inj H
    go_wp2
    go_ret
    exact ⟨B10x20_, B10x15_⟩

/-! ### impl_ConfOk: function 103 -/
def impl_ConfOk.f (k : Nat) (l0 : List Int) : Option (Bool) := if (l0.length : Int) > 0 then ((impl_nodesOk.f k l0).bind fun t485 => (some t485)) else (some false)
theorem impl_ConfOk.mono : ∀ a0 k, LeO (impl_ConfOk.f k a0) (impl_ConfOk.f (k + 1) a0) := by
 intro a0 k
 unfold impl_ConfOk.f
 repeat' first
   | (with_reducible exact impl_nodesOk.mono _ _)
   | (with_reducible first | exact LeO.refl _ | exact LeO.none _ | refine LeO.ite ?_ ?_ | refine LeO.bind ?_ (fun _ => ?_))
   | exact impl_nodesOk.mono _ _
set_option maxHeartbeats 8000000 in
set_option maxRecDepth 100000 in
theorem impl_ConfOk.calls (k : Nat) (A0 : Option Addr) (c0 : Nat) (l0 : List Int) (r : Bool) (w : World) (hr0 : Kd.C (Kd.int .i64) w A0 l0.length l0) (hc0 : l0.length ≤ c0) (h : impl_ConfOk.f k l0 = some r) :
  Calls Try.prog 103 #[.slice A0 l0.length c0] w fun e w' => e = .returned (.bool r) ∧ Drawn0 w w' := by
 have HR0 := Aside0.mk hr0
 have HC0 := Aside0.mk hc0
 clear hr0 hc0
 have H : (if (l0.length : Int) > 0 then ((impl_nodesOk.f k l0).bind fun t485 => (some t485)) else (some false)) = some r := h
 clear h
 by_cases c2 : (l0.length : Int) > 0
 ·rw [if_pos c2] at H
  have c2b0 : decide (0 < (l0.length : Int)) = true := decide_eq_true c2
  have c2b1 : decide (0 < l0.length) = true := decide_eq_true (by omega)
  clear c2
  replace H := bsi H
  obtain ⟨t485, A3, H⟩ := H
  (try dsimp only at H)
  obtain rfl := Option.some.inj H
  go_enter Try.func103, Try.ntmps103
  go_wp2_with (first | (go_at_call 109; (with_reducible refine (impl_nodesOk.calls k _ _ l0 t485 _ ?side1 ?side2 A3.out).mono ?_); (case side1 => repeat (first | exact HR0.out | (with_reducible refine Kd.C_alloc ?_ _) | (with_reducible refine Kd.C_drewN ?_ _) | (with_reducible refine Kd.C_drew ?_))); (case side2 => exact HC0.out); rintro e w' ⟨rfl, ⟨nd, rfl⟩⟩))
  go_ret
  exact ⟨B10x20_, B10x15_⟩
 ·rw [if_neg c2] at H
  have c2b0 : decide (0 < (l0.length : Int)) = false := decide_eq_false c2
  have c2b1 : decide (0 < l0.length) = false := decide_eq_false (by omega)
  clear c2
  obtain rfl := Option.some.inj H
  go_enter Try.func103, Try.ntmps103
  go_wp2
  go_ret
  exact ⟨B10x20_, B10x15_⟩

end Go.Proofs.Ytgffdijodnpolaa.QFnPuts
