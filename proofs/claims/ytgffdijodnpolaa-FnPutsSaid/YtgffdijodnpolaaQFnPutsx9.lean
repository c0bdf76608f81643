/- Functions that a law reaches, as functions of Lean, and the walks that show that the calls come to their answers: written by a program of this project out of the translation. No condition. -/
import Derived.Test.YtgffdijodnpolaaQFnPutsx0
import Derived.Test.YtgffdijodnpolaaQFnPutsx2
import Derived.Test.YtgffdijodnpolaaQFnPutsx5
import Derived.Test.YtgffdijodnpolaaQFnPutsx8
import Derived.Test.YtgffdijodnpolaaVFnPutsShort4
import Derived.Test.YtgffdijodnpolaaVFnPutshort3
import Derived.Test.YtgffdijodnpolaaVFnPutsShort2
import Derived.Test.YtgffdijodnpolaaVFnPutsShort
namespace Go.Proofs.Ytgffdijodnpolaa.QFnPuts
open Go.RowKit Go.Proofs.YtgffdijodnpolaaW.PrintWords Go.Proofs.YtgffdijodnpolaaW.PrintLast Go.Proofs.YtgffdijodnpolaaW.PrintMore Go.Proofs.Ytgffdijodnpolaa.Short
attribute [local go_sem] max2_int min2_int max_two min_two max_three min_three max_four min_four   -- for this text's walks alone
set_option linter.unusedVariables false
set_option linter.unusedSimpArgs false

theorem B9x0_ {p : Prop} (h : p := by repeat (first | (with_reducible first | exact HI0.out | apply IsS107.alloc | apply IsS107.drewN | apply IsS107.drew | apply IsS107.set_1 | apply IsS107.set_2 | refine IsS107.far ?_ NB0_376.out _ | refine IsS107.far ?_ NB0_384.out _) | exact HI0.out)) : p := h
theorem B9x1_ {p : Prop} (h : p := by repeat (first | (with_reducible first | exact HK.out | apply KeepBut.set_ | apply keep_drewN | apply keep_drew | apply keep_alloc | refine keep_far ?_ GW376.out _ | refine keep_far ?_ GW384.out _) | exact HK.out)) : p := h
theorem B9x2_ {p : Prop} (h : p := by repeat (first | (with_reducible first | exact HB.out | apply below_alloc | apply pw_below_drewN | apply below_drew1 | refine below_set ?_ (IsS107.ge HI0.out) | refine below_set ?_ GE376.out | refine below_set ?_ GE384.out) | exact HB.out)) : p := h
theorem B9x3_ {p : Prop} (h : p := by (try simp only [List.map_toArray, List.map_cons, List.map_nil]); first | done | rfl | (simp only [List.length_drop, List.length_take]; rfl)) : p := h
theorem B9x4_ {p : Prop} (h : p := by (repeat (with_reducible (first | exact BK376.out | apply blk_drewN | apply blk_drew | apply blk_alloc | apply blk_put | apply bf NB376_384.out))); repeat (first | exact BK376.out | (simp only [List.setIfInBounds_toArray, List.set_cons_zero, List.set_cons_succ]; with_reducible rfl) | rfl)) : p := h
theorem B9x5_ {p : Prop} (h : p := by repeat (first | (with_reducible first | exact HK.out | apply KeepBut.set_ | apply keep_drewN | apply keep_drew | apply keep_alloc | refine keep_far ?_ GW376.out _) | exact HK.out)) : p := h
theorem B9x6_ {p : Prop} (h : p := by repeat (first | (with_reducible first | exact HI0.out | apply IsS107.alloc | apply IsS107.drewN | apply IsS107.drew | apply IsS107.set_1 | apply IsS107.set_2) | exact HI0.out)) : p := h
theorem B9x7_ {p : Prop} (h : p := by repeat (first | (with_reducible first | exact HB.out | apply below_alloc | apply pw_below_drewN | apply below_drew1 | refine below_set ?_ (IsS107.ge HI0.out)) | exact HB.out)) : p := h
theorem B9x8_ {p : Prop} (h : p := by repeat (first | (with_reducible first | exact HI0.out | apply IsS107.alloc | apply IsS107.drewN | apply IsS107.drew | apply IsS107.set_1 | apply IsS107.set_2 | refine IsS107.far ?_ NB0_376.out _) | exact HI0.out)) : p := h
theorem B9x9_ {p : Prop} (h : p := by repeat (first | (with_reducible first | exact HB.out | apply below_alloc | apply pw_below_drewN | apply below_drew1 | refine below_set ?_ (IsS107.ge HI0.out) | refine below_set ?_ GE376.out) | exact HB.out)) : p := h
theorem B9x10_ {p : Prop} (h : p := by (repeat (with_reducible (first | exact BK384.out | apply blk_drewN | apply blk_drew | apply blk_alloc | apply blk_put))); repeat (first | exact BK384.out | (simp only [List.setIfInBounds_toArray, List.set_cons_zero, List.set_cons_succ]; with_reducible rfl) | rfl)) : p := h
theorem B9x11_ {p : Prop} (h : p := by repeat (first | (with_reducible first | exact HK.out | apply KeepBut.set_ | apply keep_drewN | apply keep_drew | apply keep_alloc) | exact HK.out)) : p := h
theorem B9x12_ {p : Prop} (h : p := by repeat (first | (with_reducible first | exact HK.out | apply KeepBut.set_ | apply keep_drewN | apply keep_drew | apply keep_alloc | refine keep_far ?_ GW376.out _ | refine keep_far ?_ GW384.out _ | refine keep_far ?_ GW417.out _) | exact HK.out)) : p := h
theorem B9x13_ {p : Prop} (h : p := by repeat (first | (with_reducible first | exact HB.out | apply below_alloc | apply pw_below_drewN | apply below_drew1 | refine below_set ?_ (IsS107.ge HI0.out) | refine below_set ?_ GE376.out | refine below_set ?_ GE384.out | refine below_set ?_ GE417.out) | exact HB.out)) : p := h
theorem B9x14_ {p : Prop} (h : p := by (with_reducible repeat (first | apply Kd.R_alloc | apply Kd.R_drewN | apply Kd.R_drew)); exact HO381.out) : p := h
theorem B9x15_ {p : Prop} (h : p := by (repeat (with_reducible (first | exact BK417.out | apply blk_drewN | apply blk_drew | apply blk_alloc | apply blk_put))); repeat (first | exact BK417.out | (simp only [List.setIfInBounds_toArray, List.set_cons_zero, List.set_cons_succ]; with_reducible rfl) | rfl)) : p := h
theorem B9x16_ {p : Prop} (h : p := by first | (go_simp; done) | (go_simp; rfl)) : p := h
theorem B9x17_ {p : Prop} (h : p := by repeat (first | (with_reducible first | exact HI0.out | apply IsS107.alloc | apply IsS107.drewN | apply IsS107.drew | apply IsS107.set_1 | apply IsS107.set_2 | refine IsS107.far ?_ NB0_376.out _ | refine IsS107.far ?_ NB0_384.out _ | refine IsS107.far ?_ NB0_417.out _) | exact HI0.out)) : p := h
theorem B9x18_ {p : Prop} (h : p := by repeat (first | (with_reducible first | exact HB.out | apply below_alloc | apply pw_below_drewN | apply below_drew1) | exact HB.out)) : p := h
theorem B9x19_ {p : Prop} (h : p := by (repeat (with_reducible (first | exact BK376.out | apply blk_drewN | apply blk_drew | apply blk_alloc | apply blk_put | apply bf NB376_417.out))); repeat (first | exact BK376.out | (simp only [List.setIfInBounds_toArray, List.set_cons_zero, List.set_cons_succ]; with_reducible rfl) | rfl)) : p := h
theorem B9x20_ {p : Prop} (h : p := by (repeat (with_reducible (first | exact BK384.out | apply blk_drewN | apply blk_drew | apply blk_alloc | apply blk_put | apply bf NB384_417.out))); repeat (first | exact BK384.out | (simp only [List.setIfInBounds_toArray, List.set_cons_zero, List.set_cons_succ]; with_reducible rfl) | rfl)) : p := h
theorem B9x21_ {p : Prop} (h : p := by (with_reducible repeat (first | apply Kd.R_alloc | apply Kd.R_drewN | apply Kd.R_drew)); exact HO_385002.out) : p := h
theorem B9x22_ {p : Prop} (h : p := by (with_reducible repeat (first | apply Kd.R_alloc | apply Kd.R_drewN | apply Kd.R_drew)); exact Kd.R_mono (Kd.R_far (p := ⟨gb417, 2, none⟩) (Kd.R_far (p := ⟨gb417, 1, none⟩) (Kd.R_far (p := ⟨gb417, 0, none⟩) (Kd.R_mono HO_385002.out (fun k_ hk => (⟨hk, hk.2⟩ : _ ∧ k_ ≠ gb417))) (fun _ hk => hk.2) (.int .i64 t378)) (fun _ hk => hk.2) (.int .i64 1)) (fun _ hk => hk.2) (.string (⟨#[]⟩ : ByteArray))) (fun _ hk => hk.1.2)) : p := h
theorem B9x23_ {p : Prop} (h : p := by kernel_rfl) : p := h
theorem B9x24_ {p : Prop} (h : p := by repeat (first | (with_reducible first | exact HI0.out | apply IsS107.alloc | apply IsS107.drewN | apply IsS107.drew | apply IsS107.set_1 | apply IsS107.set_2 | apply IsS107.far (p := ⟨gb376, _, none⟩) (hne := NB0_376.out) | apply IsS107.far (p := ⟨gb384, _, none⟩) (hne := NB0_384.out) | apply IsS107.far (p := ⟨gb417, _, none⟩) (hne := NB0_417.out)) | exact HI0.out)) : p := h
theorem B9x25_ {p : Prop} (h : p := by (repeat (with_reducible (first | exact BK376.out | apply blk_drewN | apply blk_drew | apply blk_alloc | apply blk_put))); repeat (first | exact BK376.out | (simp only [List.setIfInBounds_toArray, List.set_cons_zero, List.set_cons_succ]; with_reducible rfl) | rfl)) : p := h
theorem B9x26_ {p : Prop} (h : p := by first | (with_reducible assumption) | assumption) : p := h
theorem B9x27_ {p : Prop} (h : p := by first | rfl | (simp [errW_none, errW_some] <;> rfl) | (simp [*, errW_none, errW_some] <;> rfl)) : p := h
theorem B9x28_ {p : Prop} (h : p := by repeat (first | (with_reducible first | exact HB.out | apply below_alloc | apply pw_below_drewN | apply below_drew1 | refine below_set ?_ GE425.out) | exact HB.out)) : p := h
theorem B9x29_ {p : Prop} (h : p := by (with_reducible repeat (first | refine blk_drewN ?_ _ | refine blk_drew ?_ | refine blk_alloc ?_ _)); exact BK376.out) : p := h
theorem B9x30_ {p : Prop} (h : p := by (with_reducible repeat (first | refine blk_drewN ?_ _ | refine blk_drew ?_ | refine blk_alloc ?_ _)); exact BK384.out) : p := h
theorem B9x31_ {p : Prop} (h : p := by exact (keep_size (w := w) (g := g) (row := none) B9x12_)) : p := h
/-! ### spec_l06Any: function 38 -/
def spec_l06Any.l0 : Nat → Bool → Int → List Int → Int → Int → Int → Int → List (S28) → Option (Int × Int × (List (S28)) × Int × Int)
 | 0, _, _, _, _, _, _, _, _ => none
 | k + 1, x4, x5, x1000, x1001, x1002, x385000, x385001, x385002 => (spec_l01Below.f x1000 x1001 x1002 2).bind fun bt414 => (if x5 < (wrap64 (60 + bt414.1)) then (if x4 = true then ((spec_l01Long.f k 120 66).bind fun t418 => (if x385002.length < 4398046511104 then (spec_l06Any.l0 k x4 (wrap64 (x5 + 1)) x1000 bt414.2.1 bt414.2.2 x385000 x385001 (x385002 ++ [(⟨x385001, 3, t418⟩ : S28)])) else (none))) else (if x385002.length < 4398046511104 then (spec_l06Any.l0 k x4 (wrap64 (x5 + 1)) x1000 bt414.2.1 bt414.2.2 x385000 x385001 (x385002 ++ [(⟨x385001, 1, (⟨#[]⟩ : ByteArray)⟩ : S28)])) else (none))) else (some (x385000, x385001, x385002, bt414.2.1, bt414.2.2)))
def spec_l06Any.f (k : Nat) (s0_0 : List Int) (s0_1 : Int) (s0_2 : Int) : Option (Int × Int × (List (S28)) × Int × Int) := (spec_l06Right.f k s0_0 s0_1 s0_2).bind fun bt377 => ((spec_l01Below.f s0_0 bt377.2.2.2.1 bt377.2.2.2.2 40).bind fun bt385 => (if bt385.1 = 0 then ((spec_l01PickInt.f s0_0 bt385.2.1 bt385.2.2 (([(-1), 1000000, 1000001, 999998] : List Int))).bind fun bt391 => (some (bt391.1, bt377.2.1, bt377.2.2.1, bt391.2.1, bt391.2.2))) else (if bt385.1 = 1 then ((spec_l01PickInt.f s0_0 bt385.2.1 bt385.2.2 (([(-1), 9, 100001] : List Int))).bind fun bt397 => (some (bt377.1, bt397.1, bt377.2.2.1, bt397.2.1, bt397.2.2))) else (if bt385.1 = 2 then ((spec_l05Any.f k s0_0 bt385.2.1 bt385.2.2).bind fun bt400 => (if bt377.2.2.1.length < 4398046511104 then (some (bt377.1, bt377.2.1, (bt377.2.2.1 ++ [(⟨bt400.1, bt400.2.1, bt400.2.2.1⟩ : S28)]), bt400.2.2.2.1, bt400.2.2.2.2)) else (none))) else (if bt385.1 = 3 then ((spec_l01Once.f s0_0 bt385.2.1 bt385.2.2 2).bind fun bt411 => (spec_l06Any.l0 k bt411.1 0 s0_0 bt411.2.1 bt411.2.2 bt377.1 bt377.2.1 (([] : List (S28))))) else (some (bt377.1, bt377.2.1, bt377.2.2.1, bt385.2.1, bt385.2.2)))))))
theorem spec_l06Any.mono_l : ∀ k, (∀ y0 y1 y2 y3 y4 y5 y6 y7, LeO (spec_l06Any.l0 k y0 y1 y2 y3 y4 y5 y6 y7) (spec_l06Any.l0 (k + 1) y0 y1 y2 y3 y4 y5 y6 y7))
 | 0 => fun _ _ _ _ _ _ _ _ r h => by simp [spec_l06Any.l0] at h
 | k + 1 => by
  have ih0 := spec_l06Any.mono_l k
  ·intro y0 y1 y2 y3 y4 y5 y6 y7
   unfold spec_l06Any.l0
   repeat' first
   | (with_reducible exact ih0 _ _ _ _ _ _ _ _)
   | (with_reducible exact spec_l01Long.mono _ _ _)
   | (with_reducible exact spec_l05Any.mono _ _ _ _)
   | (with_reducible exact spec_l06Right.mono _ _ _ _)
   | (with_reducible first | exact LeO.refl _ | exact LeO.none _ | refine LeO.ite ?_ ?_ | refine LeO.bind ?_ (fun _ => ?_))
   | exact ih0 _ _ _ _ _ _ _ _
   | exact spec_l01Long.mono _ _ _
   | exact spec_l05Any.mono _ _ _ _
   | exact spec_l06Right.mono _ _ _ _
theorem spec_l06Any.mono : ∀ a0 a1 a2 k, LeO (spec_l06Any.f k a0 a1 a2) (spec_l06Any.f (k + 1) a0 a1 a2) := by
 intro a0 a1 a2 k
 have ih0 := spec_l06Any.mono_l k
 unfold spec_l06Any.f
 repeat' first
   | (with_reducible exact ih0 _ _ _ _ _ _ _ _)
   | (with_reducible exact spec_l01Long.mono _ _ _)
   | (with_reducible exact spec_l05Any.mono _ _ _ _)
   | (with_reducible exact spec_l06Right.mono _ _ _ _)
   | (with_reducible first | exact LeO.refl _ | exact LeO.none _ | refine LeO.ite ?_ ?_ | refine LeO.bind ?_ (fun _ => ?_))
   | exact ih0 _ _ _ _ _ _ _ _
   | exact spec_l01Long.mono _ _ _
   | exact spec_l05Any.mono _ _ _ _
   | exact spec_l06Right.mono _ _ _ _
def spec_l06Any.T8 : Bool × List (List Nat × List Nat) := (true, [([], []), ([0], [0]), ([], []), ([2], [2]), ([3], [3]), ([1, 4, 3], [1, 4]), ([0, 1, 2, 3, 4, 5], []), ([6, 5, 5, 0, 1, 2, 3, 4, 5], [5, 6])])
def spec_l06Any.B8 : List Nat := [0, 1, 0, 4, 12, 31, 63, 127]
theorem spec_l06Any.tab8 : rtab .any (opsOf Try.f38 8) = spec_l06Any.T8 := by kernel_rfl
theorem spec_l06Any.bits8 : waitsOk spec_l06Any.T8.2 spec_l06Any.B8 = true := by kernel_rfl
set_option maxHeartbeats 8000000 in
set_option maxRecDepth 100000 in
theorem spec_l06Any.calls (k : Nat) (g : Nat) (s0_0 : List Int) (s0_1 : Int) (s0_2 : Int) (r1 : Int) (r2 : Int) (r3 : List (S28)) (r4 : Int) (r5 : Int) (w0 w : World) (hI : IsS107 w0 w g s0_0 s0_1 s0_2) (hB : Below w0.heap.size w0 w) (h : spec_l06Any.f k s0_0 s0_1 s0_2 = some (r1, r2, r3, r4, r5)) :
  Calls Try.prog 38 #[.pointer (some ⟨g, 0, none⟩)] w fun e w' => ∃ v2_ : Value, e = .returned (.agg #[.int .i64 r1, .int .i64 r2, v2_]) ∧ Kd.R k28 28 w' w.heap.size (fun _ => True) v2_ r3 ∧ IsS107 w0 w' g s0_0 r4 r5 ∧ Below w0.heap.size w0 w' ∧ KeepBut w w' g none := by
 have hu26 := Try.underlying26
 have hu28 := Try.underlying28
 have HI0 := Aside0.mk hI
 have HK := Aside0.mk (KeepBut.refl w g none)
 have HL := Aside0.mk hB.size
 clear hI
 have HW0 := Aside0.mk hB.size
 have HB := Aside0.mk hB
 clear hB
 have H : ((spec_l06Right.f k s0_0 s0_1 s0_2).bind fun bt377 => ((spec_l01Below.f s0_0 bt377.2.2.2.1 bt377.2.2.2.2 40).bind fun bt385 => (if bt385.1 = 0 then ((spec_l01PickInt.f s0_0 bt385.2.1 bt385.2.2 (([(-1), 1000000, 1000001, 999998] : List Int))).bind fun bt391 => (some (bt391.1, bt377.2.1, bt377.2.2.1, bt391.2.1, bt391.2.2))) else (if bt385.1 = 1 then ((spec_l01PickInt.f s0_0 bt385.2.1 bt385.2.2 (([(-1), 9, 100001] : List Int))).bind fun bt397 => (some (bt377.1, bt397.1, bt377.2.2.1, bt397.2.1, bt397.2.2))) else (if bt385.1 = 2 then ((spec_l05Any.f k s0_0 bt385.2.1 bt385.2.2).bind fun bt400 => (if bt377.2.2.1.length < 4398046511104 then (some (bt377.1, bt377.2.1, (bt377.2.2.1 ++ [(⟨bt400.1, bt400.2.1, bt400.2.2.1⟩ : S28)]), bt400.2.2.2.1, bt400.2.2.2.2)) else (none))) else (if bt385.1 = 3 then ((spec_l01Once.f s0_0 bt385.2.1 bt385.2.2 2).bind fun bt411 => (spec_l06Any.l0 k bt411.1 0 s0_0 bt411.2.1 bt411.2.2 bt377.1 bt377.2.1 (([] : List (S28))))) else (some (bt377.1, bt377.2.1, bt377.2.2.1, bt385.2.1, bt385.2.2)))))))) = some (r1, r2, r3, r4, r5) := h
 clear h
 replace H := bsi H
 obtain ⟨⟨t377, t378, t379, t382, t383⟩, A2, H⟩ := H
 (try dsimp only at H)
 replace H := bsi H
 obtain ⟨⟨t385, t386, t387⟩, A3, H⟩ := H
 (try dsimp only at H)
 by_cases c4 : t385 = 0
 ·rw [if_pos c4] at H
  have c4b0 := beq_iff_eq.mpr c4
  have c4b1 := bne_eq_false_iff_eq.mpr c4
  clear c4
  obtain ⟨y388, hy388⟩ : ∃ y_ : List Int, y_ = (([(-1), 1000000, 1000001, 999998] : List Int)) := ⟨_, rfl⟩
  replace H : ((spec_l01PickInt.f s0_0 t386 t387 y388).bind fun bt391 => (some (bt391.1, t378, t379, bt391.2.1, bt391.2.2))) = some (r1, r2, r3, r4, r5) := by first | (rw [hy388]; with_reducible exact H) | (have H2_ := (Option.bind_some _ _).symm.trans H; rw [hy388]; with_reducible exact H2_) | (have H2_ := (Option.bind_some _ _).symm.trans H; with_reducible exact H2_) | with_reducible exact H | (rw [hy388]; exact H) | exact H
  have Ny388 := Aside0.mk hy388
  clear hy388
  replace H := bsi H
  obtain ⟨⟨t391, t392, t393⟩, A5, H⟩ := H
  (try dsimp only at H)
  simp only [Option.some.injEq, Prod.mk.injEq] at H
  obtain ⟨rfl, rfl, rfl, rfl, rfl⟩ := H
  go_enter Try.func38, Try.ntmps38
  go_wp2_with (first | ((with_reducible refine gate_dst (N := 2) rfl ?_); refine box_event ?hg (N := 2) ?hd (cs := #[.int .i64 0, .int .i64 0, .slice none 0 0]) (t := 26) ?hr ?_; (case hd => rfl); (case hg => rfl); (case hr => exact B9x16_); intro gb376 hg w6 hbox hb; replace HB := Aside0.mk (below_step B9x7_ hb); have BK376 := Aside0.mk (hbox); have GW376 := Aside0.mk ((bs hg (keep_size HK.out))); have GE376 := Aside0.mk ((Nat.le_trans HW0.out (bs hg (keep_size HK.out)) : w0.heap.size ≤ gb376)); replace HK := Aside0.mk (KeepBut.trans B9x11_ (KeepBut.of_below hb g none) (.inl rfl)); have NB0_376 := Aside0.mk ((nl hg (IsS107.lt HI0.out))); have NB376_0 := Aside0.mk ((ng hg (IsS107.lt HI0.out))); replace HI0 := Aside0.mk (IsS107.below B9x6_ hb); clear hb hbox hg) | ((with_reducible refine gate_callee (f := 50) rfl ?_); refine goesL_ (some 8) rfl rfl Try.func50 B9x23_ rfl #[.pointer (some ⟨g, 0, none⟩)] rfl B9x3_ ?_; (with_reducible refine (spec_l06Right.calls k g s0_0 s0_1 s0_2 t377 t378 t379 t382 t383 w0 _ ?side1 ?side2 A2.out).mono ?_); (case side1 => exact B9x8_); (case side2 => exact B9x9_); rintro e w7 ⟨v380, rfl, ho0, hi, hb, hk⟩; refine ⟨_, rfl, ?_⟩; replace BK376 := Aside0.mk (kb hk BK376.out NB376_0.out); have HO381 := Aside0.mk (Kd.R_lower ho0 (keep_size (w := w) (g := g) (row := none) B9x5_)); replace HK := Aside0.mk (KeepBut.trans B9x5_ hk (.inl rfl)); replace HB := Aside0.mk (hb); replace HI0 := Aside0.mk (hi); (try clear hb hk hi); (try clear ho0)) | ((with_reducible refine gate_dst (N := 3) rfl ?_); refine box_event ?hg (N := 3) ?hd (cs := #[.int .i64 0, .int .i64 0, .slice none 0 0]) (t := 26) ?hr ?_; (case hd => rfl); (case hg => rfl); (case hr => exact B9x16_); intro gb384 hg w8 hbox hb; replace HO381 := Aside0.mk (Kd.R_below B9x14_ hb); replace HB := Aside0.mk (below_step B9x9_ hb); have BK384 := Aside0.mk (hbox); have GW384 := Aside0.mk ((bs hg (keep_size HK.out))); have GE384 := Aside0.mk ((Nat.le_trans HW0.out (bs hg (keep_size HK.out)) : w0.heap.size ≤ gb384)); replace HK := Aside0.mk (KeepBut.trans B9x5_ (KeepBut.of_below hb g none) (.inl rfl)); have NB376_384 := Aside0.mk ((nl hg (blk_lt BK376.out))); have NB384_376 := Aside0.mk ((ng hg (blk_lt BK376.out))); replace BK376 := Aside0.mk (bb BK376.out hb); have NB0_384 := Aside0.mk ((nl hg (IsS107.lt HI0.out))); have NB384_0 := Aside0.mk ((ng hg (IsS107.lt HI0.out))); replace HI0 := Aside0.mk (IsS107.below B9x8_ hb); clear hb hbox hg; have hnb9 := NB384_376.out; have hnc9 := NB376_384.out; have hnb10 := NB384_0.out; have hnc10 := NB0_384.out; obtain ⟨hcz11_0, hcz11_1, hcz11_2⟩ := cl3 BK384.out; obtain ⟨hfz11_0, hfz11_1, hfz11_2⟩ := fr3 BK384.out; obtain ⟨Ao12, co12, eo12⟩ := Kd.R_slice HO381.out; subst eo12) | ((with_reducible refine gate_callee (f := 41) rfl ?_); refine goesL_ (some 10) rfl rfl Try.func41 B9x23_ rfl #[.pointer (some ⟨g, 0, none⟩), .int .i64 40] rfl B9x3_ ?_; (with_reducible refine (spec_l01Below.calls g s0_0 t382 t383 40 t385 t386 t387 w0 _ ?side1 ?side2 A3.out).mono ?_); (case side1 => exact B9x0_); (case side2 => exact B9x2_); rintro e w13 ⟨rfl, hi, hb, hk⟩; refine ⟨_, rfl, ?_⟩; replace BK376 := Aside0.mk (KeepBut.blk hk (g' := gb376) (o := .cells #[.int .i64 0, .int .i64 0, .slice none 0 0] 26 (0, 0)) B9x4_ NB376_0.out (by simp)); replace HO381 := Aside0.mk (Kd.R_mono (Kd.R_keep (IsS107.apart (show IsS107 w0 _ g s0_0 t382 t383 from B9x0_) (by (with_reducible repeat (first | apply Kd.R_alloc | apply Kd.R_drewN | apply Kd.R_drew)); exact (Kd.R_mono (Kd.R_far (p := ⟨gb384, 2, none⟩) (Kd.R_far (p := ⟨gb384, 1, none⟩) (Kd.R_far (p := ⟨gb384, 0, none⟩) (Kd.R_types HO381.out BK384.out (by decide)) (fun _ hk => hk.2) (.int .i64 t377)) (fun _ hk => hk.2) (.int .i64 t378)) (fun _ hk => hk.2) (.slice Ao12 t379.length co12)) (fun _ h_ => h_.1))) (by decide)) hk (fun _ h => h.2)) (fun _ h => h.1)); replace BK384 := Aside0.mk (KeepBut.blk hk (g' := gb384) (o := .cells #[.int .i64 t377, .int .i64 t378, .slice Ao12 t379.length co12] 26 (0, 0)) B9x10_ NB384_0.out (by simp)); replace HK := Aside0.mk (KeepBut.trans B9x1_ hk (.inl rfl)); replace HB := Aside0.mk (hb); replace HI0 := Aside0.mk (hi); (try clear hb hk hi)) | ((with_reducible refine gate_dst (N := 14) rfl ?_); refine Kd.R_lit (Kd.int .i64) _ 3 ?hg (N := 14) ?hd (xs := ([(-1), 1000000, 1000001, 999998] : List Int)) (inner := [.int .i64 (-1), .int .i64 1000000, .int .i64 1000001, .int .i64 999998]) (ok := fun _ => True) (okp := fun _ => True) ?hr ?hp (fun _ hk => hk) trivial (Below.refl _ _) (Nat.le_refl _) (by simp) ?_; (case hd => rfl); (case hg => rfl); (case hr => exact B9x16_); (case hp => exact (Reps.one (show Kd.M (Kd.int .i64) _ _ _ (-1) [.int .i64 (-1)] from rfl) (Reps.one (show Kd.M (Kd.int .i64) _ _ _ 1000000 [.int .i64 1000000] from rfl) (Reps.one (show Kd.M (Kd.int .i64) _ _ _ 1000001 [.int .i64 1000001] from rfl) (Reps.one (show Kd.M (Kd.int .i64) _ _ _ 999998 [.int .i64 999998] from rfl) (Reps.none _ _)))))); intro v389 w14 ho15 hb hg_ hnew_; clear hg_ hnew_; (first | rw [← Ny388.out] at ho15 | (simp only [Int.reduceToNat] at ho15; rw [← Ny388.out] at ho15)); replace HO381 := Aside0.mk (Kd.R_below B9x14_ hb); have HO390 := Aside0.mk (Kd.R_lower ho15 (keep_size (w := w) (g := g) (row := none) B9x1_)); replace BK376 := Aside0.mk (bb BK376.out hb); replace BK384 := Aside0.mk (bb BK384.out hb); replace HK := Aside0.mk (KeepBut.trans B9x1_ (KeepBut.of_below hb g none) (.inl rfl)); replace HB := Aside0.mk (below_step B9x2_ hb); replace HI0 := Aside0.mk (IsS107.below B9x0_ hb); clear hb ho15; obtain ⟨Ao16, co16, eo16⟩ := Kd.R_slice HO390.out; subst eo16) | ((with_reducible refine gate_callee (f := 80) rfl ?_); refine goesL_ (some 15) rfl rfl Try.func80 B9x23_ rfl #[.pointer (some ⟨g, 0, none⟩), .slice Ao16 y388.length co16] rfl B9x3_ ?_; (with_reducible refine (spec_l01PickInt.calls g s0_0 t386 t387 _ _ y388 t391 t392 t393 w0 _ ?side1 ?side2 ?side3 ?side4 ?side5 A5.out).mono ?_); (case side1 => exact B9x0_); (case side2 => exact B9x2_); (case side3 => repeat (first | exact (Kd.R_reads' HO390.out).2.2 | (with_reducible refine Kd.C_alloc ?_ _) | (with_reducible refine Kd.C_drewN ?_ _) | (with_reducible refine Kd.C_drew ?_))); (case side4 => exact (Kd.R_reads' HO390.out).2.1); (case side5 => exact far_slice (IsS107.own_ne HI0.out HO390.out (by decide))); rintro e w17 ⟨rfl, hi, hb, hk⟩; refine ⟨_, rfl, ?_⟩; replace BK376 := Aside0.mk (kb hk BK376.out NB376_0.out); replace HO381 := Aside0.mk (Kd.R_mono (Kd.R_keep (IsS107.apart (show IsS107 w0 _ g s0_0 t386 t387 from B9x0_) B9x14_ (by decide)) hk (fun _ h => h.2)) (fun _ h => h.1)); replace BK384 := Aside0.mk (kb hk BK384.out NB384_0.out); replace HO390 := Aside0.mk (Kd.R_mono (Kd.R_keep (IsS107.apart (show IsS107 w0 _ g s0_0 t386 t387 from B9x0_) (by (with_reducible repeat (first | apply Kd.R_alloc | apply Kd.R_drewN | apply Kd.R_drew)); exact HO390.out) (by decide)) hk (fun _ h => h.2)) (fun _ h => h.1)); replace HK := Aside0.mk (KeepBut.trans B9x1_ hk (.inl rfl)); replace HB := Aside0.mk (hb); replace HI0 := Aside0.mk (hi); (try clear hb hk hi); obtain ⟨hcz18_0, hcz18_1, hcz18_2⟩ := cl3 BK384.out; obtain ⟨hfz18_0, hfz18_1, hfz18_2⟩ := fr3 BK384.out; have hnb19 := NB376_0.out; have hnc19 := NB0_376.out; obtain ⟨hcz20_0, hcz20_1, hcz20_2⟩ := cl3 BK376.out; obtain ⟨hfz20_0, hfz20_1, hfz20_2⟩ := fr3 BK376.out))
  refine bodyPost_ret (results_cell_row rfl _ _ gb376 26 #[.int .i64 t391, .int .i64 t378, .slice Ao12 t379.length co12] (0, 0) _ rfl B9x4_ Try.underlying26 rfl B9x23_) rfl ?_
  exact ⟨_, by first | rfl | (simp [errW_none, errW_some] <;> rfl) | (simp [*, errW_none, errW_some] <;> rfl), by (with_reducible repeat (first | apply Kd.R_alloc | apply Kd.R_drewN | apply Kd.R_drew)); exact Kd.R_mono (Kd.R_far (p := ⟨gb376, 2, none⟩) (Kd.R_far (p := ⟨gb376, 1, none⟩) (Kd.R_far (p := ⟨gb376, 0, none⟩) (Kd.R_far (p := ⟨gb384, 0, none⟩) (Kd.R_types (Kd.R_types HO381.out BK384.out (by decide)) BK376.out (by decide)) (fun _ hk => hk.1.2) (.int .i64 t391)) (fun _ hk => hk.2) (.int .i64 t391)) (fun _ hk => hk.2) (.int .i64 t378)) (fun _ hk => hk.2) (.slice Ao12 t379.length co12)) (fun _ hk => trivial), by repeat (first | (with_reducible first | exact HI0.out | apply IsS107.alloc | apply IsS107.drewN | apply IsS107.drew | apply IsS107.set_1 | apply IsS107.set_2 | refine IsS107.far ?_ NB0_376.out _ | refine IsS107.far ?_ NB0_384.out _) | exact HI0.out), by repeat (first | (with_reducible first | exact HB.out | apply below_alloc | apply pw_below_drewN | apply below_drew1 | refine below_set ?_ (IsS107.ge HI0.out) | refine below_set ?_ GE376.out | refine below_set ?_ GE384.out) | exact HB.out), by repeat (first | (with_reducible first | exact HK.out | apply KeepBut.set_ | apply keep_drewN | apply keep_drew | apply keep_alloc | refine keep_far ?_ GW376.out _ | refine keep_far ?_ GW384.out _) | exact HK.out)⟩
 ·rw [if_neg c4] at H
  have c4b0 := beq_eq_false_iff_ne.mpr c4
  have c4b1 := bne_iff_ne.mpr c4
  by_cases c21 : t385 = 1
  ·rw [if_pos c21] at H
   have c21b0 := beq_iff_eq.mpr c21
   have c21b1 := bne_eq_false_iff_eq.mpr c21
   clear c21
   obtain ⟨y394, hy394⟩ : ∃ y_ : List Int, y_ = (([(-1), 9, 100001] : List Int)) := ⟨_, rfl⟩
   replace H : ((spec_l01PickInt.f s0_0 t386 t387 y394).bind fun bt397 => (some (t377, bt397.1, t379, bt397.2.1, bt397.2.2))) = some (r1, r2, r3, r4, r5) := by first | (rw [hy394]; with_reducible exact H) | (have H2_ := (Option.bind_some _ _).symm.trans H; rw [hy394]; with_reducible exact H2_) | (have H2_ := (Option.bind_some _ _).symm.trans H; with_reducible exact H2_) | with_reducible exact H | (rw [hy394]; exact H) | exact H
   have Ny394 := Aside0.mk hy394
   clear hy394
   replace H := bsi H
   obtain ⟨⟨t397, t398, t399⟩, A22, H⟩ := H
   (try dsimp only at H)
   simp only [Option.some.injEq, Prod.mk.injEq] at H
   obtain ⟨rfl, rfl, rfl, rfl, rfl⟩ := H
   go_enter Try.func38, Try.ntmps38
   go_wp2_with (first | ((with_reducible refine gate_dst (N := 2) rfl ?_); refine box_event ?hg (N := 2) ?hd (cs := #[.int .i64 0, .int .i64 0, .slice none 0 0]) (t := 26) ?hr ?_; (case hd => rfl); (case hg => rfl); (case hr => exact B9x16_); intro gb376 hg w23 hbox hb; replace HB := Aside0.mk (below_step B9x7_ hb); have BK376 := Aside0.mk (hbox); have GW376 := Aside0.mk ((bs hg (keep_size HK.out))); have GE376 := Aside0.mk ((Nat.le_trans HW0.out (bs hg (keep_size HK.out)) : w0.heap.size ≤ gb376)); replace HK := Aside0.mk (KeepBut.trans B9x11_ (KeepBut.of_below hb g none) (.inl rfl)); have NB0_376 := Aside0.mk ((nl hg (IsS107.lt HI0.out))); have NB376_0 := Aside0.mk ((ng hg (IsS107.lt HI0.out))); replace HI0 := Aside0.mk (IsS107.below B9x6_ hb); clear hb hbox hg) | ((with_reducible refine gate_callee (f := 50) rfl ?_); refine goesL_ (some 8) rfl rfl Try.func50 B9x23_ rfl #[.pointer (some ⟨g, 0, none⟩)] rfl B9x3_ ?_; (with_reducible refine (spec_l06Right.calls k g s0_0 s0_1 s0_2 t377 t378 t379 t382 t383 w0 _ ?side1 ?side2 A2.out).mono ?_); (case side1 => exact B9x8_); (case side2 => exact B9x9_); rintro e w24 ⟨v380, rfl, ho0, hi, hb, hk⟩; refine ⟨_, rfl, ?_⟩; replace BK376 := Aside0.mk (kb hk BK376.out NB376_0.out); have HO381 := Aside0.mk (Kd.R_lower ho0 (keep_size (w := w) (g := g) (row := none) B9x5_)); replace HK := Aside0.mk (KeepBut.trans B9x5_ hk (.inl rfl)); replace HB := Aside0.mk (hb); replace HI0 := Aside0.mk (hi); (try clear hb hk hi); (try clear ho0)) | ((with_reducible refine gate_dst (N := 3) rfl ?_); refine box_event ?hg (N := 3) ?hd (cs := #[.int .i64 0, .int .i64 0, .slice none 0 0]) (t := 26) ?hr ?_; (case hd => rfl); (case hg => rfl); (case hr => exact B9x16_); intro gb384 hg w25 hbox hb; replace HO381 := Aside0.mk (Kd.R_below B9x14_ hb); replace HB := Aside0.mk (below_step B9x9_ hb); have BK384 := Aside0.mk (hbox); have GW384 := Aside0.mk ((bs hg (keep_size HK.out))); have GE384 := Aside0.mk ((Nat.le_trans HW0.out (bs hg (keep_size HK.out)) : w0.heap.size ≤ gb384)); replace HK := Aside0.mk (KeepBut.trans B9x5_ (KeepBut.of_below hb g none) (.inl rfl)); have NB376_384 := Aside0.mk ((nl hg (blk_lt BK376.out))); have NB384_376 := Aside0.mk ((ng hg (blk_lt BK376.out))); replace BK376 := Aside0.mk (bb BK376.out hb); have NB0_384 := Aside0.mk ((nl hg (IsS107.lt HI0.out))); have NB384_0 := Aside0.mk ((ng hg (IsS107.lt HI0.out))); replace HI0 := Aside0.mk (IsS107.below B9x8_ hb); clear hb hbox hg; have hnb26 := NB384_376.out; have hnc26 := NB376_384.out; have hnb27 := NB384_0.out; have hnc27 := NB0_384.out; obtain ⟨hcz28_0, hcz28_1, hcz28_2⟩ := cl3 BK384.out; obtain ⟨hfz28_0, hfz28_1, hfz28_2⟩ := fr3 BK384.out; obtain ⟨Ao29, co29, eo29⟩ := Kd.R_slice HO381.out; subst eo29) | ((with_reducible refine gate_callee (f := 41) rfl ?_); refine goesL_ (some 10) rfl rfl Try.func41 B9x23_ rfl #[.pointer (some ⟨g, 0, none⟩), .int .i64 40] rfl B9x3_ ?_; (with_reducible refine (spec_l01Below.calls g s0_0 t382 t383 40 t385 t386 t387 w0 _ ?side1 ?side2 A3.out).mono ?_); (case side1 => exact B9x0_); (case side2 => exact B9x2_); rintro e w30 ⟨rfl, hi, hb, hk⟩; refine ⟨_, rfl, ?_⟩; replace BK376 := Aside0.mk (KeepBut.blk hk (g' := gb376) (o := .cells #[.int .i64 0, .int .i64 0, .slice none 0 0] 26 (0, 0)) B9x4_ NB376_0.out (by simp)); replace HO381 := Aside0.mk (Kd.R_mono (Kd.R_keep (IsS107.apart (show IsS107 w0 _ g s0_0 t382 t383 from B9x0_) (by (with_reducible repeat (first | apply Kd.R_alloc | apply Kd.R_drewN | apply Kd.R_drew)); exact (Kd.R_mono (Kd.R_far (p := ⟨gb384, 2, none⟩) (Kd.R_far (p := ⟨gb384, 1, none⟩) (Kd.R_far (p := ⟨gb384, 0, none⟩) (Kd.R_types HO381.out BK384.out (by decide)) (fun _ hk => hk.2) (.int .i64 t377)) (fun _ hk => hk.2) (.int .i64 t378)) (fun _ hk => hk.2) (.slice Ao29 t379.length co29)) (fun _ h_ => h_.1))) (by decide)) hk (fun _ h => h.2)) (fun _ h => h.1)); replace BK384 := Aside0.mk (KeepBut.blk hk (g' := gb384) (o := .cells #[.int .i64 t377, .int .i64 t378, .slice Ao29 t379.length co29] 26 (0, 0)) B9x10_ NB384_0.out (by simp)); replace HK := Aside0.mk (KeepBut.trans B9x1_ hk (.inl rfl)); replace HB := Aside0.mk (hb); replace HI0 := Aside0.mk (hi); (try clear hb hk hi)) | ((with_reducible refine gate_dst (N := 20) rfl ?_); refine Kd.R_lit (Kd.int .i64) _ 3 ?hg (N := 20) ?hd (xs := ([(-1), 9, 100001] : List Int)) (inner := [.int .i64 (-1), .int .i64 9, .int .i64 100001]) (ok := fun _ => True) (okp := fun _ => True) ?hr ?hp (fun _ hk => hk) trivial (Below.refl _ _) (Nat.le_refl _) (by simp) ?_; (case hd => rfl); (case hg => rfl); (case hr => exact B9x16_); (case hp => exact (Reps.one (show Kd.M (Kd.int .i64) _ _ _ (-1) [.int .i64 (-1)] from rfl) (Reps.one (show Kd.M (Kd.int .i64) _ _ _ 9 [.int .i64 9] from rfl) (Reps.one (show Kd.M (Kd.int .i64) _ _ _ 100001 [.int .i64 100001] from rfl) (Reps.none _ _))))); intro v395 w31 ho32 hb hg_ hnew_; clear hg_ hnew_; (first | rw [← Ny394.out] at ho32 | (simp only [Int.reduceToNat] at ho32; rw [← Ny394.out] at ho32)); replace HO381 := Aside0.mk (Kd.R_below B9x14_ hb); have HO396 := Aside0.mk (Kd.R_lower ho32 (keep_size (w := w) (g := g) (row := none) B9x1_)); replace BK376 := Aside0.mk (bb BK376.out hb); replace BK384 := Aside0.mk (bb BK384.out hb); replace HK := Aside0.mk (KeepBut.trans B9x1_ (KeepBut.of_below hb g none) (.inl rfl)); replace HB := Aside0.mk (below_step B9x2_ hb); replace HI0 := Aside0.mk (IsS107.below B9x0_ hb); clear hb ho32; obtain ⟨Ao33, co33, eo33⟩ := Kd.R_slice HO396.out; subst eo33) | ((with_reducible refine gate_callee (f := 80) rfl ?_); refine goesL_ (some 21) rfl rfl Try.func80 B9x23_ rfl #[.pointer (some ⟨g, 0, none⟩), .slice Ao33 y394.length co33] rfl B9x3_ ?_; (with_reducible refine (spec_l01PickInt.calls g s0_0 t386 t387 _ _ y394 t397 t398 t399 w0 _ ?side1 ?side2 ?side3 ?side4 ?side5 A22.out).mono ?_); (case side1 => exact B9x0_); (case side2 => exact B9x2_); (case side3 => repeat (first | exact (Kd.R_reads' HO396.out).2.2 | (with_reducible refine Kd.C_alloc ?_ _) | (with_reducible refine Kd.C_drewN ?_ _) | (with_reducible refine Kd.C_drew ?_))); (case side4 => exact (Kd.R_reads' HO396.out).2.1); (case side5 => exact far_slice (IsS107.own_ne HI0.out HO396.out (by decide))); rintro e w34 ⟨rfl, hi, hb, hk⟩; refine ⟨_, rfl, ?_⟩; replace BK376 := Aside0.mk (kb hk BK376.out NB376_0.out); replace HO381 := Aside0.mk (Kd.R_mono (Kd.R_keep (IsS107.apart (show IsS107 w0 _ g s0_0 t386 t387 from B9x0_) B9x14_ (by decide)) hk (fun _ h => h.2)) (fun _ h => h.1)); replace BK384 := Aside0.mk (kb hk BK384.out NB384_0.out); replace HO396 := Aside0.mk (Kd.R_mono (Kd.R_keep (IsS107.apart (show IsS107 w0 _ g s0_0 t386 t387 from B9x0_) (by (with_reducible repeat (first | apply Kd.R_alloc | apply Kd.R_drewN | apply Kd.R_drew)); exact HO396.out) (by decide)) hk (fun _ h => h.2)) (fun _ h => h.1)); replace HK := Aside0.mk (KeepBut.trans B9x1_ hk (.inl rfl)); replace HB := Aside0.mk (hb); replace HI0 := Aside0.mk (hi); (try clear hb hk hi); obtain ⟨hcz35_0, hcz35_1, hcz35_2⟩ := cl3 BK384.out; obtain ⟨hfz35_0, hfz35_1, hfz35_2⟩ := fr3 BK384.out; have hnb36 := NB376_0.out; have hnc36 := NB0_376.out; obtain ⟨hcz37_0, hcz37_1, hcz37_2⟩ := cl3 BK376.out; obtain ⟨hfz37_0, hfz37_1, hfz37_2⟩ := fr3 BK376.out))
   refine bodyPost_ret (results_cell_row rfl _ _ gb376 26 #[.int .i64 t377, .int .i64 t397, .slice Ao29 t379.length co29] (0, 0) _ rfl B9x4_ Try.underlying26 rfl B9x23_) rfl ?_
   exact ⟨_, by first | rfl | (simp [errW_none, errW_some] <;> rfl) | (simp [*, errW_none, errW_some] <;> rfl), by (with_reducible repeat (first | apply Kd.R_alloc | apply Kd.R_drewN | apply Kd.R_drew)); exact Kd.R_mono (Kd.R_far (p := ⟨gb376, 2, none⟩) (Kd.R_far (p := ⟨gb376, 1, none⟩) (Kd.R_far (p := ⟨gb376, 0, none⟩) (Kd.R_far (p := ⟨gb384, 1, none⟩) (Kd.R_types (Kd.R_types HO381.out BK384.out (by decide)) BK376.out (by decide)) (fun _ hk => hk.1.2) (.int .i64 t397)) (fun _ hk => hk.2) (.int .i64 t377)) (fun _ hk => hk.2) (.int .i64 t397)) (fun _ hk => hk.2) (.slice Ao29 t379.length co29)) (fun _ hk => trivial), by repeat (first | (with_reducible first | exact HI0.out | apply IsS107.alloc | apply IsS107.drewN | apply IsS107.drew | apply IsS107.set_1 | apply IsS107.set_2 | refine IsS107.far ?_ NB0_376.out _ | refine IsS107.far ?_ NB0_384.out _) | exact HI0.out), by repeat (first | (with_reducible first | exact HB.out | apply below_alloc | apply pw_below_drewN | apply below_drew1 | refine below_set ?_ (IsS107.ge HI0.out) | refine below_set ?_ GE376.out | refine below_set ?_ GE384.out) | exact HB.out), by repeat (first | (with_reducible first | exact HK.out | apply KeepBut.set_ | apply keep_drewN | apply keep_drew | apply keep_alloc | refine keep_far ?_ GW376.out _ | refine keep_far ?_ GW384.out _) | exact HK.out)⟩
  ·rw [if_neg c21] at H
   have c21b0 := beq_eq_false_iff_ne.mpr c21
   have c21b1 := bne_iff_ne.mpr c21
   by_cases c38 : t385 = 2
   ·rw [if_pos c38] at H
    have c38b0 := beq_iff_eq.mpr c38
    have c38b1 := bne_eq_false_iff_eq.mpr c38
    clear c38
    replace H := bsi H
    obtain ⟨⟨t400, t401, t402, t403, t404⟩, A39, H⟩ := H
    (try dsimp only at H)
    by_cases c40 : t379.length < 4398046511104
    rotate_left
    ·rw [if_neg c40] at H
     exact absurd H (by simp)
    rw [if_pos c40] at H
    have LMc40 := Aside0.mk c40
    clear c40
    obtain ⟨y405, hy405⟩ : ∃ y_ : List (S28), y_ = (t379 ++ [(⟨t400, t401, t402⟩ : S28)]) := ⟨_, rfl⟩
    replace H : (some (t377, t378, y405, t403, t404)) = some (r1, r2, r3, r4, r5) := by first | (rw [hy405]; with_reducible exact H) | (have H2_ := (Option.bind_some _ _).symm.trans H; rw [hy405]; with_reducible exact H2_) | (have H2_ := (Option.bind_some _ _).symm.trans H; with_reducible exact H2_) | with_reducible exact H | (rw [hy405]; exact H) | exact H
    have Ny405 := Aside0.mk hy405
    clear hy405
    simp only [Option.some.injEq, Prod.mk.injEq] at H
    obtain ⟨rfl, rfl, rfl, rfl, rfl⟩ := H
    go_enter Try.func38, Try.ntmps38
    try go_wp2_with (first | ((with_reducible refine gate_dst (N := 2) rfl ?_); refine box_event ?hg (N := 2) ?hd (cs := #[.int .i64 0, .int .i64 0, .slice none 0 0]) (t := 26) ?hr ?_; (case hd => rfl); (case hg => rfl); (case hr => exact B9x16_); intro gb376 hg w41 hbox hb; replace HB := Aside0.mk (below_step B9x7_ hb); have BK376 := Aside0.mk (hbox); have GW376 := Aside0.mk ((bs hg (keep_size HK.out))); have GE376 := Aside0.mk ((Nat.le_trans HW0.out (bs hg (keep_size HK.out)) : w0.heap.size ≤ gb376)); replace HK := Aside0.mk (KeepBut.trans B9x11_ (KeepBut.of_below hb g none) (.inl rfl)); have NB0_376 := Aside0.mk ((nl hg (IsS107.lt HI0.out))); have NB376_0 := Aside0.mk ((ng hg (IsS107.lt HI0.out))); replace HI0 := Aside0.mk (IsS107.below B9x6_ hb); clear hb hbox hg) | ((with_reducible refine gate_callee (f := 50) rfl ?_); refine goesL_ (some 8) rfl rfl Try.func50 B9x23_ rfl #[.pointer (some ⟨g, 0, none⟩)] rfl B9x3_ ?_; (with_reducible refine (spec_l06Right.calls k g s0_0 s0_1 s0_2 t377 t378 t379 t382 t383 w0 _ ?side1 ?side2 A2.out).mono ?_); (case side1 => exact B9x8_); (case side2 => exact B9x9_); rintro e w42 ⟨v380, rfl, ho0, hi, hb, hk⟩; refine ⟨_, rfl, ?_⟩; replace BK376 := Aside0.mk (kb hk BK376.out NB376_0.out); have HO381 := Aside0.mk (Kd.R_lower ho0 (keep_size (w := w) (g := g) (row := none) B9x5_)); replace HK := Aside0.mk (KeepBut.trans B9x5_ hk (.inl rfl)); replace HB := Aside0.mk (hb); replace HI0 := Aside0.mk (hi); (try clear hb hk hi); (try clear ho0)) | ((with_reducible refine gate_dst (N := 3) rfl ?_); refine box_event ?hg (N := 3) ?hd (cs := #[.int .i64 0, .int .i64 0, .slice none 0 0]) (t := 26) ?hr ?_; (case hd => rfl); (case hg => rfl); (case hr => exact B9x16_); intro gb384 hg w43 hbox hb; replace HO381 := Aside0.mk (Kd.R_below B9x14_ hb); replace HB := Aside0.mk (below_step B9x9_ hb); have BK384 := Aside0.mk (hbox); have GW384 := Aside0.mk ((bs hg (keep_size HK.out))); have GE384 := Aside0.mk ((Nat.le_trans HW0.out (bs hg (keep_size HK.out)) : w0.heap.size ≤ gb384)); replace HK := Aside0.mk (KeepBut.trans B9x5_ (KeepBut.of_below hb g none) (.inl rfl)); have NB376_384 := Aside0.mk ((nl hg (blk_lt BK376.out))); have NB384_376 := Aside0.mk ((ng hg (blk_lt BK376.out))); replace BK376 := Aside0.mk (bb BK376.out hb); have NB0_384 := Aside0.mk ((nl hg (IsS107.lt HI0.out))); have NB384_0 := Aside0.mk ((ng hg (IsS107.lt HI0.out))); replace HI0 := Aside0.mk (IsS107.below B9x8_ hb); clear hb hbox hg; have hnb44 := NB384_376.out; have hnc44 := NB376_384.out; have hnb45 := NB384_0.out; have hnc45 := NB0_384.out; obtain ⟨hcz46_0, hcz46_1, hcz46_2⟩ := cl3 BK384.out; obtain ⟨hfz46_0, hfz46_1, hfz46_2⟩ := fr3 BK384.out; obtain ⟨Ao47, co47, eo47⟩ := Kd.R_slice HO381.out; subst eo47) | ((with_reducible refine gate_callee (f := 41) rfl ?_); refine goesL_ (some 10) rfl rfl Try.func41 B9x23_ rfl #[.pointer (some ⟨g, 0, none⟩), .int .i64 40] rfl B9x3_ ?_; (with_reducible refine (spec_l01Below.calls g s0_0 t382 t383 40 t385 t386 t387 w0 _ ?side1 ?side2 A3.out).mono ?_); (case side1 => exact B9x0_); (case side2 => exact B9x2_); rintro e w48 ⟨rfl, hi, hb, hk⟩; refine ⟨_, rfl, ?_⟩; replace BK376 := Aside0.mk (KeepBut.blk hk (g' := gb376) (o := .cells #[.int .i64 0, .int .i64 0, .slice none 0 0] 26 (0, 0)) B9x4_ NB376_0.out (by simp)); replace HO381 := Aside0.mk (Kd.R_mono (Kd.R_keep (IsS107.apart (show IsS107 w0 _ g s0_0 t382 t383 from B9x0_) (by (with_reducible repeat (first | apply Kd.R_alloc | apply Kd.R_drewN | apply Kd.R_drew)); exact (Kd.R_mono (Kd.R_far (p := ⟨gb384, 2, none⟩) (Kd.R_far (p := ⟨gb384, 1, none⟩) (Kd.R_far (p := ⟨gb384, 0, none⟩) (Kd.R_types HO381.out BK384.out (by decide)) (fun _ hk => hk.2) (.int .i64 t377)) (fun _ hk => hk.2) (.int .i64 t378)) (fun _ hk => hk.2) (.slice Ao47 t379.length co47)) (fun _ h_ => h_.1))) (by decide)) hk (fun _ h => h.2)) (fun _ h => h.1)); replace BK384 := Aside0.mk (KeepBut.blk hk (g' := gb384) (o := .cells #[.int .i64 t377, .int .i64 t378, .slice Ao47 t379.length co47] 26 (0, 0)) B9x10_ NB384_0.out (by simp)); replace HK := Aside0.mk (KeepBut.trans B9x1_ hk (.inl rfl)); replace HB := Aside0.mk (hb); replace HI0 := Aside0.mk (hi); (try clear hb hk hi)))
    replace HO381 := Aside0.mk (Kd.R_drew HO381.out)
    replace BK376 := Aside0.mk (blk_drew BK376.out)
    replace BK384 := Aside0.mk (blk_drew BK384.out)
    replace HI0 := Aside0.mk (IsS107.drew HI0.out)
    replace HK := Aside0.mk (keep_drew HK.out)
    replace HB := Aside0.mk (below_drew1 HB.out)
    refine start_ (n := 8) (S := fun w' => w'.cell? ⟨gb384, 0, none⟩ = some (.int .i64 t377) ∧ w'.cell? ⟨gb384, 1, none⟩ = some (.int .i64 t378) ∧ w'.cell? ⟨gb384, 2, none⟩ = some (.slice Ao47 t379.length co47)) (ds := [7]) #[false, false, false, false, false, false, false, false] B9x23_ rfl rfl ⟨(blk_cell BK384.out 0).trans rfl, (blk_cell BK384.out 1).trans rfl, (blk_cell BK384.out 2).trans rfl⟩ (fun hHeld => ?_); refine with_tabW spec_l06Any.tab8 spec_l06Any.bits8 (fun HT_ HW_ => ?_)
    generalize w48.drew = w49 at HO381 BK376 BK384 HI0 HK HB hHeld ⊢
    refine pu_ 0 25 HT_ ?_
    refine pu_ 2 27 HT_ ?_
    refine ta_ 1 26 HT_ HW_ hHeld ?_
    refine one_ (i := 3) (N := some 28) #[true, true, true, true, false, false, false, false] rfl rfl (one_of HT_.out B9x23_) (by decide) (fun K hK => ?_)
    refine goes_ Try.func43 B9x23_ rfl #[.pointer (some ⟨g, 0, none⟩)] (by rfl) rfl rfl B9x3_ ?_
    with_reducible refine (spec_l05Any.calls k g s0_0 t386 t387 t400 t401 t402 t403 t404 w0 _ ?side1 ?side2 A39.out).mono ?_
    (case side1 => exact B9x0_)
    (case side2 => exact B9x2_)
    rintro e w50 ⟨rfl, hi, hb, hk⟩
    refine ⟨_, rfl, ?_⟩
    replace BK376 := Aside0.mk (kb hk BK376.out NB376_0.out)
    replace HO381 := Aside0.mk (Kd.R_mono (Kd.R_keep (IsS107.apart (show IsS107 w0 _ g s0_0 t386 t387 from B9x0_) B9x14_ (by decide)) hk (fun _ h => h.2)) (fun _ h => h.1))
    replace BK384 := Aside0.mk (kb hk BK384.out NB384_0.out)
    replace HK := Aside0.mk (KeepBut.trans B9x1_ hk (.inl rfl))
    replace HB := Aside0.mk (hb)
    replace HI0 := Aside0.mk (hi)
    (try clear hb)
    (try clear hb2)
    (try clear hk)
    (try clear hi)
    refine hK.out _ _ ⟨(blk_cell BK384.out 0).trans rfl, (blk_cell BK384.out 1).trans rfl, (blk_cell BK384.out 2).trans rfl⟩ (fun hHeld => ?_)
    clear hK K
    refine norm_ (a' := ?_) ?_ ?_
    rotate_left
    ·show Act.put _ (some 28) _ = _
     simp only [Act.put, List.setIfInBounds_toArray, List.set_cons_zero, List.set_cons_succ, i64_w, i32_w]
     rfl
    refine one_ (i := 4) (N := some 29) #[true, true, true, true, true, false, false, false] rfl rfl (one_of HT_.out B9x23_) (by decide) (fun K hK => ?_)
    refine value_ (w1 := ?_) (v := ?_) (by rfl) rfl ?_ ?_
    rotate_left 2
    ·go_simp
     constructor
     ·rfl
     ·rfl
    refine hK.out _ _ ⟨(blk_cell (blk_alloc BK384.out _) 0).trans rfl, (blk_cell (blk_alloc BK384.out _) 1).trans rfl, (blk_cell (blk_alloc BK384.out _) 2).trans rfl⟩ (fun hHeld => ?_)
    clear hK K
    refine norm_ (a' := ?_) ?_ ?_
    rotate_left
    ·show Act.put _ (some 29) _ = _
     simp only [Act.put, List.setIfInBounds_toArray, List.set_cons_zero, List.set_cons_succ, i64_w, i32_w]
     rfl
    refine one_ (i := 5) (N := some 30) #[true, true, true, true, true, true, false, false] rfl rfl (one_of HT_.out B9x23_) (by decide) (fun K hK => ?_)
    refine Kd.R_append_step k28 w.heap.size (by rfl) (.tmp 26) (.tmp 29) 24 28 (.agg #[(.int .i64 0), (.int .i64 0), (.string ⟨#[]⟩)]) 32 rfl Try.underlying24 info28 rfl (by decide) (by omega) (.slice Ao47 t379.length co47) t379 (⟨t400, t401, t402⟩ : S28) [.int .i64 t400, .int .i64 t401, .string t402] (fun _ => True) (fun _ => False) rfl rfl ?aP (fun _ hk => hk.elim) ?aF ?aO (Below.refl _ _) ?aS ?aL ?_
    (case aP => exact k28_mkM _ _ _ (⟨t400, t401, t402⟩ : S28))
    (case aF => exact (fun _ _ => trivial))
    (case aO => exact B9x14_)
    (case aS => exact (keep_size (w := w) (g := g) (row := none) B9x1_))
    (case aL => have := LMc40.out; omega)
    intro v406 w51 ho hb hg hat
    rw [← Ny405.out] at ho
    replace BK376 := Aside0.mk (blk_grown (g := gb376) (o := .cells #[.int .i64 0, .int .i64 0, .slice none 0 0] 26 (0, 0)) B9x29_ hg (Kd.R_ne HO381.out BK376.out (by decide)))
    replace BK384 := Aside0.mk (blk_grown (g := gb384) (o := .cells #[.int .i64 t377, .int .i64 t378, .slice Ao47 t379.length co47] 26 (0, 0)) B9x30_ hg (Kd.R_ne HO381.out BK384.out (by decide)))
    replace HB := Aside0.mk (below_weaken B9x2_ HL.out hb)
    replace HI0 := Aside0.mk (IsS107.grown (by repeat (first | (with_reducible first | exact HI0.out | apply IsS107.alloc | apply IsS107.drewN | apply IsS107.drew | apply IsS107.set_1 | apply IsS107.set_2 | apply IsS107.far (p := ⟨gb376, _, none⟩) (hne := NB0_376.out) | apply IsS107.far (p := ⟨gb384, _, none⟩) (hne := NB0_384.out)) | exact HI0.out)) hg (IsS107.own_ne HI0.out HO381.out (by decide)))
    replace HK := Aside0.mk (KeepBut.trans B9x1_ (KeepBut.of_grown hg g) (Kd.R_base2 HO381.out))
    have HO407 := Aside0.mk (ho)
    clear HO381
    clear ho hb hg hat
    obtain ⟨Ao52, co52, eo52⟩ := Kd.R_slice HO407.out
    (first | subst eo52 | (injection eo52 with f1_ f2_ f3_; have f4_ := f1_.symm; have f5_ := f3_.symm; clear f1_ f2_ f3_; subst f4_; subst f5_))
    refine hK.out _ _ ⟨(blk_cell BK384.out 0).trans rfl, (blk_cell BK384.out 1).trans rfl, (blk_cell BK384.out 2).trans rfl⟩ (fun hHeld => ?_)
    clear hK K
    refine norm_ (a' := ?_) ?_ ?_
    rotate_left
    ·show Act.put _ (some 30) _ = _
     simp only [Act.put, List.setIfInBounds_toArray, List.set_cons_zero, List.set_cons_succ, i64_w, i32_w]
     rfl
    refine pu_ 6 31 HT_ ?_
    refine last_ (i := 7) (N := none) #[true, true, true, true, true, true, true, true] rfl rfl (one_of HT_.out B9x23_) (by decide) (fun K hK => ?_)
    have hs53 : w51.cell? ⟨gb384, 2, none⟩ = some (.slice Ao47 t379.length co47) := (blk_cell BK384.out 2).trans rfl
    have hfs53 := blk_frozen BK384.out 2
    have hns53_0 := NB376_384.out
    have hms53_0 := NB384_376.out
    refine skip_ (w1 := ?_) (by rfl) rfl ?_ ?_
    rotate_left
    ·go_simp
     rfl
    refine hK.out _ _ ?_
    clear hK K
    refine done_ (done_of HT_.out B9x23_) ?_
    obtain ⟨hcz54_0, hcz54_1, hcz54_2⟩ := cl3 BK384.out
    obtain ⟨hfz54_0, hfz54_1, hfz54_2⟩ := fr3 BK384.out
    have hnb55 := NB376_0.out
    have hnc55 := NB0_376.out
    obtain ⟨hcz56_0, hcz56_1, hcz56_2⟩ := cl3 BK376.out
    obtain ⟨hfz56_0, hfz56_1, hfz56_2⟩ := fr3 BK376.out
    try go_wp2
    refine bodyPost_ret (results_cell_row rfl _ _ gb376 26 #[.int .i64 t377, .int .i64 t378, .slice Ao52 y405.length co52] (0, 0) _ rfl B9x4_ Try.underlying26 rfl B9x23_) rfl ?_
    exact ⟨_, by first | rfl | (simp [errW_none, errW_some] <;> rfl) | (simp [*, errW_none, errW_some] <;> rfl), by (with_reducible repeat (first | apply Kd.R_alloc | apply Kd.R_drewN | apply Kd.R_drew)); exact Kd.R_mono (Kd.R_far (p := ⟨gb376, 2, none⟩) (Kd.R_far (p := ⟨gb376, 1, none⟩) (Kd.R_far (p := ⟨gb376, 0, none⟩) (Kd.R_far (p := ⟨gb384, 2, none⟩) (Kd.R_types (Kd.R_types HO407.out BK384.out (by decide)) BK376.out (by decide)) (fun _ hk => hk.1.2) (.slice Ao52 y405.length co52)) (fun _ hk => hk.2) (.int .i64 t377)) (fun _ hk => hk.2) (.int .i64 t378)) (fun _ hk => hk.2) (.slice Ao52 y405.length co52)) (fun _ hk => trivial), by repeat (first | (with_reducible first | exact HI0.out | apply IsS107.alloc | apply IsS107.drewN | apply IsS107.drew | apply IsS107.set_1 | apply IsS107.set_2 | refine IsS107.far ?_ NB0_376.out _ | refine IsS107.far ?_ NB0_384.out _) | exact HI0.out), by repeat (first | (with_reducible first | exact HB.out | apply below_alloc | apply pw_below_drewN | apply below_drew1 | refine below_set ?_ (IsS107.ge HI0.out) | refine below_set ?_ GE376.out | refine below_set ?_ GE384.out) | exact HB.out), by repeat (first | (with_reducible first | exact HK.out | apply KeepBut.set_ | apply keep_drewN | apply keep_drew | apply keep_alloc | refine keep_far ?_ GW376.out _ | refine keep_far ?_ GW384.out _) | exact HK.out)⟩
   ·rw [if_neg c38] at H
    have c38b0 := beq_eq_false_iff_ne.mpr c38
    have c38b1 := bne_iff_ne.mpr c38
    by_cases c57 : t385 = 3
    ·rw [if_pos c57] at H
     have c57b0 := beq_iff_eq.mpr c57
     have c57b1 := bne_eq_false_iff_eq.mpr c57
     clear c57
     obtain ⟨y408, hy408⟩ : ∃ y_ : List (S28), y_ = (([] : List (S28))) := ⟨_, rfl⟩
     replace H : ((spec_l01Once.f s0_0 t386 t387 2).bind fun bt411 => (spec_l06Any.l0 k bt411.1 0 s0_0 bt411.2.1 bt411.2.2 t377 t378 y408)) = some (r1, r2, r3, r4, r5) := by first | (rw [hy408]; with_reducible exact H) | (have H2_ := (Option.bind_some _ _).symm.trans H; rw [hy408]; with_reducible exact H2_) | (have H2_ := (Option.bind_some _ _).symm.trans H; with_reducible exact H2_) | with_reducible exact H | (rw [hy408]; exact H) | exact H
     have Ny408 := Aside0.mk hy408
     clear hy408
     replace H := bsi H
     obtain ⟨⟨t411, t412, t413⟩, A58, H⟩ := H
     (try dsimp only at H)
     have H' := Aside0.mk H
     clear H
     go_enter Try.func38, Try.ntmps38
     go_wp2_with (first | ((with_reducible refine gate_dst (N := 2) rfl ?_); refine box_event ?hg (N := 2) ?hd (cs := #[.int .i64 0, .int .i64 0, .slice none 0 0]) (t := 26) ?hr ?_; (case hd => rfl); (case hg => rfl); (case hr => exact B9x16_); intro gb376 hg w59 hbox hb; replace HB := Aside0.mk (below_step B9x7_ hb); have BK376 := Aside0.mk (hbox); have GW376 := Aside0.mk ((bs hg (keep_size HK.out))); have GE376 := Aside0.mk ((Nat.le_trans HW0.out (bs hg (keep_size HK.out)) : w0.heap.size ≤ gb376)); replace HK := Aside0.mk (KeepBut.trans B9x11_ (KeepBut.of_below hb g none) (.inl rfl)); have NB0_376 := Aside0.mk ((nl hg (IsS107.lt HI0.out))); have NB376_0 := Aside0.mk ((ng hg (IsS107.lt HI0.out))); replace HI0 := Aside0.mk (IsS107.below B9x6_ hb); clear hb hbox hg) | ((with_reducible refine gate_callee (f := 50) rfl ?_); refine goesL_ (some 8) rfl rfl Try.func50 B9x23_ rfl #[.pointer (some ⟨g, 0, none⟩)] rfl B9x3_ ?_; (with_reducible refine (spec_l06Right.calls k g s0_0 s0_1 s0_2 t377 t378 t379 t382 t383 w0 _ ?side1 ?side2 A2.out).mono ?_); (case side1 => exact B9x8_); (case side2 => exact B9x9_); rintro e w60 ⟨v380, rfl, ho0, hi, hb, hk⟩; refine ⟨_, rfl, ?_⟩; replace BK376 := Aside0.mk (kb hk BK376.out NB376_0.out); have HO381 := Aside0.mk (Kd.R_lower ho0 (keep_size (w := w) (g := g) (row := none) B9x5_)); replace HK := Aside0.mk (KeepBut.trans B9x5_ hk (.inl rfl)); replace HB := Aside0.mk (hb); replace HI0 := Aside0.mk (hi); (try clear hb hk hi); (try clear ho0)) | ((with_reducible refine gate_dst (N := 3) rfl ?_); refine box_event ?hg (N := 3) ?hd (cs := #[.int .i64 0, .int .i64 0, .slice none 0 0]) (t := 26) ?hr ?_; (case hd => rfl); (case hg => rfl); (case hr => exact B9x16_); intro gb384 hg w61 hbox hb; replace HO381 := Aside0.mk (Kd.R_below B9x14_ hb); replace HB := Aside0.mk (below_step B9x9_ hb); have BK384 := Aside0.mk (hbox); have GW384 := Aside0.mk ((bs hg (keep_size HK.out))); have GE384 := Aside0.mk ((Nat.le_trans HW0.out (bs hg (keep_size HK.out)) : w0.heap.size ≤ gb384)); replace HK := Aside0.mk (KeepBut.trans B9x5_ (KeepBut.of_below hb g none) (.inl rfl)); have NB376_384 := Aside0.mk ((nl hg (blk_lt BK376.out))); have NB384_376 := Aside0.mk ((ng hg (blk_lt BK376.out))); replace BK376 := Aside0.mk (bb BK376.out hb); have NB0_384 := Aside0.mk ((nl hg (IsS107.lt HI0.out))); have NB384_0 := Aside0.mk ((ng hg (IsS107.lt HI0.out))); replace HI0 := Aside0.mk (IsS107.below B9x8_ hb); clear hb hbox hg; have hnb62 := NB384_376.out; have hnc62 := NB376_384.out; have hnb63 := NB384_0.out; have hnc63 := NB0_384.out; obtain ⟨hcz64_0, hcz64_1, hcz64_2⟩ := cl3 BK384.out; obtain ⟨hfz64_0, hfz64_1, hfz64_2⟩ := fr3 BK384.out; obtain ⟨Ao65, co65, eo65⟩ := Kd.R_slice HO381.out; subst eo65) | ((with_reducible refine gate_callee (f := 41) rfl ?_); refine goesL_ (some 10) rfl rfl Try.func41 B9x23_ rfl #[.pointer (some ⟨g, 0, none⟩), .int .i64 40] rfl B9x3_ ?_; (with_reducible refine (spec_l01Below.calls g s0_0 t382 t383 40 t385 t386 t387 w0 _ ?side1 ?side2 A3.out).mono ?_); (case side1 => exact B9x0_); (case side2 => exact B9x2_); rintro e w66 ⟨rfl, hi, hb, hk⟩; refine ⟨_, rfl, ?_⟩; replace BK376 := Aside0.mk (KeepBut.blk hk (g' := gb376) (o := .cells #[.int .i64 0, .int .i64 0, .slice none 0 0] 26 (0, 0)) B9x4_ NB376_0.out (by simp)); replace HO381 := Aside0.mk (Kd.R_mono (Kd.R_keep (IsS107.apart (show IsS107 w0 _ g s0_0 t382 t383 from B9x0_) (by (with_reducible repeat (first | apply Kd.R_alloc | apply Kd.R_drewN | apply Kd.R_drew)); exact (Kd.R_mono (Kd.R_far (p := ⟨gb384, 2, none⟩) (Kd.R_far (p := ⟨gb384, 1, none⟩) (Kd.R_far (p := ⟨gb384, 0, none⟩) (Kd.R_types HO381.out BK384.out (by decide)) (fun _ hk => hk.2) (.int .i64 t377)) (fun _ hk => hk.2) (.int .i64 t378)) (fun _ hk => hk.2) (.slice Ao65 t379.length co65)) (fun _ h_ => h_.1))) (by decide)) hk (fun _ h => h.2)) (fun _ h => h.1)); replace BK384 := Aside0.mk (KeepBut.blk hk (g' := gb384) (o := .cells #[.int .i64 t377, .int .i64 t378, .slice Ao65 t379.length co65] 26 (0, 0)) B9x10_ NB384_0.out (by simp)); replace HK := Aside0.mk (KeepBut.trans B9x1_ hk (.inl rfl)); replace HB := Aside0.mk (hb); replace HI0 := Aside0.mk (hi); (try clear hb hk hi)) | ((with_reducible refine gate_dst (N := 34) rfl ?_); refine Kd.R_lit k28 _ 28 ?hg (N := 34) ?hd (xs := ([] : List (S28))) (inner := []) (ok := fun _ => True) (okp := fun _ => True) ?hr ?hp (fun _ hk => hk) trivial (Below.refl _ _) (Nat.le_refl _) (by simp) ?_; (case hd => rfl); (case hg => rfl); (case hr => exact B9x16_); (case hp => exact (Reps.none _ _)); intro v409 w67 ho68 hb hg_ hnew_; clear hg_ hnew_; (first | rw [← Ny408.out] at ho68 | (simp only [Int.reduceToNat] at ho68; rw [← Ny408.out] at ho68)); have HO410 := Aside0.mk (Kd.R_lower (Kd.R_new' ho68 (Kd.R_lt B9x14_)) (keep_size (w := w) (g := g) (row := none) B9x1_)); replace HO381 := Aside0.mk (Kd.R_elder' B9x14_ (Kd.R_base ho68) hb); replace BK376 := Aside0.mk (bb BK376.out hb); replace BK384 := Aside0.mk (bb BK384.out hb); replace HK := Aside0.mk (KeepBut.trans B9x1_ (KeepBut.of_below hb g none) (.inl rfl)); replace HB := Aside0.mk (below_step B9x2_ hb); replace HI0 := Aside0.mk (IsS107.below B9x0_ hb); clear hb ho68; obtain ⟨Ao69, co69, eo69⟩ := Kd.R_slice HO410.out; subst eo69; obtain ⟨hcz70_0, hcz70_1, hcz70_2⟩ := cl3 BK384.out; obtain ⟨hfz70_0, hfz70_1, hfz70_2⟩ := fr3 BK384.out) | ((with_reducible refine gate_callee (f := 42) rfl ?_); refine goesL_ (some 37) rfl rfl Try.func42 B9x23_ rfl #[.pointer (some ⟨g, 0, none⟩), .int .i64 2] rfl B9x3_ ?_; (with_reducible refine (spec_l01Once.calls g s0_0 t386 t387 2 t411 t412 t413 w0 _ ?side1 ?side2 A58.out).mono ?_); (case side1 => exact B9x0_); (case side2 => exact B9x2_); rintro e w71 ⟨rfl, hi, hb, hk⟩; refine ⟨_, rfl, ?_⟩; replace BK376 := Aside0.mk (KeepBut.blk hk (g' := gb376) (o := .cells #[.int .i64 0, .int .i64 0, .slice none 0 0] 26 (0, 0)) B9x4_ NB376_0.out (by simp)); replace HO381 := Aside0.mk (Kd.R_mono (Kd.R_keep (IsS107.apart (show IsS107 w0 _ g s0_0 t386 t387 from B9x0_) (by (with_reducible repeat (first | apply Kd.R_alloc | apply Kd.R_drewN | apply Kd.R_drew)); exact (Kd.R_mono (Kd.R_far (p := ⟨gb384, 2, none⟩) (Kd.R_types HO381.out BK384.out (by decide)) (fun _ hk => hk.2) (.slice Ao69 y408.length co69)) (fun _ h_ => h_.1))) (by decide)) hk (fun _ h => h.2)) (fun _ h => h.1)); replace HO410 := Aside0.mk (Kd.R_mono (Kd.R_keep (IsS107.apart (show IsS107 w0 _ g s0_0 t386 t387 from B9x0_) (by (with_reducible repeat (first | apply Kd.R_alloc | apply Kd.R_drewN | apply Kd.R_drew)); exact (Kd.R_mono (Kd.R_far (p := ⟨gb384, 2, none⟩) (Kd.R_types HO410.out BK384.out (by decide)) (fun _ hk => hk.2) (.slice Ao69 y408.length co69)) (fun _ h_ => h_.1))) (by decide)) hk (fun _ h => h.2)) (fun _ h => h.1)); replace BK384 := Aside0.mk (KeepBut.blk hk (g' := gb384) (o := .cells #[.int .i64 t377, .int .i64 t378, .slice Ao69 y408.length co69] 26 (0, 0)) B9x10_ NB384_0.out (by simp)); replace HK := Aside0.mk (KeepBut.trans B9x1_ hk (.inl rfl)); replace HB := Aside0.mk (hb); replace HI0 := Aside0.mk (hi); (try clear hb hk hi)))
     go_loopg [5] k (fun kq v5 w' => ∃ (x5_1 : Int) (x1001_1 : Int) (x1002_1 : Int) (x385002_1 : List (S28)) (u385002 : Value), v5 = .int .i64 x5_1 ∧ Aside0 (spec_l06Any.l0 kq t411 x5_1 s0_0 x1001_1 x1002_1 t377 t378 x385002_1 = some (r1, r2, r3, r4, r5)) ∧ Aside0 (kq ≤ k) ∧ Aside0 (Kd.R k28 28 w' w.heap.size (fun _ => True) u385002 x385002_1) ∧ Aside0 (w'.heap[gb376]? = some (.cells #[.int .i64 0, .int .i64 0, (.slice none 0 0)] 26 (0, 0))) ∧ Aside0 (w'.heap[gb384]? = some (.cells #[.int .i64 t377, .int .i64 t378, u385002] 26 (0, 0))) ∧ Aside0 (IsS107 w0 w' g s0_0 x1001_1 x1002_1) ∧ Aside0 (KeepBut w w' g none) ∧ Aside0 (Below w0.heap.size w0 w'))
     case atStart => exact ⟨(0), (t412), (t413), (y408), (.slice Ao69 y408.length co69), (be_), H', ⟨Nat.le_refl _⟩, ⟨(by (with_reducible repeat (first | apply Kd.R_alloc | apply Kd.R_drewN | apply Kd.R_drew)); exact Kd.R_mono HO410.out (fun _ hk => trivial))⟩, ⟨B9x29_⟩, ⟨B9x30_⟩, ⟨B9x0_⟩, ⟨B9x1_⟩, ⟨B9x2_⟩⟩
     case round =>
      clear H'
      try clear c4
      try clear c4b0
      try clear c4b1
      try clear c21
      try clear c21b0
      try clear c21b1
      try clear c38
      try clear c38b0
      try clear c38b1
      try clear c57
      try clear c57b0
      try clear c57b1
      try clear hcz64_0
      try clear hcz64_1
      try clear hcz64_2
      try clear hcz70_0
      try clear hcz70_1
      try clear hcz70_2
      try clear hfz64_0
      try clear hfz64_1
      try clear hfz64_2
      try clear hfz70_0
      try clear hfz70_1
      try clear hfz70_2
      obtain ⟨x5_1, x1001_1, x1002_1, x385002_1, u385002, rfl, HA, HK1, HO_385002, BK376, BK384, HI0, HK, HB⟩ := hrel
      cases gk with
      | zero => exact absurd HA.out (by simp [spec_l06Any.l0])
      | succ k1 =>
       have H := HA.out
       clear HA
       simp only [spec_l06Any.l0] at H
       replace H := bsi H
       obtain ⟨⟨t414, t415, t416⟩, A72, H⟩ := H
       (try dsimp only at H)
       by_cases c73 : x5_1 < (wrap64 (60 + t414))
       ·rw [if_pos c73] at H
        have c73b0 : decide (x5_1 < (wrap64 (60 + t414))) = true := decide_eq_true c73
        clear c73
        by_cases c74 : t411 = true
        ·subst c74
         rw [if_pos rfl] at H
         replace H := bsi H
         obtain ⟨t418, A75, H⟩ := H
         (try dsimp only at H)
         by_cases c76 : x385002_1.length < 4398046511104
         rotate_left
         ·rw [if_neg c76] at H
          exact absurd H (by simp)
         rw [if_pos c76] at H
         have LMc76 := Aside0.mk c76
         clear c76
         obtain ⟨y419, hy419⟩ : ∃ y_ : List (S28), y_ = (x385002_1 ++ [(⟨t378, 3, t418⟩ : S28)]) := ⟨_, rfl⟩
         replace H : (spec_l06Any.l0 k1 true (wrap64 (x5_1 + 1)) s0_0 t415 t416 t377 t378 y419) = some (r1, r2, r3, r4, r5) := by first | (rw [hy419]; with_reducible exact H) | (have H2_ := (Option.bind_some _ _).symm.trans H; rw [hy419]; with_reducible exact H2_) | (have H2_ := (Option.bind_some _ _).symm.trans H; with_reducible exact H2_) | with_reducible exact H | (rw [hy419]; exact H) | exact H
         have Ny419 := Aside0.mk hy419
         clear hy419
         have H' := Aside0.mk H
         clear H
         try go_wp2_with (first | ((with_reducible refine gate_callee (f := 41) rfl ?_); refine goesL_ (some 40) rfl rfl Try.func41 B9x23_ rfl #[.pointer (some ⟨g, 0, none⟩), .int .i64 2] rfl B9x3_ ?_; (with_reducible refine (spec_l01Below.calls g s0_0 x1001_1 x1002_1 2 t414 t415 t416 w0 _ ?side1 ?side2 A72.out).mono ?_); (case side1 => exact B9x0_); (case side2 => exact B9x2_); rintro e w77 ⟨rfl, hi, hb, hk⟩; refine ⟨_, rfl, ?_⟩; replace HO_385002 := Aside0.mk (Kd.R_mono (Kd.R_keep (IsS107.apart (show IsS107 w0 _ g s0_0 x1001_1 x1002_1 from B9x0_) B9x21_ (by decide)) hk (fun _ h => h.2)) (fun _ h => h.1)); replace BK376 := Aside0.mk (kb hk BK376.out NB376_0.out); replace BK384 := Aside0.mk (kb hk BK384.out NB384_0.out); replace HK := Aside0.mk (KeepBut.trans B9x1_ hk (.inl rfl)); replace HB := Aside0.mk (hb); replace HI0 := Aside0.mk (hi); (try clear hb hk hi); have hnb78 := NB384_376.out; have hnc78 := NB376_384.out; have hnb79 := NB384_0.out; have hnc79 := NB0_384.out; obtain ⟨hcz80_0, hcz80_1, hcz80_2⟩ := cl3 BK384.out; obtain ⟨hfz80_0, hfz80_1, hfz80_2⟩ := fr3 BK384.out) | ((with_reducible refine gate_dst (N := 6) rfl ?_); refine box_event ?hg (N := 6) ?hd (cs := #[.int .i64 0, .int .i64 0, .string (⟨#[]⟩ : ByteArray)]) (t := 28) ?hr ?_; (case hd => rfl); (case hg => rfl); (case hr => exact B9x16_); intro gb417 hg w81 hbox hb; replace HO_385002 := Aside0.mk (Kd.R_below (Kd.R_elderB B9x21_ gb417 (Nat.le_of_eq hg.symm)) hb); replace HB := Aside0.mk (below_step B9x2_ hb); have BK417 := Aside0.mk (hbox); have GW417 := Aside0.mk ((bs hg (keep_size HK.out))); have GE417 := Aside0.mk ((Nat.le_trans HW0.out (bs hg (keep_size HK.out)) : w0.heap.size ≤ gb417)); replace HK := Aside0.mk (KeepBut.trans B9x1_ (KeepBut.of_below hb g none) (.inl rfl)); have NB376_417 := Aside0.mk ((nl hg (blk_lt BK376.out))); have NB417_376 := Aside0.mk ((ng hg (blk_lt BK376.out))); replace BK376 := Aside0.mk (bb BK376.out hb); have NB384_417 := Aside0.mk ((nl hg (blk_lt BK384.out))); have NB417_384 := Aside0.mk ((ng hg (blk_lt BK384.out))); replace BK384 := Aside0.mk (bb BK384.out hb); have NB0_417 := Aside0.mk ((nl hg (IsS107.lt HI0.out))); have NB417_0 := Aside0.mk ((ng hg (IsS107.lt HI0.out))); replace HI0 := Aside0.mk (IsS107.below B9x0_ hb); clear hb hbox hg; have hnb82 := NB417_376.out; have hnc82 := NB376_417.out; have hnb83 := NB417_384.out; have hnc83 := NB384_417.out; have hnb84 := NB417_0.out; have hnc84 := NB0_417.out; obtain ⟨hcz85_0, hcz85_1, hcz85_2⟩ := cl3 BK417.out; obtain ⟨hfz85_0, hfz85_1, hfz85_2⟩ := fr3 BK417.out))
         have n0_ : Aside0 (Kd.R k28 28 (((w81.setCell ⟨gb417, 0, none⟩ (.int .i64 t378)).setCell ⟨gb417, 1, none⟩ (.int .i64 1)).setCell ⟨gb417, 2, none⟩ (.string (⟨#[]⟩ : ByteArray))) w.heap.size (fun k_ => k_ ≠ gb417) u385002 x385002_1) := ⟨B9x22_⟩
         have n1_ : Aside0 ((((w81.setCell ⟨gb417, 0, none⟩ (.int .i64 t378)).setCell ⟨gb417, 1, none⟩ (.int .i64 1)).setCell ⟨gb417, 2, none⟩ (.string (⟨#[]⟩ : ByteArray))).heap[gb376]? = some (.cells #[.int .i64 0, .int .i64 0, .slice none 0 0] 26 (0, 0))) := ⟨B9x19_⟩
         have n2_ : Aside0 ((((w81.setCell ⟨gb417, 0, none⟩ (.int .i64 t378)).setCell ⟨gb417, 1, none⟩ (.int .i64 1)).setCell ⟨gb417, 2, none⟩ (.string (⟨#[]⟩ : ByteArray))).heap[gb384]? = some (.cells #[.int .i64 t377, .int .i64 t378, u385002] 26 (0, 0))) := ⟨B9x20_⟩
         have n3_ : Aside0 ((((w81.setCell ⟨gb417, 0, none⟩ (.int .i64 t378)).setCell ⟨gb417, 1, none⟩ (.int .i64 1)).setCell ⟨gb417, 2, none⟩ (.string (⟨#[]⟩ : ByteArray))).heap[gb417]? = some (.cells #[.int .i64 t378, .int .i64 1, .string (⟨#[]⟩ : ByteArray)] 28 (0, 0))) := ⟨B9x15_⟩
         have n4_ : Aside0 (IsS107 w0 (((w81.setCell ⟨gb417, 0, none⟩ (.int .i64 t378)).setCell ⟨gb417, 1, none⟩ (.int .i64 1)).setCell ⟨gb417, 2, none⟩ (.string (⟨#[]⟩ : ByteArray))) g s0_0 t415 t416) := ⟨B9x17_⟩
         have n5_ : Aside0 (KeepBut w (((w81.setCell ⟨gb417, 0, none⟩ (.int .i64 t378)).setCell ⟨gb417, 1, none⟩ (.int .i64 1)).setCell ⟨gb417, 2, none⟩ (.string (⟨#[]⟩ : ByteArray))) g none) := ⟨B9x12_⟩
         have n6_ : Aside0 (Below w0.heap.size w0 (((w81.setCell ⟨gb417, 0, none⟩ (.int .i64 t378)).setCell ⟨gb417, 1, none⟩ (.int .i64 1)).setCell ⟨gb417, 2, none⟩ (.string (⟨#[]⟩ : ByteArray)))) := ⟨B9x13_⟩
         (try clear HO_385002)
         (try clear BK376)
         (try clear BK384)
         (try clear BK417)
         (try clear HI0)
         (try clear HK)
         (try clear HB)
         generalize (((w81.setCell ⟨gb417, 0, none⟩ (.int .i64 t378)).setCell ⟨gb417, 1, none⟩ (.int .i64 1)).setCell ⟨gb417, 2, none⟩ (.string (⟨#[]⟩ : ByteArray))) = w86 at n0_ n1_ n2_ n3_ n4_ n5_ n6_ ⊢
         have HO_385002 := n0_
         have BK376 := n1_
         have BK384 := n2_
         have BK417 := n3_
         have HI0 := n4_
         have HK := n5_
         have HB := n6_
         clear n0_ n1_ n2_ n3_ n4_ n5_ n6_
         replace HO_385002 := Aside0.mk (Kd.R_drew HO_385002.out)
         replace BK376 := Aside0.mk (blk_drew BK376.out)
         replace BK384 := Aside0.mk (blk_drew BK384.out)
         replace BK417 := Aside0.mk (blk_drew BK417.out)
         replace HI0 := Aside0.mk (IsS107.drew HI0.out)
         replace HK := Aside0.mk (keep_drew HK.out)
         replace HB := Aside0.mk (below_drew1 HB.out)
         refine start_ (n := 5) (S := fun w' => w'.cell? ⟨gb384, 0, none⟩ = some (.int .i64 t377) ∧ w'.cell? ⟨gb384, 1, none⟩ = some (.int .i64 t378) ∧ w'.cell? ⟨gb384, 2, none⟩ = some (u385002)) (ds := []) #[false, false, false, false, false] B9x23_ rfl rfl ⟨(blk_cell BK384.out 0).trans rfl, (blk_cell BK384.out 1).trans rfl, (blk_cell BK384.out 2).trans rfl⟩ (fun hHeld => ?_)
         generalize w86.drew = w87 at HO_385002 BK376 BK384 BK417 HI0 HK HB hHeld ⊢
         refine pure_ (i := 0) (N := some 49) (v := ?_) (a' := ?_) #[true, false, false, false, false] rfl rfl B9x23_ (fun _ _ _ h => h) (Or.inl ⟨by rfl, ?_⟩) ?_ ?_
         rotate_left
         ·intro w'
          go_simp
          with_reducible rfl
         rotate_left
         ·simp only [Act.put, List.setIfInBounds_toArray, List.set_cons_zero, List.set_cons_succ, i64_w, i32_w]
          rfl
         refine take_ (i := 1) (N := some 50) (v := ?_) (a' := ?_) #[true, true, false, false, false] rfl rfl B9x23_ (fun _ _ _ h => h) (Or.inl ⟨by rfl, ?_⟩) hHeld ?_ ?_
         rotate_left
         ·rintro w' ⟨s0, s1, s2⟩
          go_simp
          with_reducible rfl
         rotate_left
         ·simp only [Act.put, List.setIfInBounds_toArray, List.set_cons_zero, List.set_cons_succ, i64_w, i32_w]
          rfl
         refine one_ (i := 2) (N := some 51) #[true, true, true, false, false] rfl rfl B9x23_ (by decide) (fun K hK => ?_)
         refine goes_ Try.func81 B9x23_ rfl #[.int .i64 120, .int .u8 66] (by rfl) rfl rfl B9x3_ ?_
         with_reducible refine (spec_l01Long.calls k1 120 66 t418 _ A75.out).mono ?_
         rintro e w88 ⟨rfl, hb⟩
         refine ⟨_, rfl, ?_⟩
         replace HO_385002 := Aside0.mk (Kd.R_below B9x21_ hb)
         replace BK376 := Aside0.mk (bb BK376.out hb)
         replace BK384 := Aside0.mk (bb BK384.out hb)
         replace BK417 := Aside0.mk (bb BK417.out hb)
         replace HK := Aside0.mk (KeepBut.trans B9x12_ (KeepBut.of_below hb g none) (.inl rfl))
         replace HB := Aside0.mk (below_step B9x13_ hb)
         replace HI0 := Aside0.mk (IsS107.below B9x17_ hb)
         (try clear hb)
         (try clear hb2)
         (try clear hk)
         (try clear hi)
         refine hK.out _ _ ⟨(blk_cell BK384.out 0).trans rfl, (blk_cell BK384.out 1).trans rfl, (blk_cell BK384.out 2).trans rfl⟩ (fun hHeld => ?_)
         clear hK K
         refine norm_ (a' := ?_) ?_ ?_
         rotate_left
         ·show Act.put _ (some 51) _ = _
          simp only [Act.put, List.setIfInBounds_toArray, List.set_cons_zero, List.set_cons_succ, i64_w, i32_w]
          rfl
         refine pure_ (i := 3) (N := some 52) (v := ?_) (a' := ?_) #[true, true, true, true, false] rfl rfl B9x23_ (fun _ _ _ h => h) (Or.inl ⟨by rfl, ?_⟩) ?_ ?_
         rotate_left
         ·intro w'
          go_simp
          with_reducible rfl
         rotate_left
         ·simp only [Act.put, List.setIfInBounds_toArray, List.set_cons_zero, List.set_cons_succ, i64_w, i32_w]
          rfl
         refine one_ (i := 4) (N := none) #[true, true, true, true, true] rfl rfl B9x23_ (by decide) (fun K hK => ?_)
         have hs89 : w88.cell? ⟨gb417, 0, none⟩ = some (.int .i64 t378) := (blk_cell BK417.out 0).trans rfl
         have hfs89 := blk_frozen BK417.out 0
         have hns89_0 := NB376_417.out
         have hns89_1 := NB384_417.out
         have hms89_0 := NB417_376.out
         have hms89_1 := NB417_384.out
         have hs90 : w88.cell? ⟨gb417, 1, none⟩ = some (.int .i64 1) := (blk_cell BK417.out 1).trans rfl
         have hfs90 := blk_frozen BK417.out 1
         have hns90_0 := NB376_417.out
         have hns90_1 := NB384_417.out
         have hms90_0 := NB417_376.out
         have hms90_1 := NB417_384.out
         have hs91 : w88.cell? ⟨gb417, 2, none⟩ = some (.string (⟨#[]⟩ : ByteArray)) := (blk_cell BK417.out 2).trans rfl
         have hfs91 := blk_frozen BK417.out 2
         have hns91_0 := NB376_417.out
         have hns91_1 := NB384_417.out
         have hms91_0 := NB417_376.out
         have hms91_1 := NB417_384.out
         refine skip_ (w1 := ?_) (by rfl) rfl ?_ ?_
         rotate_left
         ·go_simp
          rfl
         refine hK.out _ _ ⟨((cell_far (p := ⟨gb417, _, none⟩) NB384_417.out _).trans (((cell_far (p := ⟨gb417, _, none⟩) NB384_417.out _).trans (((cell_far (p := ⟨gb417, _, none⟩) NB384_417.out _).trans (hHeld.1)))))), ((cell_far (p := ⟨gb417, _, none⟩) NB384_417.out _).trans (((cell_far (p := ⟨gb417, _, none⟩) NB384_417.out _).trans (((cell_far (p := ⟨gb417, _, none⟩) NB384_417.out _).trans (hHeld.2.1)))))), ((cell_far (p := ⟨gb417, _, none⟩) NB384_417.out _).trans (((cell_far (p := ⟨gb417, _, none⟩) NB384_417.out _).trans (((cell_far (p := ⟨gb417, _, none⟩) NB384_417.out _).trans (hHeld.2.2))))))⟩ (fun hHeld => ?_)
         clear hK K
         refine done_ B9x23_ ?_
         obtain ⟨hcz92_0, hcz92_1, hcz92_2⟩ := cl3 BK384.out
         obtain ⟨hfz92_0, hfz92_1, hfz92_2⟩ := fr3 BK384.out
         obtain ⟨hcz93_0, hcz93_1, hcz93_2⟩ := cl3 BK417.out
         obtain ⟨hfz93_0, hfz93_1, hfz93_2⟩ := fr3 BK417.out
         try go_wp2_with (first | ((with_reducible refine gate_builtin (b := .append) (xs := #[.tmp 54, .tmp 56]) rfl ?_); at_builtin; refine Kd.R_append k28 w.heap.size rfl (.tmp 54) (.tmp 56) 24 28 (.agg #[(.int .i64 0), (.int .i64 0), (.string ⟨#[]⟩)]) 32 rfl Try.underlying24 info28 rfl (by decide) (by omega) u385002 x385002_1 (⟨t378, 3, t418⟩ : S28) [.int .i64 t378, .int .i64 3, .string t418] (fun k_ => k_ ≠ gb417) (fun _ => False) rfl B9x16_ ?aP (fun _ hk => hk.elim) ?aF ?aO (Below.refl _ _) ?aS ?aL ?_; (case aP => exact k28_mkM _ _ _ (⟨t378, 3, t418⟩ : S28)); (case aF => exact (fun k_ hk => Kd.freshB (g := gb417) (o := .cells #[.int .i64 t378, .int .i64 3, .string t418] 28 (0, 0)) B9x15_ k_ hk)); (case aO => (with_reducible repeat (first | apply Kd.R_alloc | apply Kd.R_drewN | apply Kd.R_drew)); exact Kd.R_mono (Kd.R_far (p := ⟨gb417, 2, none⟩) (Kd.R_far (p := ⟨gb417, 1, none⟩) (Kd.R_far (p := ⟨gb417, 0, none⟩) (Kd.R_mono HO_385002.out (fun k_ hk => (⟨hk, hk⟩ : _ ∧ k_ ≠ gb417))) (fun _ hk => hk.2) (.int .i64 t378)) (fun _ hk => hk.2) (.int .i64 3)) (fun _ hk => hk.2) (.string t418)) (fun _ hk => hk.1)); (case aS => exact B9x31_); (case aL => have := LMc76.out; omega); intro v420 w94 ho hb hg hat; rw [← Ny419.out] at ho; replace BK376 := Aside0.mk (blk_grown (g := gb376) (o := .cells #[.int .i64 0, .int .i64 0, .slice none 0 0] 26 (0, 0)) B9x19_ hg (Kd.R_ne HO_385002.out BK376.out (by decide))); replace BK384 := Aside0.mk (blk_grown (g := gb384) (o := .cells #[.int .i64 t377, .int .i64 t378, u385002] 26 (0, 0)) B9x20_ hg (Kd.R_ne HO_385002.out BK384.out (by decide))); replace BK417 := Aside0.mk (blk_grown (g := gb417) (o := .cells #[.int .i64 t378, .int .i64 3, .string t418] 28 (0, 0)) B9x15_ hg (Kd.R_away HO_385002.out (fun _ hk => hk))); replace HB := Aside0.mk (below_weaken B9x13_ HL.out hb); replace HI0 := Aside0.mk (IsS107.grown B9x24_ hg (IsS107.own_ne HI0.out HO_385002.out (by decide))); replace HK := Aside0.mk (KeepBut.trans B9x12_ (KeepBut.of_grown hg g) (Kd.R_base2 HO_385002.out)); have HO421 := Aside0.mk (ho); clear HO_385002; clear ho hb hg hat; obtain ⟨Ao95, co95, eo95⟩ := Kd.R_slice HO421.out; subst eo95; obtain ⟨hcz96_0, hcz96_1, hcz96_2⟩ := cl3 BK384.out; obtain ⟨hfz96_0, hfz96_1, hfz96_2⟩ := fr3 BK384.out))
         go_roundg k1
         case measure => have := HK1.out; omega
         case rel => exact ⟨(wrap64 (x5_1 + 1)), (t415), (t416), (y419), (.slice Ao95 y419.length co95), (be_), H', ⟨(by have := HK1.out; omega)⟩, ⟨(by (with_reducible repeat (first | apply Kd.R_alloc | apply Kd.R_drewN | apply Kd.R_drew)); exact Kd.R_mono (Kd.R_far (p := ⟨gb384, 2, none⟩) (Kd.R_types HO421.out BK384.out (by decide)) (fun _ hk => hk.2) (.slice Ao95 y419.length co95)) (fun _ hk => trivial))⟩, ⟨B9x4_⟩, ⟨B9x10_⟩, ⟨B9x17_⟩, ⟨B9x12_⟩, ⟨B9x13_⟩⟩
        ·replace c74 := Bool.eq_false_iff.mpr c74
         subst c74
         rw [if_neg (show ¬ (false = true) by decide)] at H
         by_cases c97 : x385002_1.length < 4398046511104
         rotate_left
         ·rw [if_neg c97] at H
          exact absurd H (by simp)
         rw [if_pos c97] at H
         have LMc97 := Aside0.mk c97
         clear c97
         obtain ⟨y422, hy422⟩ : ∃ y_ : List (S28), y_ = (x385002_1 ++ [(⟨t378, 1, (⟨#[]⟩ : ByteArray)⟩ : S28)]) := ⟨_, rfl⟩
         replace H : (spec_l06Any.l0 k1 false (wrap64 (x5_1 + 1)) s0_0 t415 t416 t377 t378 y422) = some (r1, r2, r3, r4, r5) := by first | (rw [hy422]; with_reducible exact H) | (have H2_ := (Option.bind_some _ _).symm.trans H; rw [hy422]; with_reducible exact H2_) | (have H2_ := (Option.bind_some _ _).symm.trans H; with_reducible exact H2_) | with_reducible exact H | (rw [hy422]; exact H) | exact H
         have Ny422 := Aside0.mk hy422
         clear hy422
         have H' := Aside0.mk H
         clear H
         go_wp2_with (first | ((with_reducible refine gate_callee (f := 41) rfl ?_); refine goesL_ (some 40) rfl rfl Try.func41 B9x23_ rfl #[.pointer (some ⟨g, 0, none⟩), .int .i64 2] rfl B9x3_ ?_; (with_reducible refine (spec_l01Below.calls g s0_0 x1001_1 x1002_1 2 t414 t415 t416 w0 _ ?side1 ?side2 A72.out).mono ?_); (case side1 => exact B9x0_); (case side2 => exact B9x2_); rintro e w98 ⟨rfl, hi, hb, hk⟩; refine ⟨_, rfl, ?_⟩; replace HO_385002 := Aside0.mk (Kd.R_mono (Kd.R_keep (IsS107.apart (show IsS107 w0 _ g s0_0 x1001_1 x1002_1 from B9x0_) B9x21_ (by decide)) hk (fun _ h => h.2)) (fun _ h => h.1)); replace BK376 := Aside0.mk (kb hk BK376.out NB376_0.out); replace BK384 := Aside0.mk (kb hk BK384.out NB384_0.out); replace HK := Aside0.mk (KeepBut.trans B9x1_ hk (.inl rfl)); replace HB := Aside0.mk (hb); replace HI0 := Aside0.mk (hi); (try clear hb hk hi); have hnb99 := NB384_376.out; have hnc99 := NB376_384.out; have hnb100 := NB384_0.out; have hnc100 := NB0_384.out; obtain ⟨hcz101_0, hcz101_1, hcz101_2⟩ := cl3 BK384.out; obtain ⟨hfz101_0, hfz101_1, hfz101_2⟩ := fr3 BK384.out) | ((with_reducible refine gate_dst (N := 6) rfl ?_); refine box_event ?hg (N := 6) ?hd (cs := #[.int .i64 0, .int .i64 0, .string (⟨#[]⟩ : ByteArray)]) (t := 28) ?hr ?_; (case hd => rfl); (case hg => rfl); (case hr => exact B9x16_); intro gb417 hg w102 hbox hb; replace HO_385002 := Aside0.mk (Kd.R_below (Kd.R_elderB B9x21_ gb417 (Nat.le_of_eq hg.symm)) hb); replace HB := Aside0.mk (below_step B9x2_ hb); have BK417 := Aside0.mk (hbox); have GW417 := Aside0.mk ((bs hg (keep_size HK.out))); have GE417 := Aside0.mk ((Nat.le_trans HW0.out (bs hg (keep_size HK.out)) : w0.heap.size ≤ gb417)); replace HK := Aside0.mk (KeepBut.trans B9x1_ (KeepBut.of_below hb g none) (.inl rfl)); have NB376_417 := Aside0.mk ((nl hg (blk_lt BK376.out))); have NB417_376 := Aside0.mk ((ng hg (blk_lt BK376.out))); replace BK376 := Aside0.mk (bb BK376.out hb); have NB384_417 := Aside0.mk ((nl hg (blk_lt BK384.out))); have NB417_384 := Aside0.mk ((ng hg (blk_lt BK384.out))); replace BK384 := Aside0.mk (bb BK384.out hb); have NB0_417 := Aside0.mk ((nl hg (IsS107.lt HI0.out))); have NB417_0 := Aside0.mk ((ng hg (IsS107.lt HI0.out))); replace HI0 := Aside0.mk (IsS107.below B9x0_ hb); clear hb hbox hg; have hnb103 := NB417_376.out; have hnc103 := NB376_417.out; have hnb104 := NB417_384.out; have hnc104 := NB384_417.out; have hnb105 := NB417_0.out; have hnc105 := NB0_417.out; obtain ⟨hcz106_0, hcz106_1, hcz106_2⟩ := cl3 BK417.out; obtain ⟨hfz106_0, hfz106_1, hfz106_2⟩ := fr3 BK417.out; obtain ⟨hcz107_0, hcz107_1, hcz107_2⟩ := cl3 BK384.out; obtain ⟨hfz107_0, hfz107_1, hfz107_2⟩ := fr3 BK384.out) | ((with_reducible refine gate_builtin (b := .append) (xs := #[.tmp 54, .tmp 56]) rfl ?_); at_builtin; refine Kd.R_append k28 w.heap.size rfl (.tmp 54) (.tmp 56) 24 28 (.agg #[(.int .i64 0), (.int .i64 0), (.string ⟨#[]⟩)]) 32 rfl Try.underlying24 info28 rfl (by decide) (by omega) u385002 x385002_1 (⟨t378, 1, (⟨#[]⟩ : ByteArray)⟩ : S28) [.int .i64 t378, .int .i64 1, .string (⟨#[]⟩ : ByteArray)] (fun k_ => k_ ≠ gb417) (fun _ => False) rfl B9x16_ ?aP (fun _ hk => hk.elim) ?aF ?aO (Below.refl _ _) ?aS ?aL ?_; (case aP => exact k28_mkM _ _ _ (⟨t378, 1, (⟨#[]⟩ : ByteArray)⟩ : S28)); (case aF => exact (fun k_ hk => Kd.freshB (g := gb417) (o := .cells #[.int .i64 t378, .int .i64 1, .string (⟨#[]⟩ : ByteArray)] 28 (0, 0)) B9x15_ k_ hk)); (case aO => exact B9x22_); (case aS => exact B9x31_); (case aL => have := LMc97.out; omega); intro v423 w108 ho hb hg hat; rw [← Ny422.out] at ho; replace BK376 := Aside0.mk (blk_grown (g := gb376) (o := .cells #[.int .i64 0, .int .i64 0, .slice none 0 0] 26 (0, 0)) B9x19_ hg (Kd.R_ne HO_385002.out BK376.out (by decide))); replace BK384 := Aside0.mk (blk_grown (g := gb384) (o := .cells #[.int .i64 t377, .int .i64 t378, u385002] 26 (0, 0)) B9x20_ hg (Kd.R_ne HO_385002.out BK384.out (by decide))); replace BK417 := Aside0.mk (blk_grown (g := gb417) (o := .cells #[.int .i64 t378, .int .i64 1, .string (⟨#[]⟩ : ByteArray)] 28 (0, 0)) B9x15_ hg (Kd.R_away HO_385002.out (fun _ hk => hk.2))); replace HB := Aside0.mk (below_weaken B9x13_ HL.out hb); replace HI0 := Aside0.mk (IsS107.grown B9x24_ hg (IsS107.own_ne HI0.out HO_385002.out (by decide))); replace HK := Aside0.mk (KeepBut.trans B9x12_ (KeepBut.of_grown hg g) (Kd.R_base2 HO_385002.out)); have HO424 := Aside0.mk (ho); clear HO_385002; clear ho hb hg hat; obtain ⟨Ao109, co109, eo109⟩ := Kd.R_slice HO424.out; subst eo109; obtain ⟨hcz110_0, hcz110_1, hcz110_2⟩ := cl3 BK384.out; obtain ⟨hfz110_0, hfz110_1, hfz110_2⟩ := fr3 BK384.out))
         go_roundg k1
         case measure => have := HK1.out; omega
         case rel => exact ⟨(wrap64 (x5_1 + 1)), (t415), (t416), (y422), (.slice Ao109 y422.length co109), (be_), H', ⟨(by have := HK1.out; omega)⟩, ⟨(by (with_reducible repeat (first | apply Kd.R_alloc | apply Kd.R_drewN | apply Kd.R_drew)); exact Kd.R_mono (Kd.R_far (p := ⟨gb384, 2, none⟩) (Kd.R_types HO424.out BK384.out (by decide)) (fun _ hk => hk.2) (.slice Ao109 y422.length co109)) (fun _ hk => trivial))⟩, ⟨B9x4_⟩, ⟨B9x10_⟩, ⟨B9x17_⟩, ⟨B9x12_⟩, ⟨B9x13_⟩⟩
       ·rw [if_neg c73] at H
        have c73b0 : decide (x5_1 < (wrap64 (60 + t414))) = false := decide_eq_false c73
        clear c73
        simp only [Option.some.injEq, Prod.mk.injEq] at H
        obtain ⟨rfl, rfl, rfl, rfl, rfl⟩ := H
        go_wp2_with (first | ((with_reducible refine gate_callee (f := 41) rfl ?_); refine goesL_ (some 40) rfl rfl Try.func41 B9x23_ rfl #[.pointer (some ⟨g, 0, none⟩), .int .i64 2] rfl B9x3_ ?_; (with_reducible refine (spec_l01Below.calls g s0_0 x1001_1 x1002_1 2 t414 t415 t416 w0 _ ?side1 ?side2 A72.out).mono ?_); (case side1 => exact B9x0_); (case side2 => exact B9x2_); rintro e w111 ⟨rfl, hi, hb, hk⟩; refine ⟨_, rfl, ?_⟩; replace HO_385002 := Aside0.mk (Kd.R_mono (Kd.R_keep (IsS107.apart (show IsS107 w0 _ g s0_0 x1001_1 x1002_1 from B9x0_) B9x21_ (by decide)) hk (fun _ h => h.2)) (fun _ h => h.1)); replace BK376 := Aside0.mk (kb hk BK376.out NB376_0.out); replace BK384 := Aside0.mk (kb hk BK384.out NB384_0.out); replace HK := Aside0.mk (KeepBut.trans B9x1_ hk (.inl rfl)); replace HB := Aside0.mk (hb); replace HI0 := Aside0.mk (hi); (try clear hb hk hi); have hnb112 := NB384_376.out; have hnc112 := NB376_384.out; have hnb113 := NB384_0.out; have hnc113 := NB0_384.out; obtain ⟨hcz114_0, hcz114_1, hcz114_2⟩ := cl3 BK384.out; obtain ⟨hfz114_0, hfz114_1, hfz114_2⟩ := fr3 BK384.out; have hnb115 := NB376_0.out; have hnc115 := NB0_376.out; obtain ⟨hcz116_0, hcz116_1, hcz116_2⟩ := cl3 BK376.out; obtain ⟨hfz116_0, hfz116_1, hfz116_2⟩ := fr3 BK376.out; obtain ⟨Ao117, co117, eo117⟩ := Kd.R_slice HO_385002.out; subst eo117))
        refine bodyPost_ret (results_cell_row rfl _ _ gb376 26 #[.int .i64 t377, .int .i64 t378, .slice Ao117 x385002_1.length co117] (0, 0) _ rfl B9x25_ Try.underlying26 rfl B9x23_) rfl ?_
        exact ⟨_, by first | rfl | (simp [errW_none, errW_some] <;> rfl) | (simp [*, errW_none, errW_some] <;> rfl), by (with_reducible repeat (first | apply Kd.R_alloc | apply Kd.R_drewN | apply Kd.R_drew)); exact Kd.R_mono (Kd.R_far (p := ⟨gb376, 2, none⟩) (Kd.R_far (p := ⟨gb376, 1, none⟩) (Kd.R_far (p := ⟨gb376, 0, none⟩) (Kd.R_types HO_385002.out BK376.out (by decide)) (fun _ hk => hk.2) (.int .i64 t377)) (fun _ hk => hk.2) (.int .i64 t378)) (fun _ hk => hk.2) (.slice Ao117 x385002_1.length co117)) (fun _ hk => trivial), by repeat (first | (with_reducible first | exact HI0.out | apply IsS107.alloc | apply IsS107.drewN | apply IsS107.drew | apply IsS107.set_1 | apply IsS107.set_2 | refine IsS107.far ?_ NB0_376.out _ | refine IsS107.far ?_ NB0_384.out _) | exact HI0.out), by repeat (first | (with_reducible first | exact HB.out | apply below_alloc | apply pw_below_drewN | apply below_drew1 | refine below_set ?_ (IsS107.ge HI0.out) | refine below_set ?_ GE376.out | refine below_set ?_ GE384.out) | exact HB.out), by repeat (first | (with_reducible first | exact HK.out | apply KeepBut.set_ | apply keep_drewN | apply keep_drew | apply keep_alloc | refine keep_far ?_ GW376.out _ | refine keep_far ?_ GW384.out _) | exact HK.out)⟩
    ·rw [if_neg c57] at H
     have c57b0 := beq_eq_false_iff_ne.mpr c57
     have c57b1 := bne_iff_ne.mpr c57
     simp only [Option.some.injEq, Prod.mk.injEq] at H
     obtain ⟨rfl, rfl, rfl, rfl, rfl⟩ := H
     go_enter Try.func38, Try.ntmps38
     go_wp2_with (first | ((with_reducible refine gate_dst (N := 2) rfl ?_); refine box_event ?hg (N := 2) ?hd (cs := #[.int .i64 0, .int .i64 0, .slice none 0 0]) (t := 26) ?hr ?_; (case hd => rfl); (case hg => rfl); (case hr => exact B9x16_); intro gb376 hg w118 hbox hb; replace HB := Aside0.mk (below_step B9x7_ hb); have BK376 := Aside0.mk (hbox); have GW376 := Aside0.mk ((bs hg (keep_size HK.out))); have GE376 := Aside0.mk ((Nat.le_trans HW0.out (bs hg (keep_size HK.out)) : w0.heap.size ≤ gb376)); replace HK := Aside0.mk (KeepBut.trans B9x11_ (KeepBut.of_below hb g none) (.inl rfl)); have NB0_376 := Aside0.mk ((nl hg (IsS107.lt HI0.out))); have NB376_0 := Aside0.mk ((ng hg (IsS107.lt HI0.out))); replace HI0 := Aside0.mk (IsS107.below B9x6_ hb); clear hb hbox hg) | ((with_reducible refine gate_callee (f := 50) rfl ?_); refine goesL_ (some 8) rfl rfl Try.func50 B9x23_ rfl #[.pointer (some ⟨g, 0, none⟩)] rfl B9x3_ ?_; (with_reducible refine (spec_l06Right.calls k g s0_0 s0_1 s0_2 t377 t378 t379 t382 t383 w0 _ ?side1 ?side2 A2.out).mono ?_); (case side1 => exact B9x8_); (case side2 => exact B9x9_); rintro e w119 ⟨v380, rfl, ho0, hi, hb, hk⟩; refine ⟨_, rfl, ?_⟩; replace BK376 := Aside0.mk (kb hk BK376.out NB376_0.out); have HO381 := Aside0.mk (Kd.R_lower ho0 (keep_size (w := w) (g := g) (row := none) B9x5_)); replace HK := Aside0.mk (KeepBut.trans B9x5_ hk (.inl rfl)); replace HB := Aside0.mk (hb); replace HI0 := Aside0.mk (hi); (try clear hb hk hi); (try clear ho0)) | ((with_reducible refine gate_dst (N := 3) rfl ?_); refine box_event ?hg (N := 3) ?hd (cs := #[.int .i64 0, .int .i64 0, .slice none 0 0]) (t := 26) ?hr ?_; (case hd => rfl); (case hg => rfl); (case hr => exact B9x16_); intro gb384 hg w120 hbox hb; replace HO381 := Aside0.mk (Kd.R_below B9x14_ hb); replace HB := Aside0.mk (below_step B9x9_ hb); have BK384 := Aside0.mk (hbox); have GW384 := Aside0.mk ((bs hg (keep_size HK.out))); have GE384 := Aside0.mk ((Nat.le_trans HW0.out (bs hg (keep_size HK.out)) : w0.heap.size ≤ gb384)); replace HK := Aside0.mk (KeepBut.trans B9x5_ (KeepBut.of_below hb g none) (.inl rfl)); have NB376_384 := Aside0.mk ((nl hg (blk_lt BK376.out))); have NB384_376 := Aside0.mk ((ng hg (blk_lt BK376.out))); replace BK376 := Aside0.mk (bb BK376.out hb); have NB0_384 := Aside0.mk ((nl hg (IsS107.lt HI0.out))); have NB384_0 := Aside0.mk ((ng hg (IsS107.lt HI0.out))); replace HI0 := Aside0.mk (IsS107.below B9x8_ hb); clear hb hbox hg; have hnb121 := NB384_376.out; have hnc121 := NB376_384.out; have hnb122 := NB384_0.out; have hnc122 := NB0_384.out; obtain ⟨hcz123_0, hcz123_1, hcz123_2⟩ := cl3 BK384.out; obtain ⟨hfz123_0, hfz123_1, hfz123_2⟩ := fr3 BK384.out; obtain ⟨Ao124, co124, eo124⟩ := Kd.R_slice HO381.out; subst eo124) | ((with_reducible refine gate_callee (f := 41) rfl ?_); refine goesL_ (some 10) rfl rfl Try.func41 B9x23_ rfl #[.pointer (some ⟨g, 0, none⟩), .int .i64 40] rfl B9x3_ ?_; (with_reducible refine (spec_l01Below.calls g s0_0 t382 t383 40 t385 t386 t387 w0 _ ?side1 ?side2 A3.out).mono ?_); (case side1 => exact B9x0_); (case side2 => exact B9x2_); rintro e w125 ⟨rfl, hi, hb, hk⟩; refine ⟨_, rfl, ?_⟩; replace BK376 := Aside0.mk (KeepBut.blk hk (g' := gb376) (o := .cells #[.int .i64 0, .int .i64 0, .slice none 0 0] 26 (0, 0)) B9x4_ NB376_0.out (by simp)); replace HO381 := Aside0.mk (Kd.R_mono (Kd.R_keep (IsS107.apart (show IsS107 w0 _ g s0_0 t382 t383 from B9x0_) (by (with_reducible repeat (first | apply Kd.R_alloc | apply Kd.R_drewN | apply Kd.R_drew)); exact (Kd.R_mono (Kd.R_far (p := ⟨gb384, 2, none⟩) (Kd.R_far (p := ⟨gb384, 1, none⟩) (Kd.R_far (p := ⟨gb384, 0, none⟩) (Kd.R_types HO381.out BK384.out (by decide)) (fun _ hk => hk.2) (.int .i64 t377)) (fun _ hk => hk.2) (.int .i64 t378)) (fun _ hk => hk.2) (.slice Ao124 t379.length co124)) (fun _ h_ => h_.1))) (by decide)) hk (fun _ h => h.2)) (fun _ h => h.1)); replace BK384 := Aside0.mk (KeepBut.blk hk (g' := gb384) (o := .cells #[.int .i64 t377, .int .i64 t378, .slice Ao124 t379.length co124] 26 (0, 0)) B9x10_ NB384_0.out (by simp)); replace HK := Aside0.mk (KeepBut.trans B9x1_ hk (.inl rfl)); replace HB := Aside0.mk (hb); replace HI0 := Aside0.mk (hi); (try clear hb hk hi); obtain ⟨hcz126_0, hcz126_1, hcz126_2⟩ := cl3 BK384.out; obtain ⟨hfz126_0, hfz126_1, hfz126_2⟩ := fr3 BK384.out; have hnb127 := NB376_0.out; have hnc127 := NB0_376.out; obtain ⟨hcz128_0, hcz128_1, hcz128_2⟩ := cl3 BK376.out; obtain ⟨hfz128_0, hfz128_1, hfz128_2⟩ := fr3 BK376.out))
     refine bodyPost_ret (results_cell_row rfl _ _ gb376 26 #[.int .i64 t377, .int .i64 t378, .slice Ao124 t379.length co124] (0, 0) _ rfl B9x25_ Try.underlying26 rfl B9x23_) rfl ?_
     exact ⟨_, by first | rfl | (simp [errW_none, errW_some] <;> rfl) | (simp [*, errW_none, errW_some] <;> rfl), by (with_reducible repeat (first | apply Kd.R_alloc | apply Kd.R_drewN | apply Kd.R_drew)); exact Kd.R_mono (Kd.R_far (p := ⟨gb376, 2, none⟩) (Kd.R_far (p := ⟨gb376, 1, none⟩) (Kd.R_far (p := ⟨gb376, 0, none⟩) (Kd.R_types HO381.out BK376.out (by decide)) (fun _ hk => hk.2) (.int .i64 t377)) (fun _ hk => hk.2) (.int .i64 t378)) (fun _ hk => hk.2) (.slice Ao124 t379.length co124)) (fun _ hk => trivial), by repeat (first | (with_reducible first | exact HI0.out | apply IsS107.alloc | apply IsS107.drewN | apply IsS107.drew | apply IsS107.set_1 | apply IsS107.set_2 | refine IsS107.far ?_ NB0_376.out _ | refine IsS107.far ?_ NB0_384.out _) | exact HI0.out), by repeat (first | (with_reducible first | exact HB.out | apply below_alloc | apply pw_below_drewN | apply below_drew1 | refine below_set ?_ (IsS107.ge HI0.out) | refine below_set ?_ GE376.out | refine below_set ?_ GE384.out) | exact HB.out), by repeat (first | (with_reducible first | exact HK.out | apply KeepBut.set_ | apply keep_drewN | apply keep_drew | apply keep_alloc | refine keep_far ?_ GW376.out _ | refine keep_far ?_ GW384.out _) | exact HK.out)⟩

/-! ### spec_LogLast: function 39 -/
def spec_LogLast.f (a0_0 : Int) (a0_1 : Int) (l0_2 : List (S28)) : Option (Int × Int) := if (l0_2.length : Int) = 0 then (some (a0_0, a0_1)) else (if 0 ≤ (wrap64 ((l0_2.length : Int) - 1)) then (if (wrap64 ((l0_2.length : Int) - 1)) < (l0_2.length : Int) then (some (wrap64 (a0_0 + (l0_2.length : Int)), (rd_T28 l0_2 (wrap64 ((l0_2.length : Int) - 1))).f0)) else (none)) else (none))
set_option maxHeartbeats 8000000 in
set_option maxRecDepth 100000 in
theorem spec_LogLast.calls (a0_0 : Int) (a0_1 : Int) (A0_2 : Option Addr) (c0_2 : Nat) (l0_2 : List (S28)) (r1 : Int) (r2 : Int) (w : World) (hr0_2 : Kd.C k28 w A0_2 l0_2.length l0_2) (hc0_2 : l0_2.length ≤ c0_2) (h : spec_LogLast.f a0_0 a0_1 l0_2 = some (r1, r2)) :
  Calls Try.prog 39 #[.agg #[.int .i64 a0_0, .int .i64 a0_1, .slice A0_2 l0_2.length c0_2]] w fun e w' => e = .returned (.tuple #[.int .i64 r1, .int .i64 r2]) ∧ Below w.heap.size w w' := by
 have hu26 := Try.underlying26
 have HR0_2 := Aside0.mk hr0_2
 have HC0_2 := Aside0.mk hc0_2
 clear hr0_2 hc0_2
 have HB := Aside0.mk (Below.refl w.heap.size w)
 have H : (if (l0_2.length : Int) = 0 then (some (a0_0, a0_1)) else (if 0 ≤ (wrap64 ((l0_2.length : Int) - 1)) then (if (wrap64 ((l0_2.length : Int) - 1)) < (l0_2.length : Int) then (some (wrap64 (a0_0 + (l0_2.length : Int)), (rd_T28 l0_2 (wrap64 ((l0_2.length : Int) - 1))).f0)) else (none)) else (none))) = some (r1, r2) := h
 clear h
 by_cases c2 : (l0_2.length : Int) = 0
 ·rw [if_pos c2] at H
  have c2b0 := beq_iff_eq.mpr c2
  have c2b1 := bne_eq_false_iff_eq.mpr c2
  clear c2
  simp only [Option.some.injEq, Prod.mk.injEq] at H
  obtain ⟨rfl, rfl⟩ := H
  go_enter Try.func39, Try.ntmps39
  go_wp2_with (first | ((with_reducible refine gate_dst (N := 1) rfl ?_); refine box_event ?hg (N := 1) ?hd (cs := #[.int .i64 a0_0, .int .i64 a0_1, .slice A0_2 l0_2.length c0_2]) (t := 26) ?hr ?_; (case hd => rfl); (case hg => rfl); (case hr => exact B9x16_); intro gb425 hg w3 hbox hb; have BK425 := Aside0.mk (hbox); have GW425 := Aside0.mk ((bs hg (below_size HB.out))); have GE425 := Aside0.mk ((bs hg (below_size HB.out))); replace HB := Aside0.mk (below_step B9x18_ hb); clear hb hbox hg; obtain ⟨hcz4_0, hcz4_1, hcz4_2⟩ := cl3 BK425.out; obtain ⟨hfz4_0, hfz4_1, hfz4_2⟩ := fr3 BK425.out))
  repeat (go_quiet (first | ((with_reducible refine gate_dst (N := 1) rfl ?_); refine box_event ?hg (N := 1) ?hd (cs := #[.int .i64 a0_0, .int .i64 a0_1, .slice A0_2 l0_2.length c0_2]) (t := 26) ?hr ?_; (case hd => rfl); (case hg => rfl); (case hr => exact B9x16_); intro gb425 hg w3 hbox hb; have BK425 := Aside0.mk (hbox); have GW425 := Aside0.mk ((bs hg (below_size HB.out))); have GE425 := Aside0.mk ((bs hg (below_size HB.out))); replace HB := Aside0.mk (below_step B9x18_ hb); clear hb hbox hg; obtain ⟨hcz4_0, hcz4_1, hcz4_2⟩ := cl3 BK425.out; obtain ⟨hfz4_0, hfz4_1, hfz4_2⟩ := fr3 BK425.out)); try go_wp2_with (first | ((with_reducible refine gate_dst (N := 1) rfl ?_); refine box_event ?hg (N := 1) ?hd (cs := #[.int .i64 a0_0, .int .i64 a0_1, .slice A0_2 l0_2.length c0_2]) (t := 26) ?hr ?_; (case hd => rfl); (case hg => rfl); (case hr => exact B9x16_); intro gb425 hg w3 hbox hb; have BK425 := Aside0.mk (hbox); have GW425 := Aside0.mk ((bs hg (below_size HB.out))); have GE425 := Aside0.mk ((bs hg (below_size HB.out))); replace HB := Aside0.mk (below_step B9x18_ hb); clear hb hbox hg; obtain ⟨hcz4_0, hcz4_1, hcz4_2⟩ := cl3 BK425.out; obtain ⟨hfz4_0, hfz4_1, hfz4_2⟩ := fr3 BK425.out)))
  go_ret2
  exact ⟨B9x27_, B9x28_⟩
 ·rw [if_neg c2] at H
  have c2b0 := beq_eq_false_iff_ne.mpr c2
  have c2b1 := bne_iff_ne.mpr c2
  have c2b2 : ¬ (l0_2 = []) := fun h_ => c2 (by rw [h_]; rfl)
  obtain ⟨ji5, hji5⟩ : ∃ j_ : Int, (wrap64 ((l0_2.length : Int) - 1)) = j_ := ⟨_, rfl⟩
  replace H : (if 0 ≤ (ji5) then (if (ji5) < (l0_2.length : Int) then (some (wrap64 (a0_0 + (l0_2.length : Int)), (rd_T28 l0_2 (ji5)).f0)) else (none)) else (none)) = some (r1, r2) := by first | (rw [hji5] at H; exact H) | (simp only [hji5] at H ⊢; exact H)
  have hji5w : (IntKind.i64.wrap ((l0_2.length : Int) - 1)) = ji5 := (i64_w _).trans hji5
  by_cases c6 : 0 ≤ (ji5)
  rotate_left
  ·rw [if_neg c6] at H
   exact absurd H (by simp)
  rw [if_pos c6] at H
  have c6b0 : decide (0 ≤ (ji5)) = true := decide_eq_true c6
  clear c6
  by_cases c7 : (ji5) < (l0_2.length : Int)
  rotate_left
  ·rw [if_neg c7] at H
   exact absurd H (by simp)
  rw [if_pos c7] at H
  have c7b0 : decide ((ji5) < (l0_2.length : Int)) = true := decide_eq_true c7
  clear c7
  simp only [Option.some.injEq, Prod.mk.injEq] at H
  obtain ⟨rfl, rfl⟩ := H
  go_enter Try.func39, Try.ntmps39
  go_wp2_with (first | ((with_reducible refine gate_dst (N := 1) rfl ?_); refine box_event ?hg (N := 1) ?hd (cs := #[.int .i64 a0_0, .int .i64 a0_1, .slice A0_2 l0_2.length c0_2]) (t := 26) ?hr ?_; (case hd => rfl); (case hg => rfl); (case hr => exact B9x16_); intro gb425 hg w8 hbox hb; have BK425 := Aside0.mk (hbox); have GW425 := Aside0.mk ((bs hg (below_size HB.out))); have GE425 := Aside0.mk ((bs hg (below_size HB.out))); replace HB := Aside0.mk (below_step B9x18_ hb); clear hb hbox hg; obtain ⟨hcz9_0, hcz9_1, hcz9_2⟩ := cl3 BK425.out; obtain ⟨hfz9_0, hfz9_1, hfz9_2⟩ := fr3 BK425.out; have p426 : 0 ≤ ((ji5) : Int) := of_decide_eq_true B9x26_; have q426 : (ji5) < (l0_2.length : Int) := of_decide_eq_true B9x26_; obtain ⟨ad426, e426, hx426_0, hx426_1, hx426_2⟩ := at_T28 HR0_2.out (ji5) p426 q426; cases e426; replace hx426_0 := (HB.out.cell (World.block_lt_of_cell? w _ hx426_0)).trans hx426_0; replace hx426_1 := (HB.out.cell (World.block_lt_of_cell? w _ hx426_1)).trans hx426_1; replace hx426_2 := (HB.out.cell (World.block_lt_of_cell? w _ hx426_2)).trans hx426_2; replace p426 := eq_true p426; replace q426 := eq_true q426))
  repeat (go_quiet (first | ((with_reducible refine gate_dst (N := 1) rfl ?_); refine box_event ?hg (N := 1) ?hd (cs := #[.int .i64 a0_0, .int .i64 a0_1, .slice A0_2 l0_2.length c0_2]) (t := 26) ?hr ?_; (case hd => rfl); (case hg => rfl); (case hr => exact B9x16_); intro gb425 hg w8 hbox hb; have BK425 := Aside0.mk (hbox); have GW425 := Aside0.mk ((bs hg (below_size HB.out))); have GE425 := Aside0.mk ((bs hg (below_size HB.out))); replace HB := Aside0.mk (below_step B9x18_ hb); clear hb hbox hg; obtain ⟨hcz9_0, hcz9_1, hcz9_2⟩ := cl3 BK425.out; obtain ⟨hfz9_0, hfz9_1, hfz9_2⟩ := fr3 BK425.out; have p426 : 0 ≤ ((ji5) : Int) := of_decide_eq_true B9x26_; have q426 : (ji5) < (l0_2.length : Int) := of_decide_eq_true B9x26_; obtain ⟨ad426, e426, hx426_0, hx426_1, hx426_2⟩ := at_T28 HR0_2.out (ji5) p426 q426; cases e426; replace hx426_0 := (HB.out.cell (World.block_lt_of_cell? w _ hx426_0)).trans hx426_0; replace hx426_1 := (HB.out.cell (World.block_lt_of_cell? w _ hx426_1)).trans hx426_1; replace hx426_2 := (HB.out.cell (World.block_lt_of_cell? w _ hx426_2)).trans hx426_2; replace p426 := eq_true p426; replace q426 := eq_true q426)); try go_wp2_with (first | ((with_reducible refine gate_dst (N := 1) rfl ?_); refine box_event ?hg (N := 1) ?hd (cs := #[.int .i64 a0_0, .int .i64 a0_1, .slice A0_2 l0_2.length c0_2]) (t := 26) ?hr ?_; (case hd => rfl); (case hg => rfl); (case hr => exact B9x16_); intro gb425 hg w8 hbox hb; have BK425 := Aside0.mk (hbox); have GW425 := Aside0.mk ((bs hg (below_size HB.out))); have GE425 := Aside0.mk ((bs hg (below_size HB.out))); replace HB := Aside0.mk (below_step B9x18_ hb); clear hb hbox hg; obtain ⟨hcz9_0, hcz9_1, hcz9_2⟩ := cl3 BK425.out; obtain ⟨hfz9_0, hfz9_1, hfz9_2⟩ := fr3 BK425.out; have p426 : 0 ≤ ((ji5) : Int) := of_decide_eq_true B9x26_; have q426 : (ji5) < (l0_2.length : Int) := of_decide_eq_true B9x26_; obtain ⟨ad426, e426, hx426_0, hx426_1, hx426_2⟩ := at_T28 HR0_2.out (ji5) p426 q426; cases e426; replace hx426_0 := (HB.out.cell (World.block_lt_of_cell? w _ hx426_0)).trans hx426_0; replace hx426_1 := (HB.out.cell (World.block_lt_of_cell? w _ hx426_1)).trans hx426_1; replace hx426_2 := (HB.out.cell (World.block_lt_of_cell? w _ hx426_2)).trans hx426_2; replace p426 := eq_true p426; replace q426 := eq_true q426)))
  go_ret2
  exact ⟨(by first | rfl | (simp [errW_none, errW_some] <;> rfl) | (simp only [← hji5]; first | rfl | (simp [errW_none, errW_some] <;> rfl)) | (simp [*, errW_none, errW_some] <;> rfl)), B9x28_⟩

/-! ### spec_l01Place: function 44 -/
def spec_l01Place.f (s0_0 : List Int) (s0_1 : Int) (s0_2 : Int) (a1 : Int) : Option (Int × Int × Int) := (spec_l01Once.f s0_0 s0_1 s0_2 15).bind fun bt427 => (if bt427.1 = true then ((spec_l01PickInt.f s0_0 bt427.2.1 bt427.2.2 (([(-1), a1, wrap64 (a1 + 1), 9223372036854775807, (-9223372036854775808)] : List Int))).bind fun bt433 => (some (bt433.1, bt433.2.1, bt433.2.2))) else ((spec_l01Below.f s0_0 bt427.2.1 bt427.2.2 a1).bind fun bt436 => (some (bt436.1, bt436.2.1, bt436.2.2))))
set_option maxHeartbeats 8000000 in
set_option maxRecDepth 100000 in
theorem spec_l01Place.calls (g : Nat) (s0_0 : List Int) (s0_1 : Int) (s0_2 : Int) (a1 : Int) (r1 : Int) (r2 : Int) (r3 : Int) (w0 w : World) (hI : IsS107 w0 w g s0_0 s0_1 s0_2) (hB : Below w0.heap.size w0 w) (h : spec_l01Place.f s0_0 s0_1 s0_2 a1 = some (r1, r2, r3)) :
  Calls Try.prog 44 #[.pointer (some ⟨g, 0, none⟩), .int .i64 a1] w fun e w' => e = .returned (.int .i64 r1) ∧ IsS107 w0 w' g s0_0 r2 r3 ∧ Below w0.heap.size w0 w' ∧ KeepBut w w' g none := by
 have HI0 := Aside0.mk hI
 have HK := Aside0.mk (KeepBut.refl w g none)
 have HL := Aside0.mk hB.size
 clear hI
 have HW0 := Aside0.mk hB.size
 have HB := Aside0.mk hB
 clear hB
 have H : ((spec_l01Once.f s0_0 s0_1 s0_2 15).bind fun bt427 => (if bt427.1 = true then ((spec_l01PickInt.f s0_0 bt427.2.1 bt427.2.2 (([(-1), a1, wrap64 (a1 + 1), 9223372036854775807, (-9223372036854775808)] : List Int))).bind fun bt433 => (some (bt433.1, bt433.2.1, bt433.2.2))) else ((spec_l01Below.f s0_0 bt427.2.1 bt427.2.2 a1).bind fun bt436 => (some (bt436.1, bt436.2.1, bt436.2.2))))) = some (r1, r2, r3) := h
 clear h
 replace H := bsi H
 obtain ⟨⟨t427, t428, t429⟩, A3, H⟩ := H
 (try dsimp only at H)
 by_cases c4 : t427 = true
 ·subst c4
  rw [if_pos rfl] at H
  obtain ⟨y430, hy430⟩ : ∃ y_ : List Int, y_ = (([(-1), a1, wrap64 (a1 + 1), 9223372036854775807, (-9223372036854775808)] : List Int)) := ⟨_, rfl⟩
  replace H : ((spec_l01PickInt.f s0_0 t428 t429 y430).bind fun bt433 => (some (bt433.1, bt433.2.1, bt433.2.2))) = some (r1, r2, r3) := by first | (rw [hy430]; with_reducible exact H) | (have H2_ := (Option.bind_some _ _).symm.trans H; rw [hy430]; with_reducible exact H2_) | (have H2_ := (Option.bind_some _ _).symm.trans H; with_reducible exact H2_) | with_reducible exact H | (rw [hy430]; exact H) | exact H
  have Ny430 := Aside0.mk hy430
  clear hy430
  replace H := bsi H
  obtain ⟨⟨t433, t434, t435⟩, A5, H⟩ := H
  (try dsimp only at H)
  simp only [Option.some.injEq, Prod.mk.injEq] at H
  obtain ⟨rfl, rfl, rfl⟩ := H
  go_enter Try.func44, Try.ntmps44
  go_wp2_with (first | ((with_reducible refine gate_callee (f := 42) rfl ?_); refine goesL_ (some 6) rfl rfl Try.func42 B9x23_ rfl #[.pointer (some ⟨g, 0, none⟩), .int .i64 15] rfl B9x3_ ?_; (with_reducible refine (spec_l01Once.calls g s0_0 s0_1 s0_2 15 true t428 t429 w0 _ ?side1 ?side2 A3.out).mono ?_); (case side1 => exact B9x6_); (case side2 => exact B9x7_); rintro e w6 ⟨rfl, hi, hb, hk⟩; refine ⟨_, rfl, ?_⟩; replace HK := Aside0.mk (KeepBut.trans B9x11_ hk (.inl rfl)); replace HB := Aside0.mk (hb); replace HI0 := Aside0.mk (hi); (try clear hb hk hi)) | ((with_reducible refine gate_dst (N := 11) rfl ?_); refine Kd.R_lit (Kd.int .i64) _ 3 ?hg (N := 11) ?hd (xs := ([(-1), a1, wrap64 (a1 + 1), 9223372036854775807, (-9223372036854775808)] : List Int)) (inner := [.int .i64 (-1), .int .i64 a1, .int .i64 (wrap64 (a1 + 1)), .int .i64 9223372036854775807, .int .i64 (-9223372036854775808)]) (ok := fun _ => True) (okp := fun _ => True) ?hr ?hp (fun _ hk => hk) trivial (Below.refl _ _) (Nat.le_refl _) (by simp) ?_; (case hd => rfl); (case hg => rfl); (case hr => exact B9x16_); (case hp => exact (Reps.one (show Kd.M (Kd.int .i64) _ _ _ (-1) [.int .i64 (-1)] from rfl) (Reps.one (show Kd.M (Kd.int .i64) _ _ _ a1 [.int .i64 a1] from rfl) (Reps.one (show Kd.M (Kd.int .i64) _ _ _ (wrap64 (a1 + 1)) [.int .i64 (wrap64 (a1 + 1))] from rfl) (Reps.one (show Kd.M (Kd.int .i64) _ _ _ 9223372036854775807 [.int .i64 9223372036854775807] from rfl) (Reps.one (show Kd.M (Kd.int .i64) _ _ _ (-9223372036854775808) [.int .i64 (-9223372036854775808)] from rfl) (Reps.none _ _))))))); intro v431 w7 ho8 hb hg_ hnew_; clear hg_ hnew_; (first | rw [← Ny430.out] at ho8 | (simp only [Int.reduceToNat] at ho8; rw [← Ny430.out] at ho8)); have HO432 := Aside0.mk (Kd.R_lower ho8 (keep_size (w := w) (g := g) (row := none) B9x11_)); replace HK := Aside0.mk (KeepBut.trans B9x11_ (KeepBut.of_below hb g none) (.inl rfl)); replace HB := Aside0.mk (below_step B9x7_ hb); replace HI0 := Aside0.mk (IsS107.below B9x6_ hb); clear hb ho8; obtain ⟨Ao9, co9, eo9⟩ := Kd.R_slice HO432.out; subst eo9) | ((with_reducible refine gate_callee (f := 80) rfl ?_); refine goesL_ (some 12) rfl rfl Try.func80 B9x23_ rfl #[.pointer (some ⟨g, 0, none⟩), .slice Ao9 y430.length co9] rfl B9x3_ ?_; (with_reducible refine (spec_l01PickInt.calls g s0_0 t428 t429 _ _ y430 t433 t434 t435 w0 _ ?side1 ?side2 ?side3 ?side4 ?side5 A5.out).mono ?_); (case side1 => exact B9x6_); (case side2 => exact B9x7_); (case side3 => repeat (first | exact (Kd.R_reads' HO432.out).2.2 | (with_reducible refine Kd.C_alloc ?_ _) | (with_reducible refine Kd.C_drewN ?_ _) | (with_reducible refine Kd.C_drew ?_))); (case side4 => exact (Kd.R_reads' HO432.out).2.1); (case side5 => exact far_slice (IsS107.own_ne HI0.out HO432.out (by decide))); rintro e w10 ⟨rfl, hi, hb, hk⟩; refine ⟨_, rfl, ?_⟩; replace HO432 := Aside0.mk (Kd.R_mono (Kd.R_keep (IsS107.apart (show IsS107 w0 _ g s0_0 t428 t429 from B9x6_) (by (with_reducible repeat (first | apply Kd.R_alloc | apply Kd.R_drewN | apply Kd.R_drew)); exact HO432.out) (by decide)) hk (fun _ h => h.2)) (fun _ h => h.1)); replace HK := Aside0.mk (KeepBut.trans B9x11_ hk (.inl rfl)); replace HB := Aside0.mk (hb); replace HI0 := Aside0.mk (hi); (try clear hb hk hi)))
  go_ret
  exact ⟨B9x27_, B9x6_, B9x7_, B9x11_⟩
 ·replace c4 := Bool.eq_false_iff.mpr c4
  subst c4
  rw [if_neg (show ¬ (false = true) by decide)] at H
  replace H := bsi H
  obtain ⟨⟨t436, t437, t438⟩, A11, H⟩ := H
  (try dsimp only at H)
  simp only [Option.some.injEq, Prod.mk.injEq] at H
  obtain ⟨rfl, rfl, rfl⟩ := H
  go_enter Try.func44, Try.ntmps44
  go_wp2_with (first | ((with_reducible refine gate_callee (f := 42) rfl ?_); refine goesL_ (some 6) rfl rfl Try.func42 B9x23_ rfl #[.pointer (some ⟨g, 0, none⟩), .int .i64 15] rfl B9x3_ ?_; (with_reducible refine (spec_l01Once.calls g s0_0 s0_1 s0_2 15 false t428 t429 w0 _ ?side1 ?side2 A3.out).mono ?_); (case side1 => exact B9x6_); (case side2 => exact B9x7_); rintro e w12 ⟨rfl, hi, hb, hk⟩; refine ⟨_, rfl, ?_⟩; replace HK := Aside0.mk (KeepBut.trans B9x11_ hk (.inl rfl)); replace HB := Aside0.mk (hb); replace HI0 := Aside0.mk (hi); (try clear hb hk hi)) | ((with_reducible refine gate_callee (f := 41) rfl ?_); refine goesL_ (some 15) rfl rfl Try.func41 B9x23_ rfl #[.pointer (some ⟨g, 0, none⟩), .int .i64 a1] rfl B9x3_ ?_; (with_reducible refine (spec_l01Below.calls g s0_0 t428 t429 a1 t436 t437 t438 w0 _ ?side1 ?side2 A11.out).mono ?_); (case side1 => exact B9x6_); (case side2 => exact B9x7_); rintro e w13 ⟨rfl, hi, hb, hk⟩; refine ⟨_, rfl, ?_⟩; replace HK := Aside0.mk (KeepBut.trans B9x11_ hk (.inl rfl)); replace HB := Aside0.mk (hb); replace HI0 := Aside0.mk (hi); (try clear hb hk hi)))
  go_ret
  exact ⟨B9x27_, B9x6_, B9x7_, B9x11_⟩

end Go.Proofs.Ytgffdijodnpolaa.QFnPuts
