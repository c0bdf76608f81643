/- Functions that a law reaches, as functions of Lean, and the walks that show that the calls come to their answers: written by a program of this project out of the translation. No condition. -/
import Derived.Test.YtgffdijodnpolaaQFnLogsx0
import Derived.Test.YtgffdijodnpolaaQFnLogsx2
import Derived.Test.YtgffdijodnpolaaQFnLogsx8
import Derived.Test.YtgffdijodnpolaaQFnLogsx9
import Derived.Test.YtgffdijodnpolaaVFnLogsShort4
import Derived.Test.YtgffdijodnpolaaVFnLogshort3
import Derived.Test.YtgffdijodnpolaaVFnLogsShort
namespace Go.Proofs.Ytgffdijodnpolaa.QFnLogs
open Go.RowKit Go.Proofs.YtgffdijodnpolaaW.PrintWords Go.Proofs.YtgffdijodnpolaaW.PrintLast Go.Proofs.YtgffdijodnpolaaW.PrintMore Go.Proofs.Ytgffdijodnpolaa.Short
attribute [local go_sem] max2_int min2_int max_two min_two max_three min_three max_four min_four   -- for this text's walks alone
set_option linter.unusedVariables false
set_option linter.unusedSimpArgs false

theorem B10x0_ {p : Prop} (h : p := by repeat (first | (with_reducible first | exact HB.out | apply below_alloc | apply pw_below_drewN | apply below_drew1 | refine below_set ?_ GE383.out | refine below_set ?_ GE384.out | refine below_set ?_ GE385.out) | exact HB.out)) : p := h
theorem B10x1_ {p : Prop} (h : p := by (try simp only [List.map_toArray, List.map_cons, List.map_nil]); first | done | rfl | (simp only [List.length_drop, List.length_take]; rfl)) : p := h
theorem B10x2_ {p : Prop} (h : p := by (repeat (with_reducible (first | exact BK384.out | apply blk_drewN | apply blk_drew | apply blk_alloc | apply blk_put | apply bf NB384_385.out))); repeat (first | exact BK384.out | (simp only [List.setIfInBounds_toArray, List.set_cons_zero, List.set_cons_succ]; with_reducible rfl) | rfl)) : p := h
theorem B10x3_ {p : Prop} (h : p := by repeat (first | exact (Kd.C_below HR0_2.out HB.out) | (with_reducible refine Kd.C_alloc ?_ _) | (with_reducible refine Kd.C_drewN ?_ _) | (with_reducible refine Kd.C_drew ?_))) : p := h
theorem B10x4_ {p : Prop} (h : p := by (repeat (with_reducible (first | exact BK383.out | apply blk_drewN | apply blk_drew | apply blk_alloc | apply blk_put | apply bf NB383_385.out))); repeat (first | exact BK383.out | (simp only [List.setIfInBounds_toArray, List.set_cons_zero, List.set_cons_succ]; with_reducible rfl) | rfl)) : p := h
theorem B10x5_ {p : Prop} (h : p := by (repeat (with_reducible (first | exact BK385.out | apply blk_drewN | apply blk_drew | apply blk_alloc | apply blk_put))); repeat (first | exact BK385.out | (simp only [List.setIfInBounds_toArray, List.set_cons_zero, List.set_cons_succ]; with_reducible rfl) | rfl)) : p := h
theorem B10x6_ {p : Prop} (h : p := by repeat (first | (with_reducible first | exact HB.out | apply below_alloc | apply pw_below_drewN | apply below_drew1 | refine below_set ?_ GE383.out | refine below_set ?_ GE384.out) | exact HB.out)) : p := h
theorem B10x7_ {p : Prop} (h : p := by (repeat (with_reducible (first | exact BK384.out | apply blk_drewN | apply blk_drew | apply blk_alloc | apply blk_put))); repeat (first | exact BK384.out | (simp only [List.setIfInBounds_toArray, List.set_cons_zero, List.set_cons_succ]; with_reducible rfl) | rfl)) : p := h
theorem B10x8_ {p : Prop} (h : p := by repeat (first | (with_reducible first | exact HB.out | apply below_alloc | apply pw_below_drewN | apply below_drew1 | refine below_set ?_ GE383.out) | exact HB.out)) : p := h
theorem B10x9_ {p : Prop} (h : p := by first | (go_simp; done) | (go_simp; rfl)) : p := h
theorem B10x10_ {p : Prop} (h : p := by repeat (first | (with_reducible first | exact HB.out | apply below_alloc | apply pw_below_drewN | apply below_drew1) | exact HB.out)) : p := h
theorem B10x11_ {p : Prop} (h : p := by kernel_rfl) : p := h
theorem B10x12_ {p : Prop} (h : p := by repeat (first | exact (Kd.C_below HR0_2.out B10x0_) | (with_reducible refine Kd.C_alloc ?_ _) | (with_reducible refine Kd.C_drewN ?_ _) | (with_reducible refine Kd.C_drew ?_))) : p := h
theorem B10x13_ {p : Prop} (h : p := by first | (with_reducible assumption) | assumption) : p := h
/-! ### spec_LogBehind: function 86 -/
def spec_LogBehind.f (k : Nat) (a0_0 : Int) (a0_1 : Int) (l0_2 : List (S28)) (a1 : Int) (a2 : Int) : Option (Int × Int × (List (S28))) := (spec_LogOk.f k a0_0 a0_1 l0_2).bind fun t386 => (if t386 = true then ((spec_l06Last.f a0_0 a0_1 l0_2).bind fun t387 => ((spec_l01In.f a1 a0_0 t387).bind fun t388 => (if t388 = true then ((spec_LogTerm.f a0_0 a0_1 l0_2 a1).bind fun t389 => (if t389 = a2 then ((some (([] : List (S28)) : List (S28))).bind fun y390 => (if 0 ≤ (wrap64 (a1 - a0_0)) then (if (wrap64 (a1 - a0_0)) ≤ (l0_2.length : Int) then ((some (l0_2.drop ((wrap64 (a1 - a0_0)) : Int).toNat : List (S28))).bind fun y393 => (if y390.length + y393.length < 4398046511104 then (some (a1, a2, (y390 ++ y393))) else (none))) else (none)) else (none))) else (some (a1, a2, ([] : List (S28)))))) else (some (a1, a2, ([] : List (S28))))))) else (some (a1, a2, ([] : List (S28)))))
theorem spec_LogBehind.mono : ∀ a0 a1 a2 a3 a4 k, LeO (spec_LogBehind.f k a0 a1 a2 a3 a4) (spec_LogBehind.f (k + 1) a0 a1 a2 a3 a4) := by
 intro a0 a1 a2 a3 a4 k
 unfold spec_LogBehind.f
 repeat' first
   | (with_reducible exact spec_LogOk.mono _ _ _ _)
   | (with_reducible first | exact LeO.refl _ | exact LeO.none _ | refine LeO.ite ?_ ?_ | refine LeO.bind ?_ (fun _ => ?_))
   | exact spec_LogOk.mono _ _ _ _
def spec_LogBehind.T2 : Bool × List (List Nat × List Nat) := (true, [([], []), ([0], [0]), ([1, 1], [1]), ([2], [2]), ([2], [2]), ([4, 2], [2, 4]), ([2], [2]), ([6, 2, 2], [2, 6]), ([3, 5, 7, 7, 2], [2, 3, 5, 7]), ([2, 8], [2, 8]), ([9, 8], [9]), ([10], [10]), ([10], [10]), ([11, 12, 10, 10], [10, 11, 12]), ([10], [10]), ([13, 14, 10], [10, 13, 14]), ([10, 15], [10, 15])])
def spec_LogBehind.B2 : List Nat := [0, 1, 3, 7, 7, 23, 7, 71, 255, 511, 1023, 2047, 2047, 8191, 2047, 32767, 65535]
theorem spec_LogBehind.tab2 : rtab .any (opsOf Try.f86 2) = spec_LogBehind.T2 := by kernel_rfl
theorem spec_LogBehind.bits2 : waitsOk spec_LogBehind.T2.2 spec_LogBehind.B2 = true := by kernel_rfl
set_option maxHeartbeats 8000000 in
set_option maxRecDepth 100000 in
theorem spec_LogBehind.calls (k : Nat) (a0_0 : Int) (a0_1 : Int) (A0_2 : Option Addr) (c0_2 : Nat) (l0_2 : List (S28)) (a1 : Int) (a2 : Int) (r1 : Int) (r2 : Int) (r3 : List (S28)) (w : World) (hr0_2 : Kd.C k28 w A0_2 l0_2.length l0_2) (hc0_2 : l0_2.length ≤ c0_2) (h : spec_LogBehind.f k a0_0 a0_1 l0_2 a1 a2 = some (r1, r2, r3)) :
  Calls Try.prog 86 #[.agg #[.int .i64 a0_0, .int .i64 a0_1, .slice A0_2 l0_2.length c0_2], .int .i64 a1, .int .i64 a2] w fun e w' => ∃ v2_ : Value, e = .returned (.agg #[.int .i64 r1, .int .i64 r2, v2_]) ∧ Kd.R k28 28 w' w.heap.size (fun _ => True) v2_ r3 ∧ Below w.heap.size w w' := by
 have hu26 := Try.underlying26
 have HR0_2 := Aside0.mk hr0_2
 have HC0_2 := Aside0.mk hc0_2
 clear hr0_2 hc0_2
 have HB := Aside0.mk (Below.refl w.heap.size w)
 have H : ((spec_LogOk.f k a0_0 a0_1 l0_2).bind fun t386 => (if t386 = true then ((spec_l06Last.f a0_0 a0_1 l0_2).bind fun t387 => ((spec_l01In.f a1 a0_0 t387).bind fun t388 => (if t388 = true then ((spec_LogTerm.f a0_0 a0_1 l0_2 a1).bind fun t389 => (if t389 = a2 then ((some (([] : List (S28)) : List (S28))).bind fun y390 => (if 0 ≤ (wrap64 (a1 - a0_0)) then (if (wrap64 (a1 - a0_0)) ≤ (l0_2.length : Int) then ((some (l0_2.drop ((wrap64 (a1 - a0_0)) : Int).toNat : List (S28))).bind fun y393 => (if y390.length + y393.length < 4398046511104 then (some (a1, a2, (y390 ++ y393))) else (none))) else (none)) else (none))) else (some (a1, a2, ([] : List (S28)))))) else (some (a1, a2, ([] : List (S28))))))) else (some (a1, a2, ([] : List (S28)))))) = some (r1, r2, r3) := h
 clear h
 replace H := bsi H
 obtain ⟨t386, A4, H⟩ := H
 (try dsimp only at H)
 by_cases c5 : t386 = true
 ·subst c5
  rw [if_pos rfl] at H
  replace H := bsi H
  obtain ⟨t387, A6, H⟩ := H
  (try dsimp only at H)
  replace H := bsi H
  obtain ⟨t388, A7, H⟩ := H
  (try dsimp only at H)
  by_cases c8 : t388 = true
  ·subst c8
   rw [if_pos rfl] at H
   replace H := bsi H
   obtain ⟨t389, A9, H⟩ := H
   (try dsimp only at H)
   by_cases c10 : t389 = a2
   ·rw [if_pos c10] at H
    have c10b0 := beq_iff_eq.mpr c10
    have c10b1 := bne_eq_false_iff_eq.mpr c10
    clear c10
    obtain ⟨y390, hy390⟩ : ∃ y_ : List (S28), y_ = (([] : List (S28))) := ⟨_, rfl⟩
    replace H : (if 0 ≤ (wrap64 (a1 - a0_0)) then (if (wrap64 (a1 - a0_0)) ≤ (l0_2.length : Int) then ((some (l0_2.drop ((wrap64 (a1 - a0_0)) : Int).toNat : List (S28))).bind fun y393 => (if y390.length + y393.length < 4398046511104 then (some (a1, a2, (y390 ++ y393))) else (none))) else (none)) else (none)) = some (r1, r2, r3) := by first | (rw [hy390]; with_reducible exact H) | (have H2_ := (Option.bind_some _ _).symm.trans H; rw [hy390]; with_reducible exact H2_) | (have H2_ := (Option.bind_some _ _).symm.trans H; with_reducible exact H2_) | with_reducible exact H | (rw [hy390]; exact H) | exact H
    have Ny390 := Aside0.mk hy390
    clear hy390
    obtain ⟨ji11, hji11⟩ : ∃ j_ : Int, (wrap64 (a1 - a0_0)) = j_ := ⟨_, rfl⟩
    replace H : (if 0 ≤ (ji11) then (if (ji11) ≤ (l0_2.length : Int) then ((some (l0_2.drop ((ji11) : Int).toNat : List (S28))).bind fun y393 => (if y390.length + y393.length < 4398046511104 then (some (a1, a2, (y390 ++ y393))) else (none))) else (none)) else (none)) = some (r1, r2, r3) := by first | (rw [hji11] at H; exact H) | (simp only [hji11] at H ⊢; exact H)
    (try rw [hji11] at A4)
    (try rw [hji11] at A6)
    (try rw [hji11] at A7)
    (try rw [hji11] at A9)
    have hji11w : (IntKind.i64.wrap (a1 - a0_0)) = ji11 := (i64_w _).trans hji11
    by_cases c12 : 0 ≤ (ji11)
    rotate_left
    ·rw [if_neg c12] at H
     exact absurd H (by simp)
    rw [if_pos c12] at H
    have c12b0 := eq_true c12
    have c12b1 : decide (0 ≤ (ji11)) = true := decide_eq_true c12
    clear c12
    by_cases c13 : (ji11) ≤ (l0_2.length : Int)
    rotate_left
    ·rw [if_neg c13] at H
     exact absurd H (by simp)
    rw [if_pos c13] at H
    have c13b0 := eq_true c13
    have c13b1 : decide ((ji11) ≤ (l0_2.length : Int)) = true := decide_eq_true c13
    clear c13
    obtain ⟨y393, hy393⟩ : ∃ y_ : List (S28), y_ = (l0_2.drop ((ji11) : Int).toNat) := ⟨_, rfl⟩
    replace H : (if y390.length + y393.length < 4398046511104 then (some (a1, a2, (y390 ++ y393))) else (none)) = some (r1, r2, r3) := by first | (rw [hy393]; with_reducible exact H) | (have H2_ := (Option.bind_some _ _).symm.trans H; rw [hy393]; with_reducible exact H2_) | (have H2_ := (Option.bind_some _ _).symm.trans H; with_reducible exact H2_) | with_reducible exact H | (rw [hy393]; exact H) | exact H
    have Ny393 := Aside0.mk hy393
    clear hy393
    by_cases c14 : y390.length + y393.length < 4398046511104
    rotate_left
    ·rw [if_neg c14] at H
     exact absurd H (by simp)
    rw [if_pos c14] at H
    have LMc14 := Aside0.mk c14
    clear c14
    obtain ⟨y397, hy397⟩ : ∃ y_ : List (S28), y_ = (y390 ++ y393) := ⟨_, rfl⟩
    replace H : (some (a1, a2, y397)) = some (r1, r2, r3) := by first | (rw [hy397]; with_reducible exact H) | (have H2_ := (Option.bind_some _ _).symm.trans H; rw [hy397]; with_reducible exact H2_) | (have H2_ := (Option.bind_some _ _).symm.trans H; with_reducible exact H2_) | with_reducible exact H | (rw [hy397]; exact H) | exact H
    have Ny397 := Aside0.mk hy397
    clear hy397
    simp only [Option.some.injEq, Prod.mk.injEq] at H
    obtain ⟨rfl, rfl, rfl⟩ := H
    go_enter Try.func86, Try.ntmps86
    try go_wp2_with (first | ((with_reducible refine gate_dst (N := 3) rfl ?_); refine box_event ?hg (N := 3) ?hd (cs := #[.int .i64 a0_0, .int .i64 a0_1, .slice A0_2 l0_2.length c0_2]) (t := 26) ?hr ?_; (case hd => rfl); (case hg => rfl); (case hr => exact B10x9_); intro gb383 hg w15 hbox hb; have BK383 := Aside0.mk (hbox); have GW383 := Aside0.mk ((bs hg (below_size HB.out))); have GE383 := Aside0.mk ((bs hg (below_size HB.out))); replace HB := Aside0.mk (below_step B10x10_ hb); clear hb hbox hg) | ((with_reducible refine gate_dst (N := 6) rfl ?_); refine box_event ?hg (N := 6) ?hd (cs := #[.int .i64 0, .int .i64 0, .slice none 0 0]) (t := 26) ?hr ?_; (case hd => rfl); (case hg => rfl); (case hr => exact B10x9_); intro gb384 hg w16 hbox hb; have BK384 := Aside0.mk (hbox); have GW384 := Aside0.mk ((bs hg (below_size HB.out))); have GE384 := Aside0.mk ((bs hg (below_size HB.out))); replace HB := Aside0.mk (below_step B10x8_ hb); have NB383_384 := Aside0.mk ((nl hg (blk_lt BK383.out))); have NB384_383 := Aside0.mk ((ng hg (blk_lt BK383.out))); replace BK383 := Aside0.mk (bb BK383.out hb); clear hb hbox hg) | ((with_reducible refine gate_dst (N := 7) rfl ?_); refine box_event ?hg (N := 7) ?hd (cs := #[.int .i64 0, .int .i64 0, .slice none 0 0]) (t := 26) ?hr ?_; (case hd => rfl); (case hg => rfl); (case hr => exact B10x9_); intro gb385 hg w17 hbox hb; have BK385 := Aside0.mk (hbox); have GW385 := Aside0.mk ((bs hg (below_size HB.out))); have GE385 := Aside0.mk ((bs hg (below_size HB.out))); replace HB := Aside0.mk (below_step B10x6_ hb); have NB383_385 := Aside0.mk ((nl hg (blk_lt BK383.out))); have NB385_383 := Aside0.mk ((ng hg (blk_lt BK383.out))); replace BK383 := Aside0.mk (bb BK383.out hb); have NB384_385 := Aside0.mk ((nl hg (blk_lt BK384.out))); have NB385_384 := Aside0.mk ((ng hg (blk_lt BK384.out))); replace BK384 := Aside0.mk (bb BK384.out hb); clear hb hbox hg; have hnb18 := NB385_383.out; have hnc18 := NB383_385.out; have hnb19 := NB385_384.out; have hnc19 := NB384_385.out; obtain ⟨hcz20_0, hcz20_1, hcz20_2⟩ := cl3 BK385.out; obtain ⟨hfz20_0, hfz20_1, hfz20_2⟩ := fr3 BK385.out))
    have n0_ : Aside0 ((((w17.setCell ⟨gb385, 0, none⟩ (.int .i64 a1)).setCell ⟨gb385, 1, none⟩ (.int .i64 a2)).setCell ⟨gb385, 2, none⟩ (.slice none 0 0)).heap[gb383]? = some (.cells #[.int .i64 a0_0, .int .i64 a0_1, .slice A0_2 l0_2.length c0_2] 26 (0, 0))) := ⟨B10x4_⟩
    have n1_ : Aside0 ((((w17.setCell ⟨gb385, 0, none⟩ (.int .i64 a1)).setCell ⟨gb385, 1, none⟩ (.int .i64 a2)).setCell ⟨gb385, 2, none⟩ (.slice none 0 0)).heap[gb384]? = some (.cells #[.int .i64 0, .int .i64 0, .slice none 0 0] 26 (0, 0))) := ⟨B10x2_⟩
    have n2_ : Aside0 ((((w17.setCell ⟨gb385, 0, none⟩ (.int .i64 a1)).setCell ⟨gb385, 1, none⟩ (.int .i64 a2)).setCell ⟨gb385, 2, none⟩ (.slice none 0 0)).heap[gb385]? = some (.cells #[.int .i64 a1, .int .i64 a2, .slice none 0 0] 26 (0, 0))) := ⟨B10x5_⟩
    have n3_ : Aside0 (Below w.heap.size w (((w17.setCell ⟨gb385, 0, none⟩ (.int .i64 a1)).setCell ⟨gb385, 1, none⟩ (.int .i64 a2)).setCell ⟨gb385, 2, none⟩ (.slice none 0 0))) := ⟨B10x0_⟩
    (try clear BK383)
    (try clear BK384)
    (try clear BK385)
    (try clear HB)
    generalize (((w17.setCell ⟨gb385, 0, none⟩ (.int .i64 a1)).setCell ⟨gb385, 1, none⟩ (.int .i64 a2)).setCell ⟨gb385, 2, none⟩ (.slice none 0 0)) = w21 at n0_ n1_ n2_ n3_ ⊢
    have BK383 := n0_
    have BK384 := n1_
    have BK385 := n2_
    have HB := n3_
    clear n0_ n1_ n2_ n3_
    replace BK383 := Aside0.mk (blk_drew BK383.out)
    replace BK384 := Aside0.mk (blk_drew BK384.out)
    replace BK385 := Aside0.mk (blk_drew BK385.out)
    replace HB := Aside0.mk (below_drew1 HB.out)
    refine start_ (n := 17) (S := fun w' => w'.cell? ⟨gb383, 0, none⟩ = some (.int .i64 a0_0) ∧ w'.cell? ⟨gb383, 1, none⟩ = some (.int .i64 a0_1) ∧ w'.cell? ⟨gb383, 2, none⟩ = some (.slice A0_2 l0_2.length c0_2)) (ds := []) #[false, false, false, false, false, false, false, false, false, false, false, false, false, false, false, false, false] B10x11_ rfl rfl ⟨(blk_cell BK383.out 0).trans rfl, (blk_cell BK383.out 1).trans rfl, (blk_cell BK383.out 2).trans rfl⟩ (fun hHeld => ?_); refine with_tabW spec_LogBehind.tab2 spec_LogBehind.bits2 (fun HT_ HW_ => ?_)
    generalize w21.drew = w22 at BK383 BK384 BK385 HB hHeld ⊢
    refine ta_ 0 11 HT_ HW_ hHeld ?_
    refine one_ (i := 1) (N := some 12) #[true, true, false, false, false, false, false, false, false, false, false, false, false, false, false, false, false] rfl rfl (one_of HT_.out B10x11_) (by decide) (fun K hK => ?_)
    refine goes_ Try.func12 B10x11_ rfl #[.agg #[.int .i64 a0_0, .int .i64 a0_1, .slice A0_2 l0_2.length c0_2]] (by rfl) rfl rfl B10x1_ ?_
    with_reducible refine (spec_LogOk.calls k a0_0 a0_1 _ _ l0_2 true _ ?side1 ?side2 A4.out).mono ?_
    (case side1 => exact B10x3_)
    (case side2 => exact HC0_2.out)
    rintro e w23 ⟨rfl, hb⟩
    refine ⟨_, rfl, ?_⟩
    replace BK383 := Aside0.mk (bb BK383.out hb)
    replace BK384 := Aside0.mk (bb BK384.out hb)
    replace BK385 := Aside0.mk (bb BK385.out hb)
    replace HB := Aside0.mk (below_step B10x0_ hb)
    (try clear hb)
    (try clear hb2)
    (try clear hk)
    (try clear hi)
    refine hK.out _ _ ⟨(blk_cell BK383.out 0).trans rfl, (blk_cell BK383.out 1).trans rfl, (blk_cell BK383.out 2).trans rfl⟩ (fun hHeld => ?_)
    clear hK K
    refine norm_ (a' := ?_) ?_ ?_
    rotate_left
    ·show Act.put _ (some 12) _ = _
     simp only [Act.put, List.setIfInBounds_toArray, List.set_cons_zero, List.set_cons_succ, i64_w, i32_w]
     rfl
    refine pu_ 2 13 HT_ ?_
    refine pu_ 3 14 HT_ ?_
    refine pu_ 4 15 HT_ ?_
    refine ta_ 5 16 HT_ HW_ hHeld ?_
    refine ta_ 6 17 HT_ HW_ hHeld ?_
    refine one_ (i := 7) (N := some 18) #[true, true, true, true, true, true, true, true, false, false, false, false, false, false, false, false, false] rfl rfl (one_of HT_.out B10x11_) (by decide) (fun K hK => ?_)
    refine goes_ Try.func48 B10x11_ rfl #[.agg #[.int .i64 a0_0, .int .i64 a0_1, .slice A0_2 l0_2.length c0_2]] (by rfl) rfl rfl B10x1_ ?_
    with_reducible refine (spec_l06Last.calls a0_0 a0_1 _ _ l0_2 t387 _ ?side1 ?side2 A6.out).mono ?_
    (case side1 => exact B10x3_)
    (case side2 => exact HC0_2.out)
    rintro e w24 ⟨rfl, hb⟩
    refine ⟨_, rfl, ?_⟩
    replace BK383 := Aside0.mk (bb BK383.out hb)
    replace BK384 := Aside0.mk (bb BK384.out hb)
    replace BK385 := Aside0.mk (bb BK385.out hb)
    replace HB := Aside0.mk (below_step B10x0_ hb)
    (try clear hb)
    (try clear hb2)
    (try clear hk)
    (try clear hi)
    refine hK.out _ _ ⟨(blk_cell BK383.out 0).trans rfl, (blk_cell BK383.out 1).trans rfl, (blk_cell BK383.out 2).trans rfl⟩ (fun hHeld => ?_)
    clear hK K
    refine norm_ (a' := ?_) ?_ ?_
    rotate_left
    ·show Act.put _ (some 18) _ = _
     simp only [Act.put, List.setIfInBounds_toArray, List.set_cons_zero, List.set_cons_succ, i64_w, i32_w]
     rfl
    refine one_ (i := 8) (N := some 19) #[true, true, true, true, true, true, true, true, true, false, false, false, false, false, false, false, false] rfl rfl (one_of HT_.out B10x11_) (by decide) (fun K hK => ?_)
    refine goes_ Try.func47 B10x11_ rfl #[.int .i64 a1, .int .i64 a0_0, .int .i64 t387] (by rfl) rfl rfl B10x1_ ?_
    with_reducible refine (spec_l01In.calls a1 a0_0 t387 true _ A7.out).mono ?_
    rintro e w' ⟨rfl, ⟨nd, rfl⟩⟩
    refine ⟨_, rfl, ?_⟩
    refine hK.out _ _ ⟨(blk_cell BK383.out 0).trans rfl, (blk_cell BK383.out 1).trans rfl, (blk_cell BK383.out 2).trans rfl⟩ (fun hHeld => ?_)
    clear hK K
    refine norm_ (a' := ?_) ?_ ?_
    rotate_left
    ·show Act.put _ (some 19) _ = _
     simp only [Act.put, List.setIfInBounds_toArray, List.set_cons_zero, List.set_cons_succ, i64_w, i32_w]
     rfl
    refine pu_ 9 20 HT_ ?_
    refine pu_ 10 21 HT_ ?_
    refine pu_ 12 23 HT_ ?_
    refine pu_ 14 25 HT_ ?_
    refine ta_ 11 22 HT_ HW_ hHeld ?_
    refine one_ (i := 13) (N := some 24) #[true, true, true, true, true, true, true, true, true, true, true, true, true, true, true, false, false] rfl rfl (one_of HT_.out B10x11_) (by decide) (fun K hK => ?_)
    refine goes_ Try.func56 B10x11_ rfl #[.agg #[.int .i64 a0_0, .int .i64 a0_1, .slice A0_2 l0_2.length c0_2], .int .i64 a1] (by rfl) rfl rfl B10x1_ ?_
    with_reducible refine (spec_LogTerm.calls a0_0 a0_1 _ _ l0_2 a1 t389 _ ?side1 ?side2 A9.out).mono ?_
    (case side1 => exact B10x12_)
    (case side2 => exact HC0_2.out)
    rintro e w25 ⟨rfl, hb⟩
    refine ⟨_, rfl, ?_⟩
    replace BK383 := Aside0.mk (bb BK383.out hb)
    replace BK384 := Aside0.mk (bb BK384.out hb)
    replace BK385 := Aside0.mk (bb BK385.out hb)
    replace HB := Aside0.mk (below_step B10x0_ hb)
    (try clear hb)
    (try clear hb2)
    (try clear hk)
    (try clear hi)
    refine hK.out _ _ ⟨(blk_cell BK383.out 0).trans rfl, (blk_cell BK383.out 1).trans rfl, (blk_cell BK383.out 2).trans rfl⟩ (fun hHeld => ?_)
    clear hK K
    refine norm_ (a' := ?_) ?_ ?_
    rotate_left
    ·show Act.put _ (some 24) _ = _
     simp only [Act.put, List.setIfInBounds_toArray, List.set_cons_zero, List.set_cons_succ, i64_w, i32_w]
     rfl
    refine pu_ 15 26 HT_ ?_
    refine pu_ 16 27 HT_ ?_
    refine done_ (done_of HT_.out B10x11_) ?_
    try go_wp2_with (first | ((with_reducible refine gate_dst (N := 28) rfl ?_); refine Kd.R_lit k28 _ 28 ?hg (N := 28) ?hd (xs := ([] : List (S28))) (inner := []) (ok := fun _ => True) (okp := fun _ => True) ?hr ?hp (fun _ hk => hk) trivial (Below.refl _ _) (Nat.le_refl _) (by simp) ?_; (case hd => rfl); (case hg => rfl); (case hr => exact B10x9_); (case hp => exact (Reps.none _ _)); intro v391 w26 ho27 hb hg_ hnew_; clear hg_ hnew_; (first | rw [← Ny390.out] at ho27 | (simp only [Int.reduceToNat] at ho27; rw [← Ny390.out] at ho27)); have HO392 := Aside0.mk (Kd.R_lower ho27 (below_size B10x0_)); replace BK383 := Aside0.mk (bb BK383.out hb); replace BK384 := Aside0.mk (bb BK384.out hb); replace BK385 := Aside0.mk (bb BK385.out hb); replace HB := Aside0.mk (below_step B10x0_ hb); clear hb ho27; have hnb28 := NB383_384.out; have hnc28 := NB384_383.out; obtain ⟨hcz29_0, hcz29_1, hcz29_2⟩ := cl3 BK383.out; obtain ⟨hfz29_0, hfz29_1, hfz29_2⟩ := fr3 BK383.out; have q30 : ((ji11) : Int) ≤ ((l0_2.length : Int) : Int) := of_decide_eq_true B10x13_; obtain ⟨i030, hi030, _, hsz30, _⟩ := info_parts info28; have hroom30 : l0_2.length ≤ c0_2 := HC0_2.out; have hC30 : Kd.C k28 _ A0_2 l0_2.length l0_2 := HR0_2.out; have q030 : (0 : Int) ≤ ((ji11) : Int) := of_decide_eq_true B10x13_; have hcut30 := cut_from (P := Try.prog) 24 28 .i64 Try.underlying24 hi030 3 hsz30 A0_2 l0_2.length c0_2 (ji11) q030 q30; have hr30 := Kd.C_drop (m := ((ji11) : Int).toNat) (c := c0_2) hC30 (by omega) hroom30; obtain ⟨A30, hA30⟩ : ∃ A1, A1 = (if c0_2 = ((ji11) : Int).toNat then A0_2 else (A0_2 : Option Addr).map (·.add (((ji11) : Int).toNat * 3))) := ⟨_, rfl⟩; obtain ⟨c30, hc30⟩ : ∃ c1, c1 = c0_2 - ((ji11) : Int).toNat := ⟨_, rfl⟩; have hy30 : y393.length = l0_2.length - ((ji11) : Int).toNat := (by rw [Ny393.out, List.length_drop] <;> omega); rw [show (l0_2).drop ((ji11) : Int).toNat = y393 from Ny393.out.symm] at hr30; replace hr30 : Kd.C k28 _ A30 y393.length y393 := (by rw [hA30]; exact hr30); rw [← hy30, ← hA30, ← hc30] at hcut30; have HR396 := Aside0.mk hr30; have HC396 := Aside0.mk (show y393.length ≤ c30 from (by rw [hy30, hc30]; exact Nat.sub_le_sub_right hroom30 _)); clear hr30 hC30 hroom30 hi030 hsz30 hc30; have KY30 := Aside0.mk hy30; have KA30 := Aside0.mk hA30; clear hy30 hA30; replace q30 := eq_true q30) | ((with_reducible refine gate_builtin (b := .append) (xs := #[.tmp 28, .tmp 35]) rfl ?_); at_builtin; refine Kd.R_append_rows k28 (w0 := w) w.heap.size rfl (.tmp 28) (.tmp 35) 24 28 (.agg #[(.int .i64 0), (.int .i64 0), (.string ⟨#[]⟩)]) 32 rfl Try.underlying24 info28 rfl (by decide) (by omega) v391 y390 y393 _ _ _ (fun _ => True) (fun _ => False) rfl rfl ?aO ?aR (fun _ _ h => h) (fun _ h => h.elim) ?aF ?aB ?aS ?aL ?_; (case aR => repeat (first | exact (Kd.C_below HR396.out HB.out) | (with_reducible refine Kd.C_alloc ?_ _) | (with_reducible refine Kd.C_drewN ?_ _) | (with_reducible refine Kd.C_drew ?_))); (case aB => exact B10x0_); (case aF => exact (fun _ _ => trivial)); (case aO => (with_reducible repeat (first | apply Kd.R_alloc | apply Kd.R_drewN | apply Kd.R_drew)); exact HO392.out); (case aS => exact (below_size B10x0_)); (case aL => have := LMc14.out; omega); intro v398 w31 ho hb hg hat; rw [← Ny397.out] at ho; replace BK383 := Aside0.mk (blk_grown (g := gb383) (o := .cells #[.int .i64 a0_0, .int .i64 a0_1, .slice A0_2 l0_2.length c0_2] 26 (0, 0)) (by (with_reducible repeat (first | refine blk_drewN ?_ _ | refine blk_drew ?_ | refine blk_alloc ?_ _)); exact BK383.out) hg (Kd.R_ne HO392.out BK383.out (by decide))); replace BK384 := Aside0.mk (blk_grown (g := gb384) (o := .cells #[.int .i64 0, .int .i64 0, .slice none 0 0] 26 (0, 0)) (by (with_reducible repeat (first | refine blk_drewN ?_ _ | refine blk_drew ?_ | refine blk_alloc ?_ _)); exact BK384.out) hg (Kd.R_ne HO392.out BK384.out (by decide))); replace BK385 := Aside0.mk (blk_grown (g := gb385) (o := .cells #[.int .i64 a1, .int .i64 a2, .slice none 0 0] 26 (0, 0)) (by (with_reducible repeat (first | refine blk_drewN ?_ _ | refine blk_drew ?_ | refine blk_alloc ?_ _)); exact BK385.out) hg (Kd.R_ne HO392.out BK385.out (by decide))); replace HB := Aside0.mk (hb); have HO399 := Aside0.mk (ho); clear HO392; clear ho hb hg hat; obtain ⟨Ao32, co32, eo32⟩ := Kd.R_slice HO399.out; subst eo32; obtain ⟨hcz33_0, hcz33_1, hcz33_2⟩ := cl3 BK385.out; obtain ⟨hfz33_0, hfz33_1, hfz33_2⟩ := fr3 BK385.out; obtain ⟨hcz34_0, hcz34_1, hcz34_2⟩ := cl3 BK384.out; obtain ⟨hfz34_0, hfz34_1, hfz34_2⟩ := fr3 BK384.out))
    refine bodyPost_ret (results_cell_row rfl _ _ gb384 26 #[.int .i64 a1, .int .i64 a2, .slice Ao32 y397.length co32] (0, 0) _ rfl B10x2_ Try.underlying26 rfl B10x11_) rfl ?_
    exact ⟨_, by first | rfl | (simp [errW_none, errW_some] <;> rfl) | (simp only [← hji11]; first | rfl | (simp [errW_none, errW_some] <;> rfl)) | (simp [*, errW_none, errW_some] <;> rfl), by (with_reducible repeat (first | apply Kd.R_alloc | apply Kd.R_drewN | apply Kd.R_drew)); exact Kd.R_mono (Kd.R_far (p := ⟨gb384, 2, none⟩) (Kd.R_far (p := ⟨gb384, 1, none⟩) (Kd.R_far (p := ⟨gb384, 0, none⟩) (Kd.R_far (p := ⟨gb385, 2, none⟩) (Kd.R_types (Kd.R_types HO399.out BK385.out (by decide)) BK384.out (by decide)) (fun _ hk => hk.1.2) (.slice Ao32 y397.length co32)) (fun _ hk => hk.2) (.int .i64 a1)) (fun _ hk => hk.2) (.int .i64 a2)) (fun _ hk => hk.2) (.slice Ao32 y397.length co32)) (fun _ hk => trivial), by repeat (first | (with_reducible first | exact HB.out | apply below_alloc | apply pw_below_drewN | apply below_drew1 | refine below_set ?_ GE383.out | refine below_set ?_ GE384.out | refine below_set ?_ GE385.out) | exact HB.out)⟩
   ·rw [if_neg c10] at H
    have c10b0 := beq_eq_false_iff_ne.mpr c10
    have c10b1 := bne_iff_ne.mpr c10
    simp only [Option.some.injEq, Prod.mk.injEq] at H
    obtain ⟨rfl, rfl, rfl⟩ := H
    go_enter Try.func86, Try.ntmps86
    try go_wp2_with (first | ((with_reducible refine gate_dst (N := 3) rfl ?_); refine box_event ?hg (N := 3) ?hd (cs := #[.int .i64 a0_0, .int .i64 a0_1, .slice A0_2 l0_2.length c0_2]) (t := 26) ?hr ?_; (case hd => rfl); (case hg => rfl); (case hr => exact B10x9_); intro gb383 hg w35 hbox hb; have BK383 := Aside0.mk (hbox); have GW383 := Aside0.mk ((bs hg (below_size HB.out))); have GE383 := Aside0.mk ((bs hg (below_size HB.out))); replace HB := Aside0.mk (below_step B10x10_ hb); clear hb hbox hg) | ((with_reducible refine gate_dst (N := 6) rfl ?_); refine box_event ?hg (N := 6) ?hd (cs := #[.int .i64 0, .int .i64 0, .slice none 0 0]) (t := 26) ?hr ?_; (case hd => rfl); (case hg => rfl); (case hr => exact B10x9_); intro gb384 hg w36 hbox hb; have BK384 := Aside0.mk (hbox); have GW384 := Aside0.mk ((bs hg (below_size HB.out))); have GE384 := Aside0.mk ((bs hg (below_size HB.out))); replace HB := Aside0.mk (below_step B10x8_ hb); have NB383_384 := Aside0.mk ((nl hg (blk_lt BK383.out))); have NB384_383 := Aside0.mk ((ng hg (blk_lt BK383.out))); replace BK383 := Aside0.mk (bb BK383.out hb); clear hb hbox hg) | ((with_reducible refine gate_dst (N := 7) rfl ?_); refine box_event ?hg (N := 7) ?hd (cs := #[.int .i64 0, .int .i64 0, .slice none 0 0]) (t := 26) ?hr ?_; (case hd => rfl); (case hg => rfl); (case hr => exact B10x9_); intro gb385 hg w37 hbox hb; have BK385 := Aside0.mk (hbox); have GW385 := Aside0.mk ((bs hg (below_size HB.out))); have GE385 := Aside0.mk ((bs hg (below_size HB.out))); replace HB := Aside0.mk (below_step B10x6_ hb); have NB383_385 := Aside0.mk ((nl hg (blk_lt BK383.out))); have NB385_383 := Aside0.mk ((ng hg (blk_lt BK383.out))); replace BK383 := Aside0.mk (bb BK383.out hb); have NB384_385 := Aside0.mk ((nl hg (blk_lt BK384.out))); have NB385_384 := Aside0.mk ((ng hg (blk_lt BK384.out))); replace BK384 := Aside0.mk (bb BK384.out hb); clear hb hbox hg; have hnb38 := NB385_383.out; have hnc38 := NB383_385.out; have hnb39 := NB385_384.out; have hnc39 := NB384_385.out; obtain ⟨hcz40_0, hcz40_1, hcz40_2⟩ := cl3 BK385.out; obtain ⟨hfz40_0, hfz40_1, hfz40_2⟩ := fr3 BK385.out))
    have n0_ : Aside0 ((((w37.setCell ⟨gb385, 0, none⟩ (.int .i64 a1)).setCell ⟨gb385, 1, none⟩ (.int .i64 a2)).setCell ⟨gb385, 2, none⟩ (.slice none 0 0)).heap[gb383]? = some (.cells #[.int .i64 a0_0, .int .i64 a0_1, .slice A0_2 l0_2.length c0_2] 26 (0, 0))) := ⟨B10x4_⟩
    have n1_ : Aside0 ((((w37.setCell ⟨gb385, 0, none⟩ (.int .i64 a1)).setCell ⟨gb385, 1, none⟩ (.int .i64 a2)).setCell ⟨gb385, 2, none⟩ (.slice none 0 0)).heap[gb384]? = some (.cells #[.int .i64 0, .int .i64 0, .slice none 0 0] 26 (0, 0))) := ⟨B10x2_⟩
    have n2_ : Aside0 ((((w37.setCell ⟨gb385, 0, none⟩ (.int .i64 a1)).setCell ⟨gb385, 1, none⟩ (.int .i64 a2)).setCell ⟨gb385, 2, none⟩ (.slice none 0 0)).heap[gb385]? = some (.cells #[.int .i64 a1, .int .i64 a2, .slice none 0 0] 26 (0, 0))) := ⟨B10x5_⟩
    have n3_ : Aside0 (Below w.heap.size w (((w37.setCell ⟨gb385, 0, none⟩ (.int .i64 a1)).setCell ⟨gb385, 1, none⟩ (.int .i64 a2)).setCell ⟨gb385, 2, none⟩ (.slice none 0 0))) := ⟨B10x0_⟩
    (try clear BK383)
    (try clear BK384)
    (try clear BK385)
    (try clear HB)
    generalize (((w37.setCell ⟨gb385, 0, none⟩ (.int .i64 a1)).setCell ⟨gb385, 1, none⟩ (.int .i64 a2)).setCell ⟨gb385, 2, none⟩ (.slice none 0 0)) = w41 at n0_ n1_ n2_ n3_ ⊢
    have BK383 := n0_
    have BK384 := n1_
    have BK385 := n2_
    have HB := n3_
    clear n0_ n1_ n2_ n3_
    replace BK383 := Aside0.mk (blk_drew BK383.out)
    replace BK384 := Aside0.mk (blk_drew BK384.out)
    replace BK385 := Aside0.mk (blk_drew BK385.out)
    replace HB := Aside0.mk (below_drew1 HB.out)
    refine start_ (n := 17) (S := fun w' => w'.cell? ⟨gb383, 0, none⟩ = some (.int .i64 a0_0) ∧ w'.cell? ⟨gb383, 1, none⟩ = some (.int .i64 a0_1) ∧ w'.cell? ⟨gb383, 2, none⟩ = some (.slice A0_2 l0_2.length c0_2)) (ds := []) #[false, false, false, false, false, false, false, false, false, false, false, false, false, false, false, false, false] B10x11_ rfl rfl ⟨(blk_cell BK383.out 0).trans rfl, (blk_cell BK383.out 1).trans rfl, (blk_cell BK383.out 2).trans rfl⟩ (fun hHeld => ?_); refine with_tabW spec_LogBehind.tab2 spec_LogBehind.bits2 (fun HT_ HW_ => ?_)
    generalize w41.drew = w42 at BK383 BK384 BK385 HB hHeld ⊢
    refine ta_ 0 11 HT_ HW_ hHeld ?_
    refine one_ (i := 1) (N := some 12) #[true, true, false, false, false, false, false, false, false, false, false, false, false, false, false, false, false] rfl rfl (one_of HT_.out B10x11_) (by decide) (fun K hK => ?_)
    refine goes_ Try.func12 B10x11_ rfl #[.agg #[.int .i64 a0_0, .int .i64 a0_1, .slice A0_2 l0_2.length c0_2]] (by rfl) rfl rfl B10x1_ ?_
    with_reducible refine (spec_LogOk.calls k a0_0 a0_1 _ _ l0_2 true _ ?side1 ?side2 A4.out).mono ?_
    (case side1 => exact B10x3_)
    (case side2 => exact HC0_2.out)
    rintro e w43 ⟨rfl, hb⟩
    refine ⟨_, rfl, ?_⟩
    replace BK383 := Aside0.mk (bb BK383.out hb)
    replace BK384 := Aside0.mk (bb BK384.out hb)
    replace BK385 := Aside0.mk (bb BK385.out hb)
    replace HB := Aside0.mk (below_step B10x0_ hb)
    (try clear hb)
    (try clear hb2)
    (try clear hk)
    (try clear hi)
    refine hK.out _ _ ⟨(blk_cell BK383.out 0).trans rfl, (blk_cell BK383.out 1).trans rfl, (blk_cell BK383.out 2).trans rfl⟩ (fun hHeld => ?_)
    clear hK K
    refine norm_ (a' := ?_) ?_ ?_
    rotate_left
    ·show Act.put _ (some 12) _ = _
     simp only [Act.put, List.setIfInBounds_toArray, List.set_cons_zero, List.set_cons_succ, i64_w, i32_w]
     rfl
    refine pu_ 2 13 HT_ ?_
    refine pu_ 3 14 HT_ ?_
    refine pu_ 4 15 HT_ ?_
    refine ta_ 5 16 HT_ HW_ hHeld ?_
    refine ta_ 6 17 HT_ HW_ hHeld ?_
    refine one_ (i := 7) (N := some 18) #[true, true, true, true, true, true, true, true, false, false, false, false, false, false, false, false, false] rfl rfl (one_of HT_.out B10x11_) (by decide) (fun K hK => ?_)
    refine goes_ Try.func48 B10x11_ rfl #[.agg #[.int .i64 a0_0, .int .i64 a0_1, .slice A0_2 l0_2.length c0_2]] (by rfl) rfl rfl B10x1_ ?_
    with_reducible refine (spec_l06Last.calls a0_0 a0_1 _ _ l0_2 t387 _ ?side1 ?side2 A6.out).mono ?_
    (case side1 => exact B10x3_)
    (case side2 => exact HC0_2.out)
    rintro e w44 ⟨rfl, hb⟩
    refine ⟨_, rfl, ?_⟩
    replace BK383 := Aside0.mk (bb BK383.out hb)
    replace BK384 := Aside0.mk (bb BK384.out hb)
    replace BK385 := Aside0.mk (bb BK385.out hb)
    replace HB := Aside0.mk (below_step B10x0_ hb)
    (try clear hb)
    (try clear hb2)
    (try clear hk)
    (try clear hi)
    refine hK.out _ _ ⟨(blk_cell BK383.out 0).trans rfl, (blk_cell BK383.out 1).trans rfl, (blk_cell BK383.out 2).trans rfl⟩ (fun hHeld => ?_)
    clear hK K
    refine norm_ (a' := ?_) ?_ ?_
    rotate_left
    ·show Act.put _ (some 18) _ = _
     simp only [Act.put, List.setIfInBounds_toArray, List.set_cons_zero, List.set_cons_succ, i64_w, i32_w]
     rfl
    refine one_ (i := 8) (N := some 19) #[true, true, true, true, true, true, true, true, true, false, false, false, false, false, false, false, false] rfl rfl (one_of HT_.out B10x11_) (by decide) (fun K hK => ?_)
    refine goes_ Try.func47 B10x11_ rfl #[.int .i64 a1, .int .i64 a0_0, .int .i64 t387] (by rfl) rfl rfl B10x1_ ?_
    with_reducible refine (spec_l01In.calls a1 a0_0 t387 true _ A7.out).mono ?_
    rintro e w' ⟨rfl, ⟨nd, rfl⟩⟩
    refine ⟨_, rfl, ?_⟩
    refine hK.out _ _ ⟨(blk_cell BK383.out 0).trans rfl, (blk_cell BK383.out 1).trans rfl, (blk_cell BK383.out 2).trans rfl⟩ (fun hHeld => ?_)
    clear hK K
    refine norm_ (a' := ?_) ?_ ?_
    rotate_left
    ·show Act.put _ (some 19) _ = _
     simp only [Act.put, List.setIfInBounds_toArray, List.set_cons_zero, List.set_cons_succ, i64_w, i32_w]
     rfl
    refine pu_ 9 20 HT_ ?_
    refine pu_ 10 21 HT_ ?_
    refine pu_ 12 23 HT_ ?_
    refine pu_ 14 25 HT_ ?_
    refine ta_ 11 22 HT_ HW_ hHeld ?_
    refine one_ (i := 13) (N := some 24) #[true, true, true, true, true, true, true, true, true, true, true, true, true, true, true, false, false] rfl rfl (one_of HT_.out B10x11_) (by decide) (fun K hK => ?_)
    refine goes_ Try.func56 B10x11_ rfl #[.agg #[.int .i64 a0_0, .int .i64 a0_1, .slice A0_2 l0_2.length c0_2], .int .i64 a1] (by rfl) rfl rfl B10x1_ ?_
    with_reducible refine (spec_LogTerm.calls a0_0 a0_1 _ _ l0_2 a1 t389 _ ?side1 ?side2 A9.out).mono ?_
    (case side1 => exact B10x12_)
    (case side2 => exact HC0_2.out)
    rintro e w45 ⟨rfl, hb⟩
    refine ⟨_, rfl, ?_⟩
    replace BK383 := Aside0.mk (bb BK383.out hb)
    replace BK384 := Aside0.mk (bb BK384.out hb)
    replace BK385 := Aside0.mk (bb BK385.out hb)
    replace HB := Aside0.mk (below_step B10x0_ hb)
    (try clear hb)
    (try clear hb2)
    (try clear hk)
    (try clear hi)
    refine hK.out _ _ ⟨(blk_cell BK383.out 0).trans rfl, (blk_cell BK383.out 1).trans rfl, (blk_cell BK383.out 2).trans rfl⟩ (fun hHeld => ?_)
    clear hK K
    refine norm_ (a' := ?_) ?_ ?_
    rotate_left
    ·show Act.put _ (some 24) _ = _
     simp only [Act.put, List.setIfInBounds_toArray, List.set_cons_zero, List.set_cons_succ, i64_w, i32_w]
     rfl
    refine pu_ 15 26 HT_ ?_
    refine pu_ 16 27 HT_ ?_
    refine done_ (done_of HT_.out B10x11_) ?_
    obtain ⟨hcz46_0, hcz46_1, hcz46_2⟩ := cl3 BK385.out
    obtain ⟨hfz46_0, hfz46_1, hfz46_2⟩ := fr3 BK385.out
    have hnb47 := NB384_383.out
    have hnc47 := NB383_384.out
    obtain ⟨hcz48_0, hcz48_1, hcz48_2⟩ := cl3 BK384.out
    obtain ⟨hfz48_0, hfz48_1, hfz48_2⟩ := fr3 BK384.out
    try go_wp2
    refine bodyPost_ret (results_cell_row rfl _ _ gb384 26 #[.int .i64 a1, .int .i64 a2, .slice none 0 0] (0, 0) _ rfl B10x7_ Try.underlying26 rfl B10x11_) rfl ?_
    exact ⟨_, by first | rfl | (simp [errW_none, errW_some] <;> rfl) | (simp [*, errW_none, errW_some] <;> rfl), by first | exact Kd.R_nil _ _ _ _ _ | exact Kd.N_nil _ _ _ _ _ | exact Kd.V_nil _ _ _ _ _ | exact Kd.Q_nil _ _ _ _ _ | exact Kd.S_nil _ _ _ _ _, by repeat (first | (with_reducible first | exact HB.out | apply below_alloc | apply pw_below_drewN | apply below_drew1 | refine below_set ?_ GE383.out | refine below_set ?_ GE384.out | refine below_set ?_ GE385.out) | exact HB.out)⟩
  ·replace c8 := Bool.eq_false_iff.mpr c8
   subst c8
   rw [if_neg (show ¬ (false = true) by decide)] at H
   simp only [Option.some.injEq, Prod.mk.injEq] at H
   obtain ⟨rfl, rfl, rfl⟩ := H
   go_enter Try.func86, Try.ntmps86
   try go_wp2_with (first | ((with_reducible refine gate_dst (N := 3) rfl ?_); refine box_event ?hg (N := 3) ?hd (cs := #[.int .i64 a0_0, .int .i64 a0_1, .slice A0_2 l0_2.length c0_2]) (t := 26) ?hr ?_; (case hd => rfl); (case hg => rfl); (case hr => exact B10x9_); intro gb383 hg w49 hbox hb; have BK383 := Aside0.mk (hbox); have GW383 := Aside0.mk ((bs hg (below_size HB.out))); have GE383 := Aside0.mk ((bs hg (below_size HB.out))); replace HB := Aside0.mk (below_step B10x10_ hb); clear hb hbox hg) | ((with_reducible refine gate_dst (N := 6) rfl ?_); refine box_event ?hg (N := 6) ?hd (cs := #[.int .i64 0, .int .i64 0, .slice none 0 0]) (t := 26) ?hr ?_; (case hd => rfl); (case hg => rfl); (case hr => exact B10x9_); intro gb384 hg w50 hbox hb; have BK384 := Aside0.mk (hbox); have GW384 := Aside0.mk ((bs hg (below_size HB.out))); have GE384 := Aside0.mk ((bs hg (below_size HB.out))); replace HB := Aside0.mk (below_step B10x8_ hb); have NB383_384 := Aside0.mk ((nl hg (blk_lt BK383.out))); have NB384_383 := Aside0.mk ((ng hg (blk_lt BK383.out))); replace BK383 := Aside0.mk (bb BK383.out hb); clear hb hbox hg) | ((with_reducible refine gate_dst (N := 7) rfl ?_); refine box_event ?hg (N := 7) ?hd (cs := #[.int .i64 0, .int .i64 0, .slice none 0 0]) (t := 26) ?hr ?_; (case hd => rfl); (case hg => rfl); (case hr => exact B10x9_); intro gb385 hg w51 hbox hb; have BK385 := Aside0.mk (hbox); have GW385 := Aside0.mk ((bs hg (below_size HB.out))); have GE385 := Aside0.mk ((bs hg (below_size HB.out))); replace HB := Aside0.mk (below_step B10x6_ hb); have NB383_385 := Aside0.mk ((nl hg (blk_lt BK383.out))); have NB385_383 := Aside0.mk ((ng hg (blk_lt BK383.out))); replace BK383 := Aside0.mk (bb BK383.out hb); have NB384_385 := Aside0.mk ((nl hg (blk_lt BK384.out))); have NB385_384 := Aside0.mk ((ng hg (blk_lt BK384.out))); replace BK384 := Aside0.mk (bb BK384.out hb); clear hb hbox hg; have hnb52 := NB385_383.out; have hnc52 := NB383_385.out; have hnb53 := NB385_384.out; have hnc53 := NB384_385.out; obtain ⟨hcz54_0, hcz54_1, hcz54_2⟩ := cl3 BK385.out; obtain ⟨hfz54_0, hfz54_1, hfz54_2⟩ := fr3 BK385.out))
   have n0_ : Aside0 ((((w51.setCell ⟨gb385, 0, none⟩ (.int .i64 a1)).setCell ⟨gb385, 1, none⟩ (.int .i64 a2)).setCell ⟨gb385, 2, none⟩ (.slice none 0 0)).heap[gb383]? = some (.cells #[.int .i64 a0_0, .int .i64 a0_1, .slice A0_2 l0_2.length c0_2] 26 (0, 0))) := ⟨B10x4_⟩
   have n1_ : Aside0 ((((w51.setCell ⟨gb385, 0, none⟩ (.int .i64 a1)).setCell ⟨gb385, 1, none⟩ (.int .i64 a2)).setCell ⟨gb385, 2, none⟩ (.slice none 0 0)).heap[gb384]? = some (.cells #[.int .i64 0, .int .i64 0, .slice none 0 0] 26 (0, 0))) := ⟨B10x2_⟩
   have n2_ : Aside0 ((((w51.setCell ⟨gb385, 0, none⟩ (.int .i64 a1)).setCell ⟨gb385, 1, none⟩ (.int .i64 a2)).setCell ⟨gb385, 2, none⟩ (.slice none 0 0)).heap[gb385]? = some (.cells #[.int .i64 a1, .int .i64 a2, .slice none 0 0] 26 (0, 0))) := ⟨B10x5_⟩
   have n3_ : Aside0 (Below w.heap.size w (((w51.setCell ⟨gb385, 0, none⟩ (.int .i64 a1)).setCell ⟨gb385, 1, none⟩ (.int .i64 a2)).setCell ⟨gb385, 2, none⟩ (.slice none 0 0))) := ⟨B10x0_⟩
   (try clear BK383)
   (try clear BK384)
   (try clear BK385)
   (try clear HB)
   generalize (((w51.setCell ⟨gb385, 0, none⟩ (.int .i64 a1)).setCell ⟨gb385, 1, none⟩ (.int .i64 a2)).setCell ⟨gb385, 2, none⟩ (.slice none 0 0)) = w55 at n0_ n1_ n2_ n3_ ⊢
   have BK383 := n0_
   have BK384 := n1_
   have BK385 := n2_
   have HB := n3_
   clear n0_ n1_ n2_ n3_
   replace BK383 := Aside0.mk (blk_drew BK383.out)
   replace BK384 := Aside0.mk (blk_drew BK384.out)
   replace BK385 := Aside0.mk (blk_drew BK385.out)
   replace HB := Aside0.mk (below_drew1 HB.out)
   refine start_ (n := 17) (S := fun w' => w'.cell? ⟨gb383, 0, none⟩ = some (.int .i64 a0_0) ∧ w'.cell? ⟨gb383, 1, none⟩ = some (.int .i64 a0_1) ∧ w'.cell? ⟨gb383, 2, none⟩ = some (.slice A0_2 l0_2.length c0_2)) (ds := []) #[false, false, false, false, false, false, false, false, false, false, false, false, false, false, false, false, false] B10x11_ rfl rfl ⟨(blk_cell BK383.out 0).trans rfl, (blk_cell BK383.out 1).trans rfl, (blk_cell BK383.out 2).trans rfl⟩ (fun hHeld => ?_); refine with_tabW spec_LogBehind.tab2 spec_LogBehind.bits2 (fun HT_ HW_ => ?_)
   generalize w55.drew = w56 at BK383 BK384 BK385 HB hHeld ⊢
   refine ta_ 0 11 HT_ HW_ hHeld ?_
   refine one_ (i := 1) (N := some 12) #[true, true, false, false, false, false, false, false, false, false, false, false, false, false, false, false, false] rfl rfl (one_of HT_.out B10x11_) (by decide) (fun K hK => ?_)
   refine goes_ Try.func12 B10x11_ rfl #[.agg #[.int .i64 a0_0, .int .i64 a0_1, .slice A0_2 l0_2.length c0_2]] (by rfl) rfl rfl B10x1_ ?_
   with_reducible refine (spec_LogOk.calls k a0_0 a0_1 _ _ l0_2 true _ ?side1 ?side2 A4.out).mono ?_
   (case side1 => exact B10x3_)
   (case side2 => exact HC0_2.out)
   rintro e w57 ⟨rfl, hb⟩
   refine ⟨_, rfl, ?_⟩
   replace BK383 := Aside0.mk (bb BK383.out hb)
   replace BK384 := Aside0.mk (bb BK384.out hb)
   replace BK385 := Aside0.mk (bb BK385.out hb)
   replace HB := Aside0.mk (below_step B10x0_ hb)
   (try clear hb)
   (try clear hb2)
   (try clear hk)
   (try clear hi)
   refine hK.out _ _ ⟨(blk_cell BK383.out 0).trans rfl, (blk_cell BK383.out 1).trans rfl, (blk_cell BK383.out 2).trans rfl⟩ (fun hHeld => ?_)
   clear hK K
   refine norm_ (a' := ?_) ?_ ?_
   rotate_left
   ·show Act.put _ (some 12) _ = _
    simp only [Act.put, List.setIfInBounds_toArray, List.set_cons_zero, List.set_cons_succ, i64_w, i32_w]
    rfl
   refine pu_ 2 13 HT_ ?_
   refine pu_ 3 14 HT_ ?_
   refine pu_ 4 15 HT_ ?_
   refine ta_ 5 16 HT_ HW_ hHeld ?_
   refine ta_ 6 17 HT_ HW_ hHeld ?_
   refine one_ (i := 7) (N := some 18) #[true, true, true, true, true, true, true, true, false, false, false, false, false, false, false, false, false] rfl rfl (one_of HT_.out B10x11_) (by decide) (fun K hK => ?_)
   refine goes_ Try.func48 B10x11_ rfl #[.agg #[.int .i64 a0_0, .int .i64 a0_1, .slice A0_2 l0_2.length c0_2]] (by rfl) rfl rfl B10x1_ ?_
   with_reducible refine (spec_l06Last.calls a0_0 a0_1 _ _ l0_2 t387 _ ?side1 ?side2 A6.out).mono ?_
   (case side1 => exact B10x3_)
   (case side2 => exact HC0_2.out)
   rintro e w58 ⟨rfl, hb⟩
   refine ⟨_, rfl, ?_⟩
   replace BK383 := Aside0.mk (bb BK383.out hb)
   replace BK384 := Aside0.mk (bb BK384.out hb)
   replace BK385 := Aside0.mk (bb BK385.out hb)
   replace HB := Aside0.mk (below_step B10x0_ hb)
   (try clear hb)
   (try clear hb2)
   (try clear hk)
   (try clear hi)
   refine hK.out _ _ ⟨(blk_cell BK383.out 0).trans rfl, (blk_cell BK383.out 1).trans rfl, (blk_cell BK383.out 2).trans rfl⟩ (fun hHeld => ?_)
   clear hK K
   refine norm_ (a' := ?_) ?_ ?_
   rotate_left
   ·show Act.put _ (some 18) _ = _
    simp only [Act.put, List.setIfInBounds_toArray, List.set_cons_zero, List.set_cons_succ, i64_w, i32_w]
    rfl
   refine one_ (i := 8) (N := some 19) #[true, true, true, true, true, true, true, true, true, false, false, false, false, false, false, false, false] rfl rfl (one_of HT_.out B10x11_) (by decide) (fun K hK => ?_)
   refine goes_ Try.func47 B10x11_ rfl #[.int .i64 a1, .int .i64 a0_0, .int .i64 t387] (by rfl) rfl rfl B10x1_ ?_
   with_reducible refine (spec_l01In.calls a1 a0_0 t387 false _ A7.out).mono ?_
   rintro e w' ⟨rfl, ⟨nd, rfl⟩⟩
   refine ⟨_, rfl, ?_⟩
   refine hK.out _ _ ⟨(blk_cell BK383.out 0).trans rfl, (blk_cell BK383.out 1).trans rfl, (blk_cell BK383.out 2).trans rfl⟩ (fun hHeld => ?_)
   clear hK K
   refine norm_ (a' := ?_) ?_ ?_
   rotate_left
   ·show Act.put _ (some 19) _ = _
    simp only [Act.put, List.setIfInBounds_toArray, List.set_cons_zero, List.set_cons_succ, i64_w, i32_w]
    rfl
   refine pu_ 9 20 HT_ ?_
   refine pu_ 10 21 HT_ ?_
   refine of_ 11 22 HT_ ?_
   refine of_ 12 23 HT_ ?_
   refine of_ 13 24 HT_ ?_
   refine of_ 14 25 HT_ ?_
   refine of_ 15 26 HT_ ?_
   refine pu_ 16 27 HT_ ?_
   refine done_ (done_of HT_.out B10x11_) ?_
   obtain ⟨hcz59_0, hcz59_1, hcz59_2⟩ := cl3 BK385.out
   obtain ⟨hfz59_0, hfz59_1, hfz59_2⟩ := fr3 BK385.out
   have hnb60 := NB384_383.out
   have hnc60 := NB383_384.out
   obtain ⟨hcz61_0, hcz61_1, hcz61_2⟩ := cl3 BK384.out
   obtain ⟨hfz61_0, hfz61_1, hfz61_2⟩ := fr3 BK384.out
   try go_wp2
   refine bodyPost_ret (results_cell_row rfl _ _ gb384 26 #[.int .i64 a1, .int .i64 a2, .slice none 0 0] (0, 0) _ rfl B10x7_ Try.underlying26 rfl B10x11_) rfl ?_
   exact ⟨_, by first | rfl | (simp [errW_none, errW_some] <;> rfl) | (simp [*, errW_none, errW_some] <;> rfl), by first | exact Kd.R_nil _ _ _ _ _ | exact Kd.N_nil _ _ _ _ _ | exact Kd.V_nil _ _ _ _ _ | exact Kd.Q_nil _ _ _ _ _ | exact Kd.S_nil _ _ _ _ _, by repeat (first | (with_reducible first | exact HB.out | apply below_alloc | apply pw_below_drewN | apply below_drew1 | refine below_set ?_ GE383.out | refine below_set ?_ GE384.out | refine below_set ?_ GE385.out) | exact HB.out)⟩
 ·replace c5 := Bool.eq_false_iff.mpr c5
  subst c5
  rw [if_neg (show ¬ (false = true) by decide)] at H
  simp only [Option.some.injEq, Prod.mk.injEq] at H
  obtain ⟨rfl, rfl, rfl⟩ := H
  go_enter Try.func86, Try.ntmps86
  try go_wp2_with (first | ((with_reducible refine gate_dst (N := 3) rfl ?_); refine box_event ?hg (N := 3) ?hd (cs := #[.int .i64 a0_0, .int .i64 a0_1, .slice A0_2 l0_2.length c0_2]) (t := 26) ?hr ?_; (case hd => rfl); (case hg => rfl); (case hr => exact B10x9_); intro gb383 hg w62 hbox hb; have BK383 := Aside0.mk (hbox); have GW383 := Aside0.mk ((bs hg (below_size HB.out))); have GE383 := Aside0.mk ((bs hg (below_size HB.out))); replace HB := Aside0.mk (below_step B10x10_ hb); clear hb hbox hg) | ((with_reducible refine gate_dst (N := 6) rfl ?_); refine box_event ?hg (N := 6) ?hd (cs := #[.int .i64 0, .int .i64 0, .slice none 0 0]) (t := 26) ?hr ?_; (case hd => rfl); (case hg => rfl); (case hr => exact B10x9_); intro gb384 hg w63 hbox hb; have BK384 := Aside0.mk (hbox); have GW384 := Aside0.mk ((bs hg (below_size HB.out))); have GE384 := Aside0.mk ((bs hg (below_size HB.out))); replace HB := Aside0.mk (below_step B10x8_ hb); have NB383_384 := Aside0.mk ((nl hg (blk_lt BK383.out))); have NB384_383 := Aside0.mk ((ng hg (blk_lt BK383.out))); replace BK383 := Aside0.mk (bb BK383.out hb); clear hb hbox hg) | ((with_reducible refine gate_dst (N := 7) rfl ?_); refine box_event ?hg (N := 7) ?hd (cs := #[.int .i64 0, .int .i64 0, .slice none 0 0]) (t := 26) ?hr ?_; (case hd => rfl); (case hg => rfl); (case hr => exact B10x9_); intro gb385 hg w64 hbox hb; have BK385 := Aside0.mk (hbox); have GW385 := Aside0.mk ((bs hg (below_size HB.out))); have GE385 := Aside0.mk ((bs hg (below_size HB.out))); replace HB := Aside0.mk (below_step B10x6_ hb); have NB383_385 := Aside0.mk ((nl hg (blk_lt BK383.out))); have NB385_383 := Aside0.mk ((ng hg (blk_lt BK383.out))); replace BK383 := Aside0.mk (bb BK383.out hb); have NB384_385 := Aside0.mk ((nl hg (blk_lt BK384.out))); have NB385_384 := Aside0.mk ((ng hg (blk_lt BK384.out))); replace BK384 := Aside0.mk (bb BK384.out hb); clear hb hbox hg; have hnb65 := NB385_383.out; have hnc65 := NB383_385.out; have hnb66 := NB385_384.out; have hnc66 := NB384_385.out; obtain ⟨hcz67_0, hcz67_1, hcz67_2⟩ := cl3 BK385.out; obtain ⟨hfz67_0, hfz67_1, hfz67_2⟩ := fr3 BK385.out))
  have n0_ : Aside0 ((((w64.setCell ⟨gb385, 0, none⟩ (.int .i64 a1)).setCell ⟨gb385, 1, none⟩ (.int .i64 a2)).setCell ⟨gb385, 2, none⟩ (.slice none 0 0)).heap[gb383]? = some (.cells #[.int .i64 a0_0, .int .i64 a0_1, .slice A0_2 l0_2.length c0_2] 26 (0, 0))) := ⟨B10x4_⟩
  have n1_ : Aside0 ((((w64.setCell ⟨gb385, 0, none⟩ (.int .i64 a1)).setCell ⟨gb385, 1, none⟩ (.int .i64 a2)).setCell ⟨gb385, 2, none⟩ (.slice none 0 0)).heap[gb384]? = some (.cells #[.int .i64 0, .int .i64 0, .slice none 0 0] 26 (0, 0))) := ⟨B10x2_⟩
  have n2_ : Aside0 ((((w64.setCell ⟨gb385, 0, none⟩ (.int .i64 a1)).setCell ⟨gb385, 1, none⟩ (.int .i64 a2)).setCell ⟨gb385, 2, none⟩ (.slice none 0 0)).heap[gb385]? = some (.cells #[.int .i64 a1, .int .i64 a2, .slice none 0 0] 26 (0, 0))) := ⟨B10x5_⟩
  have n3_ : Aside0 (Below w.heap.size w (((w64.setCell ⟨gb385, 0, none⟩ (.int .i64 a1)).setCell ⟨gb385, 1, none⟩ (.int .i64 a2)).setCell ⟨gb385, 2, none⟩ (.slice none 0 0))) := ⟨B10x0_⟩
  (try clear BK383)
  (try clear BK384)
  (try clear BK385)
  (try clear HB)
  generalize (((w64.setCell ⟨gb385, 0, none⟩ (.int .i64 a1)).setCell ⟨gb385, 1, none⟩ (.int .i64 a2)).setCell ⟨gb385, 2, none⟩ (.slice none 0 0)) = w68 at n0_ n1_ n2_ n3_ ⊢
  have BK383 := n0_
  have BK384 := n1_
  have BK385 := n2_
  have HB := n3_
  clear n0_ n1_ n2_ n3_
  replace BK383 := Aside0.mk (blk_drew BK383.out)
  replace BK384 := Aside0.mk (blk_drew BK384.out)
  replace BK385 := Aside0.mk (blk_drew BK385.out)
  replace HB := Aside0.mk (below_drew1 HB.out)
  refine start_ (n := 17) (S := fun w' => w'.cell? ⟨gb383, 0, none⟩ = some (.int .i64 a0_0) ∧ w'.cell? ⟨gb383, 1, none⟩ = some (.int .i64 a0_1) ∧ w'.cell? ⟨gb383, 2, none⟩ = some (.slice A0_2 l0_2.length c0_2)) (ds := []) #[false, false, false, false, false, false, false, false, false, false, false, false, false, false, false, false, false] B10x11_ rfl rfl ⟨(blk_cell BK383.out 0).trans rfl, (blk_cell BK383.out 1).trans rfl, (blk_cell BK383.out 2).trans rfl⟩ (fun hHeld => ?_); refine with_tabW spec_LogBehind.tab2 spec_LogBehind.bits2 (fun HT_ HW_ => ?_)
  generalize w68.drew = w69 at BK383 BK384 BK385 HB hHeld ⊢
  refine ta_ 0 11 HT_ HW_ hHeld ?_
  refine one_ (i := 1) (N := some 12) #[true, true, false, false, false, false, false, false, false, false, false, false, false, false, false, false, false] rfl rfl (one_of HT_.out B10x11_) (by decide) (fun K hK => ?_)
  refine goes_ Try.func12 B10x11_ rfl #[.agg #[.int .i64 a0_0, .int .i64 a0_1, .slice A0_2 l0_2.length c0_2]] (by rfl) rfl rfl B10x1_ ?_
  with_reducible refine (spec_LogOk.calls k a0_0 a0_1 _ _ l0_2 false _ ?side1 ?side2 A4.out).mono ?_
  (case side1 => exact B10x3_)
  (case side2 => exact HC0_2.out)
  rintro e w70 ⟨rfl, hb⟩
  refine ⟨_, rfl, ?_⟩
  replace BK383 := Aside0.mk (bb BK383.out hb)
  replace BK384 := Aside0.mk (bb BK384.out hb)
  replace BK385 := Aside0.mk (bb BK385.out hb)
  replace HB := Aside0.mk (below_step B10x0_ hb)
  (try clear hb)
  (try clear hb2)
  (try clear hk)
  (try clear hi)
  refine hK.out _ _ ⟨(blk_cell BK383.out 0).trans rfl, (blk_cell BK383.out 1).trans rfl, (blk_cell BK383.out 2).trans rfl⟩ (fun hHeld => ?_)
  clear hK K
  refine norm_ (a' := ?_) ?_ ?_
  rotate_left
  ·show Act.put _ (some 12) _ = _
   simp only [Act.put, List.setIfInBounds_toArray, List.set_cons_zero, List.set_cons_succ, i64_w, i32_w]
   rfl
  refine pu_ 2 13 HT_ ?_
  refine of_ 3 14 HT_ ?_
  refine of_ 4 15 HT_ ?_
  refine of_ 5 16 HT_ ?_
  refine of_ 6 17 HT_ ?_
  refine of_ 7 18 HT_ ?_
  refine of_ 8 19 HT_ ?_
  refine pu_ 9 20 HT_ ?_
  refine pu_ 10 21 HT_ ?_
  refine of_ 11 22 HT_ ?_
  refine of_ 12 23 HT_ ?_
  refine of_ 13 24 HT_ ?_
  refine of_ 14 25 HT_ ?_
  refine of_ 15 26 HT_ ?_
  refine pu_ 16 27 HT_ ?_
  refine done_ (done_of HT_.out B10x11_) ?_
  obtain ⟨hcz71_0, hcz71_1, hcz71_2⟩ := cl3 BK385.out
  obtain ⟨hfz71_0, hfz71_1, hfz71_2⟩ := fr3 BK385.out
  have hnb72 := NB384_383.out
  have hnc72 := NB383_384.out
  obtain ⟨hcz73_0, hcz73_1, hcz73_2⟩ := cl3 BK384.out
  obtain ⟨hfz73_0, hfz73_1, hfz73_2⟩ := fr3 BK384.out
  try go_wp2
  refine bodyPost_ret (results_cell_row rfl _ _ gb384 26 #[.int .i64 a1, .int .i64 a2, .slice none 0 0] (0, 0) _ rfl B10x7_ Try.underlying26 rfl B10x11_) rfl ?_
  exact ⟨_, by first | rfl | (simp [errW_none, errW_some] <;> rfl) | (simp [*, errW_none, errW_some] <;> rfl), by first | exact Kd.R_nil _ _ _ _ _ | exact Kd.N_nil _ _ _ _ _ | exact Kd.V_nil _ _ _ _ _ | exact Kd.Q_nil _ _ _ _ _ | exact Kd.S_nil _ _ _ _ _, by repeat (first | (with_reducible first | exact HB.out | apply below_alloc | apply pw_below_drewN | apply below_drew1 | refine below_set ?_ GE383.out | refine below_set ?_ GE384.out | refine below_set ?_ GE385.out) | exact HB.out)⟩

end Go.Proofs.Ytgffdijodnpolaa.QFnLogs
