/- Functions that a law reaches, as functions of Lean, and the walks that show that the calls come to their answers: written by a program of this project out of the translation. No condition. -/
import Derived.Test.YtmknnoeggkgkgaaQFnExactPushx0
import Derived.Test.YtmknnoeggkgkgaaVFnExactPushShort4
import Derived.Test.YtmknnoeggkgkgaaVFnExactPushhort3
import Derived.Test.YtmknnoeggkgkgaaVFnExactPushShort2
import Derived.Test.YtmknnoeggkgkgaaVFnExactPushShort
namespace Go.Proofs.Ytmknnoeggkgkgaa.QFnExactPush
open Go.RowKit Go.Proofs.YtmknnoeggkgkgaaW.PrintWords Go.Proofs.YtmknnoeggkgkgaaW.PrintLast Go.Proofs.YtmknnoeggkgkgaaW.PrintMore Go.Proofs.Ytmknnoeggkgkgaa.Short
attribute [local go_sem] max2_int min2_int max_two min_two max_three min_three max_four min_four   -- for this text's walks alone
set_option linter.unusedVariables false
set_option linter.unusedSimpArgs false

theorem B11x0_ {p : Prop} (h : p := by repeat (first | (with_reducible first | exact HB.out | apply below_alloc | apply pw_below_drewN | apply below_drew1) | exact HB.out)) : p := h
theorem B11x1_ {p : Prop} (h : p := by repeat (first | (with_reducible first | exact HB.out | apply below_alloc | apply pw_below_drewN | apply below_drew1 | refine below_set ?_ GE382.out | refine below_set ?_ GE383.out) | exact HB.out)) : p := h
theorem B11x2_ {p : Prop} (h : p := by first | rfl | (simp [errW_none, errW_some] <;> rfl) | (simp [*, errW_none, errW_some] <;> rfl)) : p := h
theorem B11x3_ {p : Prop} (h : p := by repeat (first | (with_reducible first | exact HB.out | apply below_alloc | apply pw_below_drewN | apply below_drew1 | refine below_set ?_ GE382.out) | exact HB.out)) : p := h
theorem B11x4_ {p : Prop} (h : p := by first | (go_simp; done) | (go_simp; rfl)) : p := h
theorem B11x5_ {p : Prop} (h : p := by (try simp only [List.map_toArray, List.map_cons, List.map_nil]); first | done | rfl | (simp only [List.length_drop, List.length_take]; rfl)) : p := h
theorem B11x6_ {p : Prop} (h : p := by repeat (first | (with_reducible first | exact HB.out | apply below_alloc | apply pw_below_drewN | apply below_drew1 | refine below_set ?_ GE385.out | refine below_set ?_ GE386.out) | exact HB.out)) : p := h
theorem B11x7_ {p : Prop} (h : p := by repeat (first | exact (Kd.C_below HR0_9.out HB.out) | (with_reducible refine Kd.C_alloc ?_ _) | (with_reducible refine Kd.C_drewN ?_ _) | (with_reducible refine Kd.C_drew ?_))) : p := h
theorem B11x8_ {p : Prop} (h : p := by repeat (first | exact (Kd.C_below HR1_9.out HB.out) | (with_reducible refine Kd.C_alloc ?_ _) | (with_reducible refine Kd.C_drewN ?_ _) | (with_reducible refine Kd.C_drew ?_))) : p := h
theorem B11x9_ {p : Prop} (h : p := by repeat (first | (with_reducible first | exact HB.out | apply below_alloc | apply pw_below_drewN | apply below_drew1 | refine below_set ?_ GE385.out) | exact HB.out)) : p := h
theorem B11x10_ {p : Prop} (h : p := by repeat (first | (with_reducible first | exact HB.out | apply below_alloc | apply pw_below_drewN | apply below_drew1 | refine below_set ?_ GE377.out | refine below_set ?_ GE378.out) | exact HB.out)) : p := h
theorem B11x11_ {p : Prop} (h : p := by first | (with_reducible assumption) | assumption) : p := h
theorem B11x12_ {p : Prop} (h : p := by repeat (first | (with_reducible first | exact HB.out | apply below_alloc | apply pw_below_drewN | apply below_drew1 | refine below_set ?_ GE377.out) | exact HB.out)) : p := h
theorem B11x13_ {p : Prop} (h : p := by kernel_rfl) : p := h
/-! ### laws_eqLate: function 136 -/
def laws_eqLate.f (a0_0 : Int) (a0_1 : ByteArray) (a1_0 : Int) (a1_1 : ByteArray) : Option (Bool) := if a0_0 = a1_0 then (if a0_1.toList = a1_1.toList then (some true) else (some false)) else (some false)
set_option maxHeartbeats 8000000 in
set_option maxRecDepth 100000 in
theorem laws_eqLate.calls (a0_0 : Int) (a0_1 : ByteArray) (a1_0 : Int) (a1_1 : ByteArray) (r : Bool) (w : World) (h : laws_eqLate.f a0_0 a0_1 a1_0 a1_1 = some r) :
  Calls Try.prog 136 #[.agg #[.int .i64 a0_0, .string a0_1], .agg #[.int .i64 a1_0, .string a1_1]] w fun e w' => e = .returned (.bool r) ∧ Below w.heap.size w w' := by
 have hu143 := Try.underlying143
 have HB := Aside0.mk (Below.refl w.heap.size w)
 have H : (if a0_0 = a1_0 then (if a0_1.toList = a1_1.toList then (some true) else (some false)) else (some false)) = some r := h
 clear h
 by_cases c3 : a0_0 = a1_0
 ·rw [if_pos c3] at H
  have c3b0 := beq_iff_eq.mpr c3
  have c3b1 := bne_eq_false_iff_eq.mpr c3
  clear c3
  by_cases c4 : a0_1.toList = a1_1.toList
  ·rw [if_pos c4] at H
   have c4b0 := beq_iff_eq.mpr c4
   have c4b1 := bne_eq_false_iff_eq.mpr c4
   clear c4
   obtain rfl := Option.some.inj H
   go_enter Try.func136, Try.ntmps136
   go_wp2_with (first | ((with_reducible refine gate_dst (N := 2) rfl ?_); refine box_event ?hg (N := 2) ?hd (cs := #[.int .i64 a0_0, .string a0_1]) (t := 143) ?hr ?_; (case hd => rfl); (case hg => rfl); (case hr => exact B11x4_); intro gb377 hg w5 hbox hb; have BK377 := Aside0.mk (hbox); have GW377 := Aside0.mk ((bs hg (below_size HB.out))); have GE377 := Aside0.mk ((bs hg (below_size HB.out))); replace HB := Aside0.mk (below_step B11x0_ hb); clear hb hbox hg) | ((with_reducible refine gate_dst (N := 3) rfl ?_); refine box_event ?hg (N := 3) ?hd (cs := #[.int .i64 a1_0, .string a1_1]) (t := 143) ?hr ?_; (case hd => rfl); (case hg => rfl); (case hr => exact B11x4_); intro gb378 hg w6 hbox hb; have BK378 := Aside0.mk (hbox); have GW378 := Aside0.mk ((bs hg (below_size HB.out))); have GE378 := Aside0.mk ((bs hg (below_size HB.out))); replace HB := Aside0.mk (below_step B11x12_ hb); have NB377_378 := Aside0.mk ((nl hg (blk_lt BK377.out))); have NB378_377 := Aside0.mk ((ng hg (blk_lt BK377.out))); replace BK377 := Aside0.mk (bb BK377.out hb); clear hb hbox hg; have hnb7 := NB377_378.out; have hnc7 := NB378_377.out; obtain ⟨hcz8_0, hcz8_1⟩ := cl2 BK377.out; obtain ⟨hfz8_0, hfz8_1⟩ := fr2 BK377.out; obtain ⟨hcz9_0, hcz9_1⟩ := cl2 BK378.out; obtain ⟨hfz9_0, hfz9_1⟩ := fr2 BK378.out))
   go_ret
   exact ⟨B11x2_, B11x10_⟩
  ·rw [if_neg c4] at H
   have c4b0 := beq_eq_false_iff_ne.mpr c4
   have c4b1 := bne_iff_ne.mpr c4
   obtain rfl := Option.some.inj H
   go_enter Try.func136, Try.ntmps136
   go_wp2_with (first | ((with_reducible refine gate_dst (N := 2) rfl ?_); refine box_event ?hg (N := 2) ?hd (cs := #[.int .i64 a0_0, .string a0_1]) (t := 143) ?hr ?_; (case hd => rfl); (case hg => rfl); (case hr => exact B11x4_); intro gb377 hg w10 hbox hb; have BK377 := Aside0.mk (hbox); have GW377 := Aside0.mk ((bs hg (below_size HB.out))); have GE377 := Aside0.mk ((bs hg (below_size HB.out))); replace HB := Aside0.mk (below_step B11x0_ hb); clear hb hbox hg) | ((with_reducible refine gate_dst (N := 3) rfl ?_); refine box_event ?hg (N := 3) ?hd (cs := #[.int .i64 a1_0, .string a1_1]) (t := 143) ?hr ?_; (case hd => rfl); (case hg => rfl); (case hr => exact B11x4_); intro gb378 hg w11 hbox hb; have BK378 := Aside0.mk (hbox); have GW378 := Aside0.mk ((bs hg (below_size HB.out))); have GE378 := Aside0.mk ((bs hg (below_size HB.out))); replace HB := Aside0.mk (below_step B11x12_ hb); have NB377_378 := Aside0.mk ((nl hg (blk_lt BK377.out))); have NB378_377 := Aside0.mk ((ng hg (blk_lt BK377.out))); replace BK377 := Aside0.mk (bb BK377.out hb); clear hb hbox hg; have hnb12 := NB377_378.out; have hnc12 := NB378_377.out; obtain ⟨hcz13_0, hcz13_1⟩ := cl2 BK377.out; obtain ⟨hfz13_0, hfz13_1⟩ := fr2 BK377.out; obtain ⟨hcz14_0, hcz14_1⟩ := cl2 BK378.out; obtain ⟨hfz14_0, hfz14_1⟩ := fr2 BK378.out))
   go_ret
   exact ⟨B11x2_, B11x10_⟩
 ·rw [if_neg c3] at H
  have c3b0 := beq_eq_false_iff_ne.mpr c3
  have c3b1 := bne_iff_ne.mpr c3
  obtain rfl := Option.some.inj H
  go_enter Try.func136, Try.ntmps136
  go_wp2_with (first | ((with_reducible refine gate_dst (N := 2) rfl ?_); refine box_event ?hg (N := 2) ?hd (cs := #[.int .i64 a0_0, .string a0_1]) (t := 143) ?hr ?_; (case hd => rfl); (case hg => rfl); (case hr => exact B11x4_); intro gb377 hg w15 hbox hb; have BK377 := Aside0.mk (hbox); have GW377 := Aside0.mk ((bs hg (below_size HB.out))); have GE377 := Aside0.mk ((bs hg (below_size HB.out))); replace HB := Aside0.mk (below_step B11x0_ hb); clear hb hbox hg) | ((with_reducible refine gate_dst (N := 3) rfl ?_); refine box_event ?hg (N := 3) ?hd (cs := #[.int .i64 a1_0, .string a1_1]) (t := 143) ?hr ?_; (case hd => rfl); (case hg => rfl); (case hr => exact B11x4_); intro gb378 hg w16 hbox hb; have BK378 := Aside0.mk (hbox); have GW378 := Aside0.mk ((bs hg (below_size HB.out))); have GE378 := Aside0.mk ((bs hg (below_size HB.out))); replace HB := Aside0.mk (below_step B11x12_ hb); have NB377_378 := Aside0.mk ((nl hg (blk_lt BK377.out))); have NB378_377 := Aside0.mk ((ng hg (blk_lt BK377.out))); replace BK377 := Aside0.mk (bb BK377.out hb); clear hb hbox hg; have hnb17 := NB377_378.out; have hnc17 := NB378_377.out; obtain ⟨hcz18_0, hcz18_1⟩ := cl2 BK377.out; obtain ⟨hfz18_0, hfz18_1⟩ := fr2 BK377.out; obtain ⟨hcz19_0, hcz19_1⟩ := cl2 BK378.out; obtain ⟨hfz19_0, hfz19_1⟩ := fr2 BK378.out))
  go_ret
  exact ⟨B11x2_, B11x10_⟩

/-! ### laws_eqLateS: function 77 -/
def laws_eqLateS.l0 : Nat → List (S143) → List (S143) → Int → Option (Bool)
 | 0, _, _, _ => none
 | k + 1, x0, x1, x5 => if x5 < (x0.length : Int) then (if 0 ≤ x5 then (if x5 < (x1.length : Int) then ((laws_eqLate.f ((rd_T143 x0 x5).f0) ((rd_T143 x0 x5).f1) ((rd_T143 x1 x5).f0) ((rd_T143 x1 x5).f1)).bind fun t381 => (if t381 = true then (laws_eqLateS.l0 k x0 x1 (wrap64 (x5 + 1))) else (some false))) else (none)) else (none)) else (some true)
def laws_eqLateS.f (k : Nat) (l0 : List (S143)) (l1 : List (S143)) : Option (Bool) := if (l0.length : Int) = (l1.length : Int) then (laws_eqLateS.l0 k l0 l1 0) else (some false)
theorem laws_eqLateS.mono_l : ∀ k, (∀ y0 y1 y2, LeO (laws_eqLateS.l0 k y0 y1 y2) (laws_eqLateS.l0 (k + 1) y0 y1 y2))
 | 0 => fun _ _ _ r h => by simp [laws_eqLateS.l0] at h
 | k + 1 => by
  have ih0 := laws_eqLateS.mono_l k
  ·intro y0 y1 y2
   unfold laws_eqLateS.l0
   repeat' first
   | (with_reducible exact ih0 _ _ _)
   | (with_reducible first | exact LeO.refl _ | exact LeO.none _ | refine LeO.ite ?_ ?_ | refine LeO.bind ?_ (fun _ => ?_))
   | exact ih0 _ _ _
theorem laws_eqLateS.mono : ∀ a0 a1 k, LeO (laws_eqLateS.f k a0 a1) (laws_eqLateS.f (k + 1) a0 a1) := by
 intro a0 a1 k
 have ih0 := laws_eqLateS.mono_l k
 unfold laws_eqLateS.f
 repeat' first
   | (with_reducible exact ih0 _ _ _)
   | (with_reducible first | exact LeO.refl _ | exact LeO.none _ | refine LeO.ite ?_ ?_ | refine LeO.bind ?_ (fun _ => ?_))
   | exact ih0 _ _ _
def laws_eqLateS.T6 : Bool × List (List Nat × List Nat) := (true, [([], []), ([], []), ([0, 1], [0, 1]), ([2], [2]), ([], []), ([], []), ([4, 5], [4, 5]), ([6], [6]), ([3, 7], [3, 7]), ([8], [8])])
def laws_eqLateS.B6 : List Nat := [0, 0, 3, 7, 0, 0, 48, 112, 255, 511]
theorem laws_eqLateS.tab6 : rtab .any (opsOf Try.f77 6) = laws_eqLateS.T6 := by kernel_rfl
theorem laws_eqLateS.bits6 : waitsOk laws_eqLateS.T6.2 laws_eqLateS.B6 = true := by kernel_rfl
set_option maxHeartbeats 8000000 in
set_option maxRecDepth 100000 in
theorem laws_eqLateS.calls (k : Nat) (A0 : Option Addr) (c0 : Nat) (l0 : List (S143)) (A1 : Option Addr) (c1 : Nat) (l1 : List (S143)) (r : Bool) (w : World) (hr0 : Kd.C k143 w A0 l0.length l0) (hc0 : l0.length ≤ c0) (hr1 : Kd.C k143 w A1 l1.length l1) (hc1 : l1.length ≤ c1) (h : laws_eqLateS.f k l0 l1 = some r) :
  Calls Try.prog 77 #[.slice A0 l0.length c0, .slice A1 l1.length c1] w fun e w' => e = .returned (.bool r) ∧ Below w.heap.size w w' := by
 have hu143 := Try.underlying143
 have HR0 := Aside0.mk hr0
 have HC0 := Aside0.mk hc0
 clear hr0 hc0
 have HR1 := Aside0.mk hr1
 have HC1 := Aside0.mk hc1
 clear hr1 hc1
 have HB := Aside0.mk (Below.refl w.heap.size w)
 have H : (if (l0.length : Int) = (l1.length : Int) then (laws_eqLateS.l0 k l0 l1 0) else (some false)) = some r := h
 clear h
 by_cases c3 : (l0.length : Int) = (l1.length : Int)
 ·rw [if_pos c3] at H
  have c3b0 := beq_iff_eq.mpr c3
  have c3b1 := bne_eq_false_iff_eq.mpr c3
  have c3b2 : (l0.length == l1.length) = true := by first | simpa using c3 | (simp at c3 ⊢; omega)
  clear c3
  have H' := Aside0.mk H
  clear H
  go_enter Try.func77, Try.ntmps77
  go_wp2
  go_loopg [5] k (fun kq v5 w' => ∃ (x5_1 : Int), v5 = .int .i64 x5_1 ∧ Aside0 (laws_eqLateS.l0 kq l0 l1 x5_1 = some r) ∧ Aside0 (kq ≤ k) ∧ Aside0 (Below w.heap.size w w'))
  case atStart => exact ⟨(0), (be_), H', ⟨Nat.le_refl _⟩, ⟨B11x0_⟩⟩
  case round =>
   clear H'
   try clear c1
   try clear c3
   try clear c3b0
   try clear c3b1
   try clear c3b2
   obtain ⟨x5_1, rfl, HA, HK1, HB⟩ := hrel
   cases gk with
   | zero => exact absurd HA.out (by simp [laws_eqLateS.l0])
   | succ k1 =>
    have H := HA.out
    clear HA
    simp only [laws_eqLateS.l0] at H
    by_cases c4 : x5_1 < (l0.length : Int)
    ·rw [if_pos c4] at H
     have c4b0 : decide (x5_1 < (l0.length : Int)) = true := decide_eq_true c4
     clear c4
     by_cases c5 : 0 ≤ x5_1
     rotate_left
     ·rw [if_neg c5] at H
      exact absurd H (by simp)
     rw [if_pos c5] at H
     have c5b0 : decide (0 ≤ x5_1) = true := decide_eq_true c5
     clear c5
     by_cases c6 : x5_1 < (l1.length : Int)
     rotate_left
     ·rw [if_neg c6] at H
      exact absurd H (by simp)
     rw [if_pos c6] at H
     have c6b0 : decide (x5_1 < (l1.length : Int)) = true := decide_eq_true c6
     clear c6
     replace H := bsi H
     obtain ⟨t381, A7, H⟩ := H
     (try dsimp only at H)
     by_cases c8 : t381 = true
     ·subst c8
      rw [if_pos rfl] at H
      have H' := Aside0.mk H
      clear H
      try go_wp2
      replace HB := Aside0.mk (below_drew1 HB.out)
      have p379 : 0 ≤ (x5_1 : Int) := of_decide_eq_true B11x11_
      have q379 : x5_1 < (l0.length : Int) := of_decide_eq_true B11x11_
      obtain ⟨ad379, e379, hx379_0, hx379_1⟩ := at_T143 HR0.out x5_1 p379 q379
      have hw379_1 := hx379_1
      have hw379_0 := hx379_0
      cases e379
      replace hx379_0 := (HB.out.cell (World.block_lt_of_cell? w _ hx379_0)).trans hx379_0
      replace hx379_1 := (HB.out.cell (World.block_lt_of_cell? w _ hx379_1)).trans hx379_1
      replace p379 := eq_true p379
      replace q379 := eq_true q379
      have p380 : 0 ≤ (x5_1 : Int) := of_decide_eq_true B11x11_
      have q380 : x5_1 < (l1.length : Int) := of_decide_eq_true B11x11_
      obtain ⟨ad380, e380, hx380_0, hx380_1⟩ := at_T143 HR1.out x5_1 p380 q380
      have hw380_1 := hx380_1
      have hw380_0 := hx380_0
      cases e380
      replace hx380_0 := (HB.out.cell (World.block_lt_of_cell? w _ hx380_0)).trans hx380_0
      replace hx380_1 := (HB.out.cell (World.block_lt_of_cell? w _ hx380_1)).trans hx380_1
      replace p380 := eq_true p380
      replace q380 := eq_true q380
      refine start_ (n := 10) (S := fun w' => w'.cell? (ad379.add ((x5_1).toNat * 2)) = some (.int .i64 ((rd_T143 l0 x5_1).f0)) ∧ w'.cell? ⟨(ad379.add ((x5_1).toNat * 2)).block, (ad379.add ((x5_1).toNat * 2)).off + 1, none⟩ = some (.string ((rd_T143 l0 x5_1).f1)) ∧ w'.cell? (ad380.add ((x5_1).toNat * 2)) = some (.int .i64 ((rd_T143 l1 x5_1).f0)) ∧ w'.cell? ⟨(ad380.add ((x5_1).toNat * 2)).block, (ad380.add ((x5_1).toNat * 2)).off + 1, none⟩ = some (.string ((rd_T143 l1 x5_1).f1))) (ds := []) #[false, false, false, false, false, false, false, false, false, false] B11x13_ rfl rfl ⟨((HB.out.cell (World.block_lt_of_cell? w _ hw379_0)).trans hw379_0), ((HB.out.cell (World.block_lt_of_cell? w _ hw379_1)).trans hw379_1), ((HB.out.cell (World.block_lt_of_cell? w _ hw380_0)).trans hw380_0), ((HB.out.cell (World.block_lt_of_cell? w _ hw380_1)).trans hw380_1)⟩ (fun hHeld => ?_); refine with_tabW laws_eqLateS.tab6 laws_eqLateS.bits6 (fun HT_ HW_ => ?_)
      generalize wr.drew = w9 at HB hx379_0 hx379_1 hx380_0 hx380_1 hHeld ⊢
      refine pu_ 0 17 HT_ ?_
      refine pu_ 1 18 HT_ ?_
      refine pu_ 2 19 HT_ ?_
      refine pu_ 4 21 HT_ ?_
      refine pu_ 5 22 HT_ ?_
      refine pu_ 6 23 HT_ ?_
      refine ta_ 3 20 HT_ HW_ hHeld ?_
      refine ta_ 7 24 HT_ HW_ hHeld ?_
      refine one_ (i := 8) (N := some 25) #[true, true, true, true, true, true, true, true, true, false] rfl rfl (one_of HT_.out B11x13_) (by decide) (fun K hK => ?_)
      refine goes_ Try.func136 B11x13_ rfl #[.agg #[.int .i64 ((rd_T143 l0 x5_1).f0), .string ((rd_T143 l0 x5_1).f1)], .agg #[.int .i64 ((rd_T143 l1 x5_1).f0), .string ((rd_T143 l1 x5_1).f1)]] (by rfl) rfl rfl B11x5_ ?_
      with_reducible refine (laws_eqLate.calls ((rd_T143 l0 x5_1).f0) ((rd_T143 l0 x5_1).f1) ((rd_T143 l1 x5_1).f0) ((rd_T143 l1 x5_1).f1) true _ A7.out).mono ?_
      rintro e w10 ⟨rfl, hb⟩
      refine ⟨_, rfl, ?_⟩
      replace HB := Aside0.mk (below_step B11x0_ hb)
      (try clear hb)
      (try clear hb2)
      (try clear hk)
      (try clear hi)
      refine hK.out _ _ ⟨((HB.out.cell (World.block_lt_of_cell? w _ hw379_0)).trans hw379_0), ((HB.out.cell (World.block_lt_of_cell? w _ hw379_1)).trans hw379_1), ((HB.out.cell (World.block_lt_of_cell? w _ hw380_0)).trans hw380_0), ((HB.out.cell (World.block_lt_of_cell? w _ hw380_1)).trans hw380_1)⟩ (fun hHeld => ?_)
      clear hK K
      refine norm_ (a' := ?_) ?_ ?_
      rotate_left
      ·show Act.put _ (some 25) _ = _
       simp only [Act.put, List.setIfInBounds_toArray, List.set_cons_zero, List.set_cons_succ, i64_w, i32_w]
       rfl
      refine pu_ 9 26 HT_ ?_
      refine done_ (done_of HT_.out B11x13_) ?_
      try go_wp2
      go_roundg k1
      case measure => have := HK1.out; omega
      case rel => exact ⟨(wrap64 (x5_1 + 1)), (be_), H', ⟨(by have := HK1.out; omega)⟩, ⟨B11x0_⟩⟩
     ·replace c8 := Bool.eq_false_iff.mpr c8
      subst c8
      rw [if_neg (show ¬ (false = true) by decide)] at H
      obtain rfl := Option.some.inj H
      try go_wp2
      replace HB := Aside0.mk (below_drew1 HB.out)
      have p379 : 0 ≤ (x5_1 : Int) := of_decide_eq_true B11x11_
      have q379 : x5_1 < (l0.length : Int) := of_decide_eq_true B11x11_
      obtain ⟨ad379, e379, hx379_0, hx379_1⟩ := at_T143 HR0.out x5_1 p379 q379
      have hw379_1 := hx379_1
      have hw379_0 := hx379_0
      cases e379
      replace hx379_0 := (HB.out.cell (World.block_lt_of_cell? w _ hx379_0)).trans hx379_0
      replace hx379_1 := (HB.out.cell (World.block_lt_of_cell? w _ hx379_1)).trans hx379_1
      replace p379 := eq_true p379
      replace q379 := eq_true q379
      have p380 : 0 ≤ (x5_1 : Int) := of_decide_eq_true B11x11_
      have q380 : x5_1 < (l1.length : Int) := of_decide_eq_true B11x11_
      obtain ⟨ad380, e380, hx380_0, hx380_1⟩ := at_T143 HR1.out x5_1 p380 q380
      have hw380_1 := hx380_1
      have hw380_0 := hx380_0
      cases e380
      replace hx380_0 := (HB.out.cell (World.block_lt_of_cell? w _ hx380_0)).trans hx380_0
      replace hx380_1 := (HB.out.cell (World.block_lt_of_cell? w _ hx380_1)).trans hx380_1
      replace p380 := eq_true p380
      replace q380 := eq_true q380
      refine start_ (n := 10) (S := fun w' => w'.cell? (ad379.add ((x5_1).toNat * 2)) = some (.int .i64 ((rd_T143 l0 x5_1).f0)) ∧ w'.cell? ⟨(ad379.add ((x5_1).toNat * 2)).block, (ad379.add ((x5_1).toNat * 2)).off + 1, none⟩ = some (.string ((rd_T143 l0 x5_1).f1)) ∧ w'.cell? (ad380.add ((x5_1).toNat * 2)) = some (.int .i64 ((rd_T143 l1 x5_1).f0)) ∧ w'.cell? ⟨(ad380.add ((x5_1).toNat * 2)).block, (ad380.add ((x5_1).toNat * 2)).off + 1, none⟩ = some (.string ((rd_T143 l1 x5_1).f1))) (ds := []) #[false, false, false, false, false, false, false, false, false, false] B11x13_ rfl rfl ⟨((HB.out.cell (World.block_lt_of_cell? w _ hw379_0)).trans hw379_0), ((HB.out.cell (World.block_lt_of_cell? w _ hw379_1)).trans hw379_1), ((HB.out.cell (World.block_lt_of_cell? w _ hw380_0)).trans hw380_0), ((HB.out.cell (World.block_lt_of_cell? w _ hw380_1)).trans hw380_1)⟩ (fun hHeld => ?_); refine with_tabW laws_eqLateS.tab6 laws_eqLateS.bits6 (fun HT_ HW_ => ?_)
      generalize wr.drew = w11 at HB hx379_0 hx379_1 hx380_0 hx380_1 hHeld ⊢
      refine pu_ 0 17 HT_ ?_
      refine pu_ 1 18 HT_ ?_
      refine pu_ 2 19 HT_ ?_
      refine pu_ 4 21 HT_ ?_
      refine pu_ 5 22 HT_ ?_
      refine pu_ 6 23 HT_ ?_
      refine ta_ 3 20 HT_ HW_ hHeld ?_
      refine ta_ 7 24 HT_ HW_ hHeld ?_
      refine one_ (i := 8) (N := some 25) #[true, true, true, true, true, true, true, true, true, false] rfl rfl (one_of HT_.out B11x13_) (by decide) (fun K hK => ?_)
      refine goes_ Try.func136 B11x13_ rfl #[.agg #[.int .i64 ((rd_T143 l0 x5_1).f0), .string ((rd_T143 l0 x5_1).f1)], .agg #[.int .i64 ((rd_T143 l1 x5_1).f0), .string ((rd_T143 l1 x5_1).f1)]] (by rfl) rfl rfl B11x5_ ?_
      with_reducible refine (laws_eqLate.calls ((rd_T143 l0 x5_1).f0) ((rd_T143 l0 x5_1).f1) ((rd_T143 l1 x5_1).f0) ((rd_T143 l1 x5_1).f1) false _ A7.out).mono ?_
      rintro e w12 ⟨rfl, hb⟩
      refine ⟨_, rfl, ?_⟩
      replace HB := Aside0.mk (below_step B11x0_ hb)
      (try clear hb)
      (try clear hb2)
      (try clear hk)
      (try clear hi)
      refine hK.out _ _ ⟨((HB.out.cell (World.block_lt_of_cell? w _ hw379_0)).trans hw379_0), ((HB.out.cell (World.block_lt_of_cell? w _ hw379_1)).trans hw379_1), ((HB.out.cell (World.block_lt_of_cell? w _ hw380_0)).trans hw380_0), ((HB.out.cell (World.block_lt_of_cell? w _ hw380_1)).trans hw380_1)⟩ (fun hHeld => ?_)
      clear hK K
      refine norm_ (a' := ?_) ?_ ?_
      rotate_left
      ·show Act.put _ (some 25) _ = _
       simp only [Act.put, List.setIfInBounds_toArray, List.set_cons_zero, List.set_cons_succ, i64_w, i32_w]
       rfl
      refine pu_ 9 26 HT_ ?_
      refine done_ (done_of HT_.out B11x13_) ?_
      try go_wp2
      go_ret
      exact ⟨B11x2_, B11x0_⟩
    ·rw [if_neg c4] at H
     have c4b0 : decide (x5_1 < (l0.length : Int)) = false := decide_eq_false c4
     clear c4
     obtain rfl := Option.some.inj H
     go_wp2
     go_ret
     exact ⟨B11x2_, B11x0_⟩
 ·rw [if_neg c3] at H
  have c3b0 := beq_eq_false_iff_ne.mpr c3
  have c3b1 := bne_iff_ne.mpr c3
  have c3b2 : (l0.length == l1.length) = false := by first | simpa using c3 | (simp at c3 ⊢; omega)
  obtain rfl := Option.some.inj H
  go_enter Try.func77, Try.ntmps77
  go_wp2
  go_ret
  exact ⟨B11x2_, B11x0_⟩

/-! ### laws_eqStream: function 22 -/
def laws_eqStream.f (k : Nat) (a0_0 : Int) (a0_1 : Int) (a0_2 : Int) (a0_3 : Int) (a0_4 : ByteArray) (a0_5 : Int) (a0_6 : Int) (a0_7 : Bool) (a0_8 : ByteArray) (l0_9 : List (S143)) (a0_10 : Bool) (a0_11 : Int) (a0_12 : Int) (a1_0 : Int) (a1_1 : Int) (a1_2 : Int) (a1_3 : Int) (a1_4 : ByteArray) (a1_5 : Int) (a1_6 : Int) (a1_7 : Bool) (a1_8 : ByteArray) (l1_9 : List (S143)) (a1_10 : Bool) (a1_11 : Int) (a1_12 : Int) : Option (Bool) := if a0_0 = a1_0 then (if a0_1 = a1_1 then (if a0_2 = a1_2 then (if a0_3 = a1_3 then (if a0_4.toList = a1_4.toList then (if a0_5 = a1_5 then (if a0_6 = a1_6 then (if (a0_7 != a1_7) = true then (some false) else (if a0_8.toList = a1_8.toList then ((laws_eqLateS.f k l0_9 l1_9).bind fun t384 => (if t384 = true then (if (a0_10 != a1_10) = true then (some false) else (if a0_11 = a1_11 then (if a0_12 = a1_12 then (some true) else (some false)) else (some false))) else (some false))) else (some false))) else (some false)) else (some false)) else (some false)) else (some false)) else (some false)) else (some false)) else (some false)
theorem laws_eqStream.mono : ∀ a0 a1 a2 a3 a4 a5 a6 a7 a8 a9 a10 a11 a12 a13 a14 a15 a16 a17 a18 a19 a20 a21 a22 a23 a24 a25 k, LeO (laws_eqStream.f k a0 a1 a2 a3 a4 a5 a6 a7 a8 a9 a10 a11 a12 a13 a14 a15 a16 a17 a18 a19 a20 a21 a22 a23 a24 a25) (laws_eqStream.f (k + 1) a0 a1 a2 a3 a4 a5 a6 a7 a8 a9 a10 a11 a12 a13 a14 a15 a16 a17 a18 a19 a20 a21 a22 a23 a24 a25) := by
 intro a0 a1 a2 a3 a4 a5 a6 a7 a8 a9 a10 a11 a12 a13 a14 a15 a16 a17 a18 a19 a20 a21 a22 a23 a24 a25 k
 unfold laws_eqStream.f
 repeat' first
   | (with_reducible exact laws_eqLateS.mono _ _ _)
   | (with_reducible first | exact LeO.refl _ | exact LeO.none _ | refine LeO.ite ?_ ?_ | refine LeO.bind ?_ (fun _ => ?_))
   | exact laws_eqLateS.mono _ _ _
set_option maxHeartbeats 8000000 in
set_option maxRecDepth 100000 in
theorem laws_eqStream.calls (k : Nat) (a0_0 : Int) (a0_1 : Int) (a0_2 : Int) (a0_3 : Int) (a0_4 : ByteArray) (a0_5 : Int) (a0_6 : Int) (a0_7 : Bool) (a0_8 : ByteArray) (A0_9 : Option Addr) (c0_9 : Nat) (l0_9 : List (S143)) (a0_10 : Bool) (a0_11 : Int) (a0_12 : Int) (a1_0 : Int) (a1_1 : Int) (a1_2 : Int) (a1_3 : Int) (a1_4 : ByteArray) (a1_5 : Int) (a1_6 : Int) (a1_7 : Bool) (a1_8 : ByteArray) (A1_9 : Option Addr) (c1_9 : Nat) (l1_9 : List (S143)) (a1_10 : Bool) (a1_11 : Int) (a1_12 : Int) (r : Bool) (w : World) (hr0_9 : Kd.C k143 w A0_9 l0_9.length l0_9) (hc0_9 : l0_9.length ≤ c0_9) (hr1_9 : Kd.C k143 w A1_9 l1_9.length l1_9) (hc1_9 : l1_9.length ≤ c1_9) (h : laws_eqStream.f k a0_0 a0_1 a0_2 a0_3 a0_4 a0_5 a0_6 a0_7 a0_8 l0_9 a0_10 a0_11 a0_12 a1_0 a1_1 a1_2 a1_3 a1_4 a1_5 a1_6 a1_7 a1_8 l1_9 a1_10 a1_11 a1_12 = some r) :
  Calls Try.prog 22 #[.agg #[.int .i64 a0_0, .int .i64 a0_1, .int .i64 a0_2, .int .i64 a0_3, .string a0_4, .int .i64 a0_5, .int .i64 a0_6, .bool a0_7, .string a0_8, .slice A0_9 l0_9.length c0_9, .bool a0_10, .int .i64 a0_11, .int .i64 a0_12], .agg #[.int .i64 a1_0, .int .i64 a1_1, .int .i64 a1_2, .int .i64 a1_3, .string a1_4, .int .i64 a1_5, .int .i64 a1_6, .bool a1_7, .string a1_8, .slice A1_9 l1_9.length c1_9, .bool a1_10, .int .i64 a1_11, .int .i64 a1_12]] w fun e w' => e = .returned (.bool r) ∧ Below w.heap.size w w' := by
 have hu39 := Try.underlying39
 have HR0_9 := Aside0.mk hr0_9
 have HC0_9 := Aside0.mk hc0_9
 clear hr0_9 hc0_9
 have HR1_9 := Aside0.mk hr1_9
 have HC1_9 := Aside0.mk hc1_9
 clear hr1_9 hc1_9
 have HB := Aside0.mk (Below.refl w.heap.size w)
 have H : (if a0_0 = a1_0 then (if a0_1 = a1_1 then (if a0_2 = a1_2 then (if a0_3 = a1_3 then (if a0_4.toList = a1_4.toList then (if a0_5 = a1_5 then (if a0_6 = a1_6 then (if (a0_7 != a1_7) = true then (some false) else (if a0_8.toList = a1_8.toList then ((laws_eqLateS.f k l0_9 l1_9).bind fun t384 => (if t384 = true then (if (a0_10 != a1_10) = true then (some false) else (if a0_11 = a1_11 then (if a0_12 = a1_12 then (some true) else (some false)) else (some false))) else (some false))) else (some false))) else (some false)) else (some false)) else (some false)) else (some false)) else (some false)) else (some false)) else (some false)) = some r := h
 clear h
 by_cases c3 : a0_0 = a1_0
 ·rw [if_pos c3] at H
  have c3b0 := beq_iff_eq.mpr c3
  have c3b1 := bne_eq_false_iff_eq.mpr c3
  clear c3
  by_cases c4 : a0_1 = a1_1
  ·rw [if_pos c4] at H
   have c4b0 := beq_iff_eq.mpr c4
   have c4b1 := bne_eq_false_iff_eq.mpr c4
   clear c4
   by_cases c5 : a0_2 = a1_2
   ·rw [if_pos c5] at H
    have c5b0 := beq_iff_eq.mpr c5
    have c5b1 := bne_eq_false_iff_eq.mpr c5
    clear c5
    by_cases c6 : a0_3 = a1_3
    ·rw [if_pos c6] at H
     have c6b0 := beq_iff_eq.mpr c6
     have c6b1 := bne_eq_false_iff_eq.mpr c6
     clear c6
     by_cases c7 : a0_4.toList = a1_4.toList
     ·rw [if_pos c7] at H
      have c7b0 := beq_iff_eq.mpr c7
      have c7b1 := bne_eq_false_iff_eq.mpr c7
      clear c7
      by_cases c8 : a0_5 = a1_5
      ·rw [if_pos c8] at H
       have c8b0 := beq_iff_eq.mpr c8
       have c8b1 := bne_eq_false_iff_eq.mpr c8
       clear c8
       by_cases c9 : a0_6 = a1_6
       ·rw [if_pos c9] at H
        have c9b0 := beq_iff_eq.mpr c9
        have c9b1 := bne_eq_false_iff_eq.mpr c9
        clear c9
        by_cases c10 : (a0_7 != a1_7) = true
        ·rw [if_pos c10] at H
         have c10b0 : (a0_7 != a1_7) = true := c10
         (try (have c10b1 : decide (a0_7 = a1_7) = false := by simpa using c10))
         (try (have c10b2 : (a0_7 == a1_7) = false := by simpa using c10))
         (try (have c10b3 : ¬ (a0_7 = a1_7) := by simpa using c10))
         clear c10
         obtain rfl := Option.some.inj H
         go_enter Try.func22, Try.ntmps22
         go_wp2_with (first | ((with_reducible refine gate_dst (N := 2) rfl ?_); refine box_event ?hg (N := 2) ?hd (cs := #[.int .i64 a0_0, .int .i64 a0_1, .int .i64 a0_2, .int .i64 a0_3, .string a0_4, .int .i64 a0_5, .int .i64 a0_6, .bool a0_7, .string a0_8, .slice A0_9 l0_9.length c0_9, .bool a0_10, .int .i64 a0_11, .int .i64 a0_12]) (t := 39) ?hr ?_; (case hd => rfl); (case hg => rfl); (case hr => exact B11x4_); intro gb382 hg w11 hbox hb; have BK382 := Aside0.mk (hbox); have GW382 := Aside0.mk ((bs hg (below_size HB.out))); have GE382 := Aside0.mk ((bs hg (below_size HB.out))); replace HB := Aside0.mk (below_step B11x0_ hb); clear hb hbox hg) | ((with_reducible refine gate_dst (N := 3) rfl ?_); refine box_event ?hg (N := 3) ?hd (cs := #[.int .i64 a1_0, .int .i64 a1_1, .int .i64 a1_2, .int .i64 a1_3, .string a1_4, .int .i64 a1_5, .int .i64 a1_6, .bool a1_7, .string a1_8, .slice A1_9 l1_9.length c1_9, .bool a1_10, .int .i64 a1_11, .int .i64 a1_12]) (t := 39) ?hr ?_; (case hd => rfl); (case hg => rfl); (case hr => exact B11x4_); intro gb383 hg w12 hbox hb; have BK383 := Aside0.mk (hbox); have GW383 := Aside0.mk ((bs hg (below_size HB.out))); have GE383 := Aside0.mk ((bs hg (below_size HB.out))); replace HB := Aside0.mk (below_step B11x3_ hb); have NB382_383 := Aside0.mk ((nl hg (blk_lt BK382.out))); have NB383_382 := Aside0.mk ((ng hg (blk_lt BK382.out))); replace BK382 := Aside0.mk (bb BK382.out hb); clear hb hbox hg; have hnb13 := NB382_383.out; have hnc13 := NB383_382.out; obtain ⟨hcz14_0, hcz14_1, hcz14_2, hcz14_3, hcz14_4, hcz14_5, hcz14_6, hcz14_7, hcz14_8, hcz14_9, hcz14_10, hcz14_11, hcz14_12⟩ := cl13 BK382.out; obtain ⟨hfz14_0, hfz14_1, hfz14_2, hfz14_3, hfz14_4, hfz14_5, hfz14_6, hfz14_7, hfz14_8, hfz14_9, hfz14_10, hfz14_11, hfz14_12⟩ := fr13 BK382.out; obtain ⟨hcz15_0, hcz15_1, hcz15_2, hcz15_3, hcz15_4, hcz15_5, hcz15_6, hcz15_7, hcz15_8, hcz15_9, hcz15_10, hcz15_11, hcz15_12⟩ := cl13 BK383.out; obtain ⟨hfz15_0, hfz15_1, hfz15_2, hfz15_3, hfz15_4, hfz15_5, hfz15_6, hfz15_7, hfz15_8, hfz15_9, hfz15_10, hfz15_11, hfz15_12⟩ := fr13 BK383.out))
         go_ret
         exact ⟨B11x2_, B11x1_⟩
        ·rw [if_neg c10] at H
         have c10b0 : (a0_7 != a1_7) = false := by simpa using c10
         (try (have c10b1 : decide (a0_7 = a1_7) = true := by simpa using c10))
         (try (have c10b2 : (a0_7 == a1_7) = true := by simpa using c10))
         clear c10
         by_cases c16 : a0_8.toList = a1_8.toList
         ·rw [if_pos c16] at H
          have c16b0 := beq_iff_eq.mpr c16
          have c16b1 := bne_eq_false_iff_eq.mpr c16
          clear c16
          replace H := bsi H
          obtain ⟨t384, A17, H⟩ := H
          (try dsimp only at H)
          by_cases c18 : t384 = true
          ·subst c18
           rw [if_pos rfl] at H
           by_cases c19 : (a0_10 != a1_10) = true
           ·rw [if_pos c19] at H
            have c19b0 : (a0_10 != a1_10) = true := c19
            (try (have c19b1 : decide (a0_10 = a1_10) = false := by simpa using c19))
            (try (have c19b2 : (a0_10 == a1_10) = false := by simpa using c19))
            (try (have c19b3 : ¬ (a0_10 = a1_10) := by simpa using c19))
            clear c19
            obtain rfl := Option.some.inj H
            go_enter Try.func22, Try.ntmps22
            go_wp2_with (first | ((with_reducible refine gate_dst (N := 2) rfl ?_); refine box_event ?hg (N := 2) ?hd (cs := #[.int .i64 a0_0, .int .i64 a0_1, .int .i64 a0_2, .int .i64 a0_3, .string a0_4, .int .i64 a0_5, .int .i64 a0_6, .bool a0_7, .string a0_8, .slice A0_9 l0_9.length c0_9, .bool a0_10, .int .i64 a0_11, .int .i64 a0_12]) (t := 39) ?hr ?_; (case hd => rfl); (case hg => rfl); (case hr => exact B11x4_); intro gb382 hg w20 hbox hb; have BK382 := Aside0.mk (hbox); have GW382 := Aside0.mk ((bs hg (below_size HB.out))); have GE382 := Aside0.mk ((bs hg (below_size HB.out))); replace HB := Aside0.mk (below_step B11x0_ hb); clear hb hbox hg) | ((with_reducible refine gate_dst (N := 3) rfl ?_); refine box_event ?hg (N := 3) ?hd (cs := #[.int .i64 a1_0, .int .i64 a1_1, .int .i64 a1_2, .int .i64 a1_3, .string a1_4, .int .i64 a1_5, .int .i64 a1_6, .bool a1_7, .string a1_8, .slice A1_9 l1_9.length c1_9, .bool a1_10, .int .i64 a1_11, .int .i64 a1_12]) (t := 39) ?hr ?_; (case hd => rfl); (case hg => rfl); (case hr => exact B11x4_); intro gb383 hg w21 hbox hb; have BK383 := Aside0.mk (hbox); have GW383 := Aside0.mk ((bs hg (below_size HB.out))); have GE383 := Aside0.mk ((bs hg (below_size HB.out))); replace HB := Aside0.mk (below_step B11x3_ hb); have NB382_383 := Aside0.mk ((nl hg (blk_lt BK382.out))); have NB383_382 := Aside0.mk ((ng hg (blk_lt BK382.out))); replace BK382 := Aside0.mk (bb BK382.out hb); clear hb hbox hg; have hnb22 := NB382_383.out; have hnc22 := NB383_382.out; obtain ⟨hcz23_0, hcz23_1, hcz23_2, hcz23_3, hcz23_4, hcz23_5, hcz23_6, hcz23_7, hcz23_8, hcz23_9, hcz23_10, hcz23_11, hcz23_12⟩ := cl13 BK382.out; obtain ⟨hfz23_0, hfz23_1, hfz23_2, hfz23_3, hfz23_4, hfz23_5, hfz23_6, hfz23_7, hfz23_8, hfz23_9, hfz23_10, hfz23_11, hfz23_12⟩ := fr13 BK382.out; obtain ⟨hcz24_0, hcz24_1, hcz24_2, hcz24_3, hcz24_4, hcz24_5, hcz24_6, hcz24_7, hcz24_8, hcz24_9, hcz24_10, hcz24_11, hcz24_12⟩ := cl13 BK383.out; obtain ⟨hfz24_0, hfz24_1, hfz24_2, hfz24_3, hfz24_4, hfz24_5, hfz24_6, hfz24_7, hfz24_8, hfz24_9, hfz24_10, hfz24_11, hfz24_12⟩ := fr13 BK383.out) | ((with_reducible refine gate_callee (f := 77) rfl ?_); refine goesL_ (some 54) rfl rfl Try.func77 B11x13_ rfl #[.slice A0_9 l0_9.length c0_9, .slice A1_9 l1_9.length c1_9] rfl B11x5_ ?_; (with_reducible refine (laws_eqLateS.calls k _ _ l0_9 _ _ l1_9 true _ ?side1 ?side2 ?side3 ?side4 A17.out).mono ?_); (case side1 => exact B11x7_); (case side2 => exact HC0_9.out); (case side3 => exact B11x8_); (case side4 => exact HC1_9.out); rintro e w25 ⟨rfl, hb⟩; refine ⟨_, rfl, ?_⟩; replace BK382 := Aside0.mk (bb BK382.out hb); replace BK383 := Aside0.mk (bb BK383.out hb); replace HB := Aside0.mk (below_step B11x1_ hb); (try clear hb); obtain ⟨hcz26_0, hcz26_1, hcz26_2, hcz26_3, hcz26_4, hcz26_5, hcz26_6, hcz26_7, hcz26_8, hcz26_9, hcz26_10, hcz26_11, hcz26_12⟩ := cl13 BK382.out; obtain ⟨hfz26_0, hfz26_1, hfz26_2, hfz26_3, hfz26_4, hfz26_5, hfz26_6, hfz26_7, hfz26_8, hfz26_9, hfz26_10, hfz26_11, hfz26_12⟩ := fr13 BK382.out; obtain ⟨hcz27_0, hcz27_1, hcz27_2, hcz27_3, hcz27_4, hcz27_5, hcz27_6, hcz27_7, hcz27_8, hcz27_9, hcz27_10, hcz27_11, hcz27_12⟩ := cl13 BK383.out; obtain ⟨hfz27_0, hfz27_1, hfz27_2, hfz27_3, hfz27_4, hfz27_5, hfz27_6, hfz27_7, hfz27_8, hfz27_9, hfz27_10, hfz27_11, hfz27_12⟩ := fr13 BK383.out))
            go_ret
            exact ⟨B11x2_, B11x1_⟩
           ·rw [if_neg c19] at H
            have c19b0 : (a0_10 != a1_10) = false := by simpa using c19
            (try (have c19b1 : decide (a0_10 = a1_10) = true := by simpa using c19))
            (try (have c19b2 : (a0_10 == a1_10) = true := by simpa using c19))
            clear c19
            by_cases c28 : a0_11 = a1_11
            ·rw [if_pos c28] at H
             have c28b0 := beq_iff_eq.mpr c28
             have c28b1 := bne_eq_false_iff_eq.mpr c28
             clear c28
             by_cases c29 : a0_12 = a1_12
             ·rw [if_pos c29] at H
              have c29b0 := beq_iff_eq.mpr c29
              have c29b1 := bne_eq_false_iff_eq.mpr c29
              clear c29
              obtain rfl := Option.some.inj H
              go_enter Try.func22, Try.ntmps22
              go_wp2_with (first | ((with_reducible refine gate_dst (N := 2) rfl ?_); refine box_event ?hg (N := 2) ?hd (cs := #[.int .i64 a0_0, .int .i64 a0_1, .int .i64 a0_2, .int .i64 a0_3, .string a0_4, .int .i64 a0_5, .int .i64 a0_6, .bool a0_7, .string a0_8, .slice A0_9 l0_9.length c0_9, .bool a0_10, .int .i64 a0_11, .int .i64 a0_12]) (t := 39) ?hr ?_; (case hd => rfl); (case hg => rfl); (case hr => exact B11x4_); intro gb382 hg w30 hbox hb; have BK382 := Aside0.mk (hbox); have GW382 := Aside0.mk ((bs hg (below_size HB.out))); have GE382 := Aside0.mk ((bs hg (below_size HB.out))); replace HB := Aside0.mk (below_step B11x0_ hb); clear hb hbox hg) | ((with_reducible refine gate_dst (N := 3) rfl ?_); refine box_event ?hg (N := 3) ?hd (cs := #[.int .i64 a1_0, .int .i64 a1_1, .int .i64 a1_2, .int .i64 a1_3, .string a1_4, .int .i64 a1_5, .int .i64 a1_6, .bool a1_7, .string a1_8, .slice A1_9 l1_9.length c1_9, .bool a1_10, .int .i64 a1_11, .int .i64 a1_12]) (t := 39) ?hr ?_; (case hd => rfl); (case hg => rfl); (case hr => exact B11x4_); intro gb383 hg w31 hbox hb; have BK383 := Aside0.mk (hbox); have GW383 := Aside0.mk ((bs hg (below_size HB.out))); have GE383 := Aside0.mk ((bs hg (below_size HB.out))); replace HB := Aside0.mk (below_step B11x3_ hb); have NB382_383 := Aside0.mk ((nl hg (blk_lt BK382.out))); have NB383_382 := Aside0.mk ((ng hg (blk_lt BK382.out))); replace BK382 := Aside0.mk (bb BK382.out hb); clear hb hbox hg; have hnb32 := NB382_383.out; have hnc32 := NB383_382.out; obtain ⟨hcz33_0, hcz33_1, hcz33_2, hcz33_3, hcz33_4, hcz33_5, hcz33_6, hcz33_7, hcz33_8, hcz33_9, hcz33_10, hcz33_11, hcz33_12⟩ := cl13 BK382.out; obtain ⟨hfz33_0, hfz33_1, hfz33_2, hfz33_3, hfz33_4, hfz33_5, hfz33_6, hfz33_7, hfz33_8, hfz33_9, hfz33_10, hfz33_11, hfz33_12⟩ := fr13 BK382.out; obtain ⟨hcz34_0, hcz34_1, hcz34_2, hcz34_3, hcz34_4, hcz34_5, hcz34_6, hcz34_7, hcz34_8, hcz34_9, hcz34_10, hcz34_11, hcz34_12⟩ := cl13 BK383.out; obtain ⟨hfz34_0, hfz34_1, hfz34_2, hfz34_3, hfz34_4, hfz34_5, hfz34_6, hfz34_7, hfz34_8, hfz34_9, hfz34_10, hfz34_11, hfz34_12⟩ := fr13 BK383.out) | ((with_reducible refine gate_callee (f := 77) rfl ?_); refine goesL_ (some 54) rfl rfl Try.func77 B11x13_ rfl #[.slice A0_9 l0_9.length c0_9, .slice A1_9 l1_9.length c1_9] rfl B11x5_ ?_; (with_reducible refine (laws_eqLateS.calls k _ _ l0_9 _ _ l1_9 true _ ?side1 ?side2 ?side3 ?side4 A17.out).mono ?_); (case side1 => exact B11x7_); (case side2 => exact HC0_9.out); (case side3 => exact B11x8_); (case side4 => exact HC1_9.out); rintro e w35 ⟨rfl, hb⟩; refine ⟨_, rfl, ?_⟩; replace BK382 := Aside0.mk (bb BK382.out hb); replace BK383 := Aside0.mk (bb BK383.out hb); replace HB := Aside0.mk (below_step B11x1_ hb); (try clear hb); obtain ⟨hcz36_0, hcz36_1, hcz36_2, hcz36_3, hcz36_4, hcz36_5, hcz36_6, hcz36_7, hcz36_8, hcz36_9, hcz36_10, hcz36_11, hcz36_12⟩ := cl13 BK382.out; obtain ⟨hfz36_0, hfz36_1, hfz36_2, hfz36_3, hfz36_4, hfz36_5, hfz36_6, hfz36_7, hfz36_8, hfz36_9, hfz36_10, hfz36_11, hfz36_12⟩ := fr13 BK382.out; obtain ⟨hcz37_0, hcz37_1, hcz37_2, hcz37_3, hcz37_4, hcz37_5, hcz37_6, hcz37_7, hcz37_8, hcz37_9, hcz37_10, hcz37_11, hcz37_12⟩ := cl13 BK383.out; obtain ⟨hfz37_0, hfz37_1, hfz37_2, hfz37_3, hfz37_4, hfz37_5, hfz37_6, hfz37_7, hfz37_8, hfz37_9, hfz37_10, hfz37_11, hfz37_12⟩ := fr13 BK383.out))
              go_ret
              exact ⟨B11x2_, B11x1_⟩
             ·rw [if_neg c29] at H
              have c29b0 := beq_eq_false_iff_ne.mpr c29
              have c29b1 := bne_iff_ne.mpr c29
              obtain rfl := Option.some.inj H
              go_enter Try.func22, Try.ntmps22
              go_wp2_with (first | ((with_reducible refine gate_dst (N := 2) rfl ?_); refine box_event ?hg (N := 2) ?hd (cs := #[.int .i64 a0_0, .int .i64 a0_1, .int .i64 a0_2, .int .i64 a0_3, .string a0_4, .int .i64 a0_5, .int .i64 a0_6, .bool a0_7, .string a0_8, .slice A0_9 l0_9.length c0_9, .bool a0_10, .int .i64 a0_11, .int .i64 a0_12]) (t := 39) ?hr ?_; (case hd => rfl); (case hg => rfl); (case hr => exact B11x4_); intro gb382 hg w38 hbox hb; have BK382 := Aside0.mk (hbox); have GW382 := Aside0.mk ((bs hg (below_size HB.out))); have GE382 := Aside0.mk ((bs hg (below_size HB.out))); replace HB := Aside0.mk (below_step B11x0_ hb); clear hb hbox hg) | ((with_reducible refine gate_dst (N := 3) rfl ?_); refine box_event ?hg (N := 3) ?hd (cs := #[.int .i64 a1_0, .int .i64 a1_1, .int .i64 a1_2, .int .i64 a1_3, .string a1_4, .int .i64 a1_5, .int .i64 a1_6, .bool a1_7, .string a1_8, .slice A1_9 l1_9.length c1_9, .bool a1_10, .int .i64 a1_11, .int .i64 a1_12]) (t := 39) ?hr ?_; (case hd => rfl); (case hg => rfl); (case hr => exact B11x4_); intro gb383 hg w39 hbox hb; have BK383 := Aside0.mk (hbox); have GW383 := Aside0.mk ((bs hg (below_size HB.out))); have GE383 := Aside0.mk ((bs hg (below_size HB.out))); replace HB := Aside0.mk (below_step B11x3_ hb); have NB382_383 := Aside0.mk ((nl hg (blk_lt BK382.out))); have NB383_382 := Aside0.mk ((ng hg (blk_lt BK382.out))); replace BK382 := Aside0.mk (bb BK382.out hb); clear hb hbox hg; have hnb40 := NB382_383.out; have hnc40 := NB383_382.out; obtain ⟨hcz41_0, hcz41_1, hcz41_2, hcz41_3, hcz41_4, hcz41_5, hcz41_6, hcz41_7, hcz41_8, hcz41_9, hcz41_10, hcz41_11, hcz41_12⟩ := cl13 BK382.out; obtain ⟨hfz41_0, hfz41_1, hfz41_2, hfz41_3, hfz41_4, hfz41_5, hfz41_6, hfz41_7, hfz41_8, hfz41_9, hfz41_10, hfz41_11, hfz41_12⟩ := fr13 BK382.out; obtain ⟨hcz42_0, hcz42_1, hcz42_2, hcz42_3, hcz42_4, hcz42_5, hcz42_6, hcz42_7, hcz42_8, hcz42_9, hcz42_10, hcz42_11, hcz42_12⟩ := cl13 BK383.out; obtain ⟨hfz42_0, hfz42_1, hfz42_2, hfz42_3, hfz42_4, hfz42_5, hfz42_6, hfz42_7, hfz42_8, hfz42_9, hfz42_10, hfz42_11, hfz42_12⟩ := fr13 BK383.out) | ((with_reducible refine gate_callee (f := 77) rfl ?_); refine goesL_ (some 54) rfl rfl Try.func77 B11x13_ rfl #[.slice A0_9 l0_9.length c0_9, .slice A1_9 l1_9.length c1_9] rfl B11x5_ ?_; (with_reducible refine (laws_eqLateS.calls k _ _ l0_9 _ _ l1_9 true _ ?side1 ?side2 ?side3 ?side4 A17.out).mono ?_); (case side1 => exact B11x7_); (case side2 => exact HC0_9.out); (case side3 => exact B11x8_); (case side4 => exact HC1_9.out); rintro e w43 ⟨rfl, hb⟩; refine ⟨_, rfl, ?_⟩; replace BK382 := Aside0.mk (bb BK382.out hb); replace BK383 := Aside0.mk (bb BK383.out hb); replace HB := Aside0.mk (below_step B11x1_ hb); (try clear hb); obtain ⟨hcz44_0, hcz44_1, hcz44_2, hcz44_3, hcz44_4, hcz44_5, hcz44_6, hcz44_7, hcz44_8, hcz44_9, hcz44_10, hcz44_11, hcz44_12⟩ := cl13 BK382.out; obtain ⟨hfz44_0, hfz44_1, hfz44_2, hfz44_3, hfz44_4, hfz44_5, hfz44_6, hfz44_7, hfz44_8, hfz44_9, hfz44_10, hfz44_11, hfz44_12⟩ := fr13 BK382.out; obtain ⟨hcz45_0, hcz45_1, hcz45_2, hcz45_3, hcz45_4, hcz45_5, hcz45_6, hcz45_7, hcz45_8, hcz45_9, hcz45_10, hcz45_11, hcz45_12⟩ := cl13 BK383.out; obtain ⟨hfz45_0, hfz45_1, hfz45_2, hfz45_3, hfz45_4, hfz45_5, hfz45_6, hfz45_7, hfz45_8, hfz45_9, hfz45_10, hfz45_11, hfz45_12⟩ := fr13 BK383.out))
              go_ret
              exact ⟨B11x2_, B11x1_⟩
            ·rw [if_neg c28] at H
             have c28b0 := beq_eq_false_iff_ne.mpr c28
             have c28b1 := bne_iff_ne.mpr c28
             obtain rfl := Option.some.inj H
             go_enter Try.func22, Try.ntmps22
             go_wp2_with (first | ((with_reducible refine gate_dst (N := 2) rfl ?_); refine box_event ?hg (N := 2) ?hd (cs := #[.int .i64 a0_0, .int .i64 a0_1, .int .i64 a0_2, .int .i64 a0_3, .string a0_4, .int .i64 a0_5, .int .i64 a0_6, .bool a0_7, .string a0_8, .slice A0_9 l0_9.length c0_9, .bool a0_10, .int .i64 a0_11, .int .i64 a0_12]) (t := 39) ?hr ?_; (case hd => rfl); (case hg => rfl); (case hr => exact B11x4_); intro gb382 hg w46 hbox hb; have BK382 := Aside0.mk (hbox); have GW382 := Aside0.mk ((bs hg (below_size HB.out))); have GE382 := Aside0.mk ((bs hg (below_size HB.out))); replace HB := Aside0.mk (below_step B11x0_ hb); clear hb hbox hg) | ((with_reducible refine gate_dst (N := 3) rfl ?_); refine box_event ?hg (N := 3) ?hd (cs := #[.int .i64 a1_0, .int .i64 a1_1, .int .i64 a1_2, .int .i64 a1_3, .string a1_4, .int .i64 a1_5, .int .i64 a1_6, .bool a1_7, .string a1_8, .slice A1_9 l1_9.length c1_9, .bool a1_10, .int .i64 a1_11, .int .i64 a1_12]) (t := 39) ?hr ?_; (case hd => rfl); (case hg => rfl); (case hr => exact B11x4_); intro gb383 hg w47 hbox hb; have BK383 := Aside0.mk (hbox); have GW383 := Aside0.mk ((bs hg (below_size HB.out))); have GE383 := Aside0.mk ((bs hg (below_size HB.out))); replace HB := Aside0.mk (below_step B11x3_ hb); have NB382_383 := Aside0.mk ((nl hg (blk_lt BK382.out))); have NB383_382 := Aside0.mk ((ng hg (blk_lt BK382.out))); replace BK382 := Aside0.mk (bb BK382.out hb); clear hb hbox hg; have hnb48 := NB382_383.out; have hnc48 := NB383_382.out; obtain ⟨hcz49_0, hcz49_1, hcz49_2, hcz49_3, hcz49_4, hcz49_5, hcz49_6, hcz49_7, hcz49_8, hcz49_9, hcz49_10, hcz49_11, hcz49_12⟩ := cl13 BK382.out; obtain ⟨hfz49_0, hfz49_1, hfz49_2, hfz49_3, hfz49_4, hfz49_5, hfz49_6, hfz49_7, hfz49_8, hfz49_9, hfz49_10, hfz49_11, hfz49_12⟩ := fr13 BK382.out; obtain ⟨hcz50_0, hcz50_1, hcz50_2, hcz50_3, hcz50_4, hcz50_5, hcz50_6, hcz50_7, hcz50_8, hcz50_9, hcz50_10, hcz50_11, hcz50_12⟩ := cl13 BK383.out; obtain ⟨hfz50_0, hfz50_1, hfz50_2, hfz50_3, hfz50_4, hfz50_5, hfz50_6, hfz50_7, hfz50_8, hfz50_9, hfz50_10, hfz50_11, hfz50_12⟩ := fr13 BK383.out) | ((with_reducible refine gate_callee (f := 77) rfl ?_); refine goesL_ (some 54) rfl rfl Try.func77 B11x13_ rfl #[.slice A0_9 l0_9.length c0_9, .slice A1_9 l1_9.length c1_9] rfl B11x5_ ?_; (with_reducible refine (laws_eqLateS.calls k _ _ l0_9 _ _ l1_9 true _ ?side1 ?side2 ?side3 ?side4 A17.out).mono ?_); (case side1 => exact B11x7_); (case side2 => exact HC0_9.out); (case side3 => exact B11x8_); (case side4 => exact HC1_9.out); rintro e w51 ⟨rfl, hb⟩; refine ⟨_, rfl, ?_⟩; replace BK382 := Aside0.mk (bb BK382.out hb); replace BK383 := Aside0.mk (bb BK383.out hb); replace HB := Aside0.mk (below_step B11x1_ hb); (try clear hb); obtain ⟨hcz52_0, hcz52_1, hcz52_2, hcz52_3, hcz52_4, hcz52_5, hcz52_6, hcz52_7, hcz52_8, hcz52_9, hcz52_10, hcz52_11, hcz52_12⟩ := cl13 BK382.out; obtain ⟨hfz52_0, hfz52_1, hfz52_2, hfz52_3, hfz52_4, hfz52_5, hfz52_6, hfz52_7, hfz52_8, hfz52_9, hfz52_10, hfz52_11, hfz52_12⟩ := fr13 BK382.out; obtain ⟨hcz53_0, hcz53_1, hcz53_2, hcz53_3, hcz53_4, hcz53_5, hcz53_6, hcz53_7, hcz53_8, hcz53_9, hcz53_10, hcz53_11, hcz53_12⟩ := cl13 BK383.out; obtain ⟨hfz53_0, hfz53_1, hfz53_2, hfz53_3, hfz53_4, hfz53_5, hfz53_6, hfz53_7, hfz53_8, hfz53_9, hfz53_10, hfz53_11, hfz53_12⟩ := fr13 BK383.out))
             go_ret
             exact ⟨B11x2_, B11x1_⟩
          ·replace c18 := Bool.eq_false_iff.mpr c18
           subst c18
           rw [if_neg (show ¬ (false = true) by decide)] at H
           obtain rfl := Option.some.inj H
           go_enter Try.func22, Try.ntmps22
           go_wp2_with (first | ((with_reducible refine gate_dst (N := 2) rfl ?_); refine box_event ?hg (N := 2) ?hd (cs := #[.int .i64 a0_0, .int .i64 a0_1, .int .i64 a0_2, .int .i64 a0_3, .string a0_4, .int .i64 a0_5, .int .i64 a0_6, .bool a0_7, .string a0_8, .slice A0_9 l0_9.length c0_9, .bool a0_10, .int .i64 a0_11, .int .i64 a0_12]) (t := 39) ?hr ?_; (case hd => rfl); (case hg => rfl); (case hr => exact B11x4_); intro gb382 hg w54 hbox hb; have BK382 := Aside0.mk (hbox); have GW382 := Aside0.mk ((bs hg (below_size HB.out))); have GE382 := Aside0.mk ((bs hg (below_size HB.out))); replace HB := Aside0.mk (below_step B11x0_ hb); clear hb hbox hg) | ((with_reducible refine gate_dst (N := 3) rfl ?_); refine box_event ?hg (N := 3) ?hd (cs := #[.int .i64 a1_0, .int .i64 a1_1, .int .i64 a1_2, .int .i64 a1_3, .string a1_4, .int .i64 a1_5, .int .i64 a1_6, .bool a1_7, .string a1_8, .slice A1_9 l1_9.length c1_9, .bool a1_10, .int .i64 a1_11, .int .i64 a1_12]) (t := 39) ?hr ?_; (case hd => rfl); (case hg => rfl); (case hr => exact B11x4_); intro gb383 hg w55 hbox hb; have BK383 := Aside0.mk (hbox); have GW383 := Aside0.mk ((bs hg (below_size HB.out))); have GE383 := Aside0.mk ((bs hg (below_size HB.out))); replace HB := Aside0.mk (below_step B11x3_ hb); have NB382_383 := Aside0.mk ((nl hg (blk_lt BK382.out))); have NB383_382 := Aside0.mk ((ng hg (blk_lt BK382.out))); replace BK382 := Aside0.mk (bb BK382.out hb); clear hb hbox hg; have hnb56 := NB382_383.out; have hnc56 := NB383_382.out; obtain ⟨hcz57_0, hcz57_1, hcz57_2, hcz57_3, hcz57_4, hcz57_5, hcz57_6, hcz57_7, hcz57_8, hcz57_9, hcz57_10, hcz57_11, hcz57_12⟩ := cl13 BK382.out; obtain ⟨hfz57_0, hfz57_1, hfz57_2, hfz57_3, hfz57_4, hfz57_5, hfz57_6, hfz57_7, hfz57_8, hfz57_9, hfz57_10, hfz57_11, hfz57_12⟩ := fr13 BK382.out; obtain ⟨hcz58_0, hcz58_1, hcz58_2, hcz58_3, hcz58_4, hcz58_5, hcz58_6, hcz58_7, hcz58_8, hcz58_9, hcz58_10, hcz58_11, hcz58_12⟩ := cl13 BK383.out; obtain ⟨hfz58_0, hfz58_1, hfz58_2, hfz58_3, hfz58_4, hfz58_5, hfz58_6, hfz58_7, hfz58_8, hfz58_9, hfz58_10, hfz58_11, hfz58_12⟩ := fr13 BK383.out) | ((with_reducible refine gate_callee (f := 77) rfl ?_); refine goesL_ (some 54) rfl rfl Try.func77 B11x13_ rfl #[.slice A0_9 l0_9.length c0_9, .slice A1_9 l1_9.length c1_9] rfl B11x5_ ?_; (with_reducible refine (laws_eqLateS.calls k _ _ l0_9 _ _ l1_9 false _ ?side1 ?side2 ?side3 ?side4 A17.out).mono ?_); (case side1 => exact B11x7_); (case side2 => exact HC0_9.out); (case side3 => exact B11x8_); (case side4 => exact HC1_9.out); rintro e w59 ⟨rfl, hb⟩; refine ⟨_, rfl, ?_⟩; replace BK382 := Aside0.mk (bb BK382.out hb); replace BK383 := Aside0.mk (bb BK383.out hb); replace HB := Aside0.mk (below_step B11x1_ hb); (try clear hb)))
           go_ret
           exact ⟨B11x2_, B11x1_⟩
         ·rw [if_neg c16] at H
          have c16b0 := beq_eq_false_iff_ne.mpr c16
          have c16b1 := bne_iff_ne.mpr c16
          obtain rfl := Option.some.inj H
          go_enter Try.func22, Try.ntmps22
          go_wp2_with (first | ((with_reducible refine gate_dst (N := 2) rfl ?_); refine box_event ?hg (N := 2) ?hd (cs := #[.int .i64 a0_0, .int .i64 a0_1, .int .i64 a0_2, .int .i64 a0_3, .string a0_4, .int .i64 a0_5, .int .i64 a0_6, .bool a0_7, .string a0_8, .slice A0_9 l0_9.length c0_9, .bool a0_10, .int .i64 a0_11, .int .i64 a0_12]) (t := 39) ?hr ?_; (case hd => rfl); (case hg => rfl); (case hr => exact B11x4_); intro gb382 hg w60 hbox hb; have BK382 := Aside0.mk (hbox); have GW382 := Aside0.mk ((bs hg (below_size HB.out))); have GE382 := Aside0.mk ((bs hg (below_size HB.out))); replace HB := Aside0.mk (below_step B11x0_ hb); clear hb hbox hg) | ((with_reducible refine gate_dst (N := 3) rfl ?_); refine box_event ?hg (N := 3) ?hd (cs := #[.int .i64 a1_0, .int .i64 a1_1, .int .i64 a1_2, .int .i64 a1_3, .string a1_4, .int .i64 a1_5, .int .i64 a1_6, .bool a1_7, .string a1_8, .slice A1_9 l1_9.length c1_9, .bool a1_10, .int .i64 a1_11, .int .i64 a1_12]) (t := 39) ?hr ?_; (case hd => rfl); (case hg => rfl); (case hr => exact B11x4_); intro gb383 hg w61 hbox hb; have BK383 := Aside0.mk (hbox); have GW383 := Aside0.mk ((bs hg (below_size HB.out))); have GE383 := Aside0.mk ((bs hg (below_size HB.out))); replace HB := Aside0.mk (below_step B11x3_ hb); have NB382_383 := Aside0.mk ((nl hg (blk_lt BK382.out))); have NB383_382 := Aside0.mk ((ng hg (blk_lt BK382.out))); replace BK382 := Aside0.mk (bb BK382.out hb); clear hb hbox hg; have hnb62 := NB382_383.out; have hnc62 := NB383_382.out; obtain ⟨hcz63_0, hcz63_1, hcz63_2, hcz63_3, hcz63_4, hcz63_5, hcz63_6, hcz63_7, hcz63_8, hcz63_9, hcz63_10, hcz63_11, hcz63_12⟩ := cl13 BK382.out; obtain ⟨hfz63_0, hfz63_1, hfz63_2, hfz63_3, hfz63_4, hfz63_5, hfz63_6, hfz63_7, hfz63_8, hfz63_9, hfz63_10, hfz63_11, hfz63_12⟩ := fr13 BK382.out; obtain ⟨hcz64_0, hcz64_1, hcz64_2, hcz64_3, hcz64_4, hcz64_5, hcz64_6, hcz64_7, hcz64_8, hcz64_9, hcz64_10, hcz64_11, hcz64_12⟩ := cl13 BK383.out; obtain ⟨hfz64_0, hfz64_1, hfz64_2, hfz64_3, hfz64_4, hfz64_5, hfz64_6, hfz64_7, hfz64_8, hfz64_9, hfz64_10, hfz64_11, hfz64_12⟩ := fr13 BK383.out))
          go_ret
          exact ⟨B11x2_, B11x1_⟩
       ·rw [if_neg c9] at H
        have c9b0 := beq_eq_false_iff_ne.mpr c9
        have c9b1 := bne_iff_ne.mpr c9
        obtain rfl := Option.some.inj H
        go_enter Try.func22, Try.ntmps22
        go_wp2_with (first | ((with_reducible refine gate_dst (N := 2) rfl ?_); refine box_event ?hg (N := 2) ?hd (cs := #[.int .i64 a0_0, .int .i64 a0_1, .int .i64 a0_2, .int .i64 a0_3, .string a0_4, .int .i64 a0_5, .int .i64 a0_6, .bool a0_7, .string a0_8, .slice A0_9 l0_9.length c0_9, .bool a0_10, .int .i64 a0_11, .int .i64 a0_12]) (t := 39) ?hr ?_; (case hd => rfl); (case hg => rfl); (case hr => exact B11x4_); intro gb382 hg w65 hbox hb; have BK382 := Aside0.mk (hbox); have GW382 := Aside0.mk ((bs hg (below_size HB.out))); have GE382 := Aside0.mk ((bs hg (below_size HB.out))); replace HB := Aside0.mk (below_step B11x0_ hb); clear hb hbox hg) | ((with_reducible refine gate_dst (N := 3) rfl ?_); refine box_event ?hg (N := 3) ?hd (cs := #[.int .i64 a1_0, .int .i64 a1_1, .int .i64 a1_2, .int .i64 a1_3, .string a1_4, .int .i64 a1_5, .int .i64 a1_6, .bool a1_7, .string a1_8, .slice A1_9 l1_9.length c1_9, .bool a1_10, .int .i64 a1_11, .int .i64 a1_12]) (t := 39) ?hr ?_; (case hd => rfl); (case hg => rfl); (case hr => exact B11x4_); intro gb383 hg w66 hbox hb; have BK383 := Aside0.mk (hbox); have GW383 := Aside0.mk ((bs hg (below_size HB.out))); have GE383 := Aside0.mk ((bs hg (below_size HB.out))); replace HB := Aside0.mk (below_step B11x3_ hb); have NB382_383 := Aside0.mk ((nl hg (blk_lt BK382.out))); have NB383_382 := Aside0.mk ((ng hg (blk_lt BK382.out))); replace BK382 := Aside0.mk (bb BK382.out hb); clear hb hbox hg; have hnb67 := NB382_383.out; have hnc67 := NB383_382.out; obtain ⟨hcz68_0, hcz68_1, hcz68_2, hcz68_3, hcz68_4, hcz68_5, hcz68_6, hcz68_7, hcz68_8, hcz68_9, hcz68_10, hcz68_11, hcz68_12⟩ := cl13 BK382.out; obtain ⟨hfz68_0, hfz68_1, hfz68_2, hfz68_3, hfz68_4, hfz68_5, hfz68_6, hfz68_7, hfz68_8, hfz68_9, hfz68_10, hfz68_11, hfz68_12⟩ := fr13 BK382.out; obtain ⟨hcz69_0, hcz69_1, hcz69_2, hcz69_3, hcz69_4, hcz69_5, hcz69_6, hcz69_7, hcz69_8, hcz69_9, hcz69_10, hcz69_11, hcz69_12⟩ := cl13 BK383.out; obtain ⟨hfz69_0, hfz69_1, hfz69_2, hfz69_3, hfz69_4, hfz69_5, hfz69_6, hfz69_7, hfz69_8, hfz69_9, hfz69_10, hfz69_11, hfz69_12⟩ := fr13 BK383.out))
        go_ret
        exact ⟨B11x2_, B11x1_⟩
      ·rw [if_neg c8] at H
       have c8b0 := beq_eq_false_iff_ne.mpr c8
       have c8b1 := bne_iff_ne.mpr c8
       obtain rfl := Option.some.inj H
       go_enter Try.func22, Try.ntmps22
       go_wp2_with (first | ((with_reducible refine gate_dst (N := 2) rfl ?_); refine box_event ?hg (N := 2) ?hd (cs := #[.int .i64 a0_0, .int .i64 a0_1, .int .i64 a0_2, .int .i64 a0_3, .string a0_4, .int .i64 a0_5, .int .i64 a0_6, .bool a0_7, .string a0_8, .slice A0_9 l0_9.length c0_9, .bool a0_10, .int .i64 a0_11, .int .i64 a0_12]) (t := 39) ?hr ?_; (case hd => rfl); (case hg => rfl); (case hr => exact B11x4_); intro gb382 hg w70 hbox hb; have BK382 := Aside0.mk (hbox); have GW382 := Aside0.mk ((bs hg (below_size HB.out))); have GE382 := Aside0.mk ((bs hg (below_size HB.out))); replace HB := Aside0.mk (below_step B11x0_ hb); clear hb hbox hg) | ((with_reducible refine gate_dst (N := 3) rfl ?_); refine box_event ?hg (N := 3) ?hd (cs := #[.int .i64 a1_0, .int .i64 a1_1, .int .i64 a1_2, .int .i64 a1_3, .string a1_4, .int .i64 a1_5, .int .i64 a1_6, .bool a1_7, .string a1_8, .slice A1_9 l1_9.length c1_9, .bool a1_10, .int .i64 a1_11, .int .i64 a1_12]) (t := 39) ?hr ?_; (case hd => rfl); (case hg => rfl); (case hr => exact B11x4_); intro gb383 hg w71 hbox hb; have BK383 := Aside0.mk (hbox); have GW383 := Aside0.mk ((bs hg (below_size HB.out))); have GE383 := Aside0.mk ((bs hg (below_size HB.out))); replace HB := Aside0.mk (below_step B11x3_ hb); have NB382_383 := Aside0.mk ((nl hg (blk_lt BK382.out))); have NB383_382 := Aside0.mk ((ng hg (blk_lt BK382.out))); replace BK382 := Aside0.mk (bb BK382.out hb); clear hb hbox hg; have hnb72 := NB382_383.out; have hnc72 := NB383_382.out; obtain ⟨hcz73_0, hcz73_1, hcz73_2, hcz73_3, hcz73_4, hcz73_5, hcz73_6, hcz73_7, hcz73_8, hcz73_9, hcz73_10, hcz73_11, hcz73_12⟩ := cl13 BK382.out; obtain ⟨hfz73_0, hfz73_1, hfz73_2, hfz73_3, hfz73_4, hfz73_5, hfz73_6, hfz73_7, hfz73_8, hfz73_9, hfz73_10, hfz73_11, hfz73_12⟩ := fr13 BK382.out; obtain ⟨hcz74_0, hcz74_1, hcz74_2, hcz74_3, hcz74_4, hcz74_5, hcz74_6, hcz74_7, hcz74_8, hcz74_9, hcz74_10, hcz74_11, hcz74_12⟩ := cl13 BK383.out; obtain ⟨hfz74_0, hfz74_1, hfz74_2, hfz74_3, hfz74_4, hfz74_5, hfz74_6, hfz74_7, hfz74_8, hfz74_9, hfz74_10, hfz74_11, hfz74_12⟩ := fr13 BK383.out))
       go_ret
       exact ⟨B11x2_, B11x1_⟩
     ·rw [if_neg c7] at H
      have c7b0 := beq_eq_false_iff_ne.mpr c7
      have c7b1 := bne_iff_ne.mpr c7
      obtain rfl := Option.some.inj H
      go_enter Try.func22, Try.ntmps22
      go_wp2_with (first | ((with_reducible refine gate_dst (N := 2) rfl ?_); refine box_event ?hg (N := 2) ?hd (cs := #[.int .i64 a0_0, .int .i64 a0_1, .int .i64 a0_2, .int .i64 a0_3, .string a0_4, .int .i64 a0_5, .int .i64 a0_6, .bool a0_7, .string a0_8, .slice A0_9 l0_9.length c0_9, .bool a0_10, .int .i64 a0_11, .int .i64 a0_12]) (t := 39) ?hr ?_; (case hd => rfl); (case hg => rfl); (case hr => exact B11x4_); intro gb382 hg w75 hbox hb; have BK382 := Aside0.mk (hbox); have GW382 := Aside0.mk ((bs hg (below_size HB.out))); have GE382 := Aside0.mk ((bs hg (below_size HB.out))); replace HB := Aside0.mk (below_step B11x0_ hb); clear hb hbox hg) | ((with_reducible refine gate_dst (N := 3) rfl ?_); refine box_event ?hg (N := 3) ?hd (cs := #[.int .i64 a1_0, .int .i64 a1_1, .int .i64 a1_2, .int .i64 a1_3, .string a1_4, .int .i64 a1_5, .int .i64 a1_6, .bool a1_7, .string a1_8, .slice A1_9 l1_9.length c1_9, .bool a1_10, .int .i64 a1_11, .int .i64 a1_12]) (t := 39) ?hr ?_; (case hd => rfl); (case hg => rfl); (case hr => exact B11x4_); intro gb383 hg w76 hbox hb; have BK383 := Aside0.mk (hbox); have GW383 := Aside0.mk ((bs hg (below_size HB.out))); have GE383 := Aside0.mk ((bs hg (below_size HB.out))); replace HB := Aside0.mk (below_step B11x3_ hb); have NB382_383 := Aside0.mk ((nl hg (blk_lt BK382.out))); have NB383_382 := Aside0.mk ((ng hg (blk_lt BK382.out))); replace BK382 := Aside0.mk (bb BK382.out hb); clear hb hbox hg; have hnb77 := NB382_383.out; have hnc77 := NB383_382.out; obtain ⟨hcz78_0, hcz78_1, hcz78_2, hcz78_3, hcz78_4, hcz78_5, hcz78_6, hcz78_7, hcz78_8, hcz78_9, hcz78_10, hcz78_11, hcz78_12⟩ := cl13 BK382.out; obtain ⟨hfz78_0, hfz78_1, hfz78_2, hfz78_3, hfz78_4, hfz78_5, hfz78_6, hfz78_7, hfz78_8, hfz78_9, hfz78_10, hfz78_11, hfz78_12⟩ := fr13 BK382.out; obtain ⟨hcz79_0, hcz79_1, hcz79_2, hcz79_3, hcz79_4, hcz79_5, hcz79_6, hcz79_7, hcz79_8, hcz79_9, hcz79_10, hcz79_11, hcz79_12⟩ := cl13 BK383.out; obtain ⟨hfz79_0, hfz79_1, hfz79_2, hfz79_3, hfz79_4, hfz79_5, hfz79_6, hfz79_7, hfz79_8, hfz79_9, hfz79_10, hfz79_11, hfz79_12⟩ := fr13 BK383.out))
      go_ret
      exact ⟨B11x2_, B11x1_⟩
    ·rw [if_neg c6] at H
     have c6b0 := beq_eq_false_iff_ne.mpr c6
     have c6b1 := bne_iff_ne.mpr c6
     obtain rfl := Option.some.inj H
     go_enter Try.func22, Try.ntmps22
     go_wp2_with (first | ((with_reducible refine gate_dst (N := 2) rfl ?_); refine box_event ?hg (N := 2) ?hd (cs := #[.int .i64 a0_0, .int .i64 a0_1, .int .i64 a0_2, .int .i64 a0_3, .string a0_4, .int .i64 a0_5, .int .i64 a0_6, .bool a0_7, .string a0_8, .slice A0_9 l0_9.length c0_9, .bool a0_10, .int .i64 a0_11, .int .i64 a0_12]) (t := 39) ?hr ?_; (case hd => rfl); (case hg => rfl); (case hr => exact B11x4_); intro gb382 hg w80 hbox hb; have BK382 := Aside0.mk (hbox); have GW382 := Aside0.mk ((bs hg (below_size HB.out))); have GE382 := Aside0.mk ((bs hg (below_size HB.out))); replace HB := Aside0.mk (below_step B11x0_ hb); clear hb hbox hg) | ((with_reducible refine gate_dst (N := 3) rfl ?_); refine box_event ?hg (N := 3) ?hd (cs := #[.int .i64 a1_0, .int .i64 a1_1, .int .i64 a1_2, .int .i64 a1_3, .string a1_4, .int .i64 a1_5, .int .i64 a1_6, .bool a1_7, .string a1_8, .slice A1_9 l1_9.length c1_9, .bool a1_10, .int .i64 a1_11, .int .i64 a1_12]) (t := 39) ?hr ?_; (case hd => rfl); (case hg => rfl); (case hr => exact B11x4_); intro gb383 hg w81 hbox hb; have BK383 := Aside0.mk (hbox); have GW383 := Aside0.mk ((bs hg (below_size HB.out))); have GE383 := Aside0.mk ((bs hg (below_size HB.out))); replace HB := Aside0.mk (below_step B11x3_ hb); have NB382_383 := Aside0.mk ((nl hg (blk_lt BK382.out))); have NB383_382 := Aside0.mk ((ng hg (blk_lt BK382.out))); replace BK382 := Aside0.mk (bb BK382.out hb); clear hb hbox hg; have hnb82 := NB382_383.out; have hnc82 := NB383_382.out; obtain ⟨hcz83_0, hcz83_1, hcz83_2, hcz83_3, hcz83_4, hcz83_5, hcz83_6, hcz83_7, hcz83_8, hcz83_9, hcz83_10, hcz83_11, hcz83_12⟩ := cl13 BK382.out; obtain ⟨hfz83_0, hfz83_1, hfz83_2, hfz83_3, hfz83_4, hfz83_5, hfz83_6, hfz83_7, hfz83_8, hfz83_9, hfz83_10, hfz83_11, hfz83_12⟩ := fr13 BK382.out; obtain ⟨hcz84_0, hcz84_1, hcz84_2, hcz84_3, hcz84_4, hcz84_5, hcz84_6, hcz84_7, hcz84_8, hcz84_9, hcz84_10, hcz84_11, hcz84_12⟩ := cl13 BK383.out; obtain ⟨hfz84_0, hfz84_1, hfz84_2, hfz84_3, hfz84_4, hfz84_5, hfz84_6, hfz84_7, hfz84_8, hfz84_9, hfz84_10, hfz84_11, hfz84_12⟩ := fr13 BK383.out))
     go_ret
     exact ⟨B11x2_, B11x1_⟩
   ·rw [if_neg c5] at H
    have c5b0 := beq_eq_false_iff_ne.mpr c5
    have c5b1 := bne_iff_ne.mpr c5
    obtain rfl := Option.some.inj H
    go_enter Try.func22, Try.ntmps22
    go_wp2_with (first | ((with_reducible refine gate_dst (N := 2) rfl ?_); refine box_event ?hg (N := 2) ?hd (cs := #[.int .i64 a0_0, .int .i64 a0_1, .int .i64 a0_2, .int .i64 a0_3, .string a0_4, .int .i64 a0_5, .int .i64 a0_6, .bool a0_7, .string a0_8, .slice A0_9 l0_9.length c0_9, .bool a0_10, .int .i64 a0_11, .int .i64 a0_12]) (t := 39) ?hr ?_; (case hd => rfl); (case hg => rfl); (case hr => exact B11x4_); intro gb382 hg w85 hbox hb; have BK382 := Aside0.mk (hbox); have GW382 := Aside0.mk ((bs hg (below_size HB.out))); have GE382 := Aside0.mk ((bs hg (below_size HB.out))); replace HB := Aside0.mk (below_step B11x0_ hb); clear hb hbox hg) | ((with_reducible refine gate_dst (N := 3) rfl ?_); refine box_event ?hg (N := 3) ?hd (cs := #[.int .i64 a1_0, .int .i64 a1_1, .int .i64 a1_2, .int .i64 a1_3, .string a1_4, .int .i64 a1_5, .int .i64 a1_6, .bool a1_7, .string a1_8, .slice A1_9 l1_9.length c1_9, .bool a1_10, .int .i64 a1_11, .int .i64 a1_12]) (t := 39) ?hr ?_; (case hd => rfl); (case hg => rfl); (case hr => exact B11x4_); intro gb383 hg w86 hbox hb; have BK383 := Aside0.mk (hbox); have GW383 := Aside0.mk ((bs hg (below_size HB.out))); have GE383 := Aside0.mk ((bs hg (below_size HB.out))); replace HB := Aside0.mk (below_step B11x3_ hb); have NB382_383 := Aside0.mk ((nl hg (blk_lt BK382.out))); have NB383_382 := Aside0.mk ((ng hg (blk_lt BK382.out))); replace BK382 := Aside0.mk (bb BK382.out hb); clear hb hbox hg; have hnb87 := NB382_383.out; have hnc87 := NB383_382.out; obtain ⟨hcz88_0, hcz88_1, hcz88_2, hcz88_3, hcz88_4, hcz88_5, hcz88_6, hcz88_7, hcz88_8, hcz88_9, hcz88_10, hcz88_11, hcz88_12⟩ := cl13 BK382.out; obtain ⟨hfz88_0, hfz88_1, hfz88_2, hfz88_3, hfz88_4, hfz88_5, hfz88_6, hfz88_7, hfz88_8, hfz88_9, hfz88_10, hfz88_11, hfz88_12⟩ := fr13 BK382.out; obtain ⟨hcz89_0, hcz89_1, hcz89_2, hcz89_3, hcz89_4, hcz89_5, hcz89_6, hcz89_7, hcz89_8, hcz89_9, hcz89_10, hcz89_11, hcz89_12⟩ := cl13 BK383.out; obtain ⟨hfz89_0, hfz89_1, hfz89_2, hfz89_3, hfz89_4, hfz89_5, hfz89_6, hfz89_7, hfz89_8, hfz89_9, hfz89_10, hfz89_11, hfz89_12⟩ := fr13 BK383.out))
    go_ret
    exact ⟨B11x2_, B11x1_⟩
  ·rw [if_neg c4] at H
   have c4b0 := beq_eq_false_iff_ne.mpr c4
   have c4b1 := bne_iff_ne.mpr c4
   obtain rfl := Option.some.inj H
   go_enter Try.func22, Try.ntmps22
   go_wp2_with (first | ((with_reducible refine gate_dst (N := 2) rfl ?_); refine box_event ?hg (N := 2) ?hd (cs := #[.int .i64 a0_0, .int .i64 a0_1, .int .i64 a0_2, .int .i64 a0_3, .string a0_4, .int .i64 a0_5, .int .i64 a0_6, .bool a0_7, .string a0_8, .slice A0_9 l0_9.length c0_9, .bool a0_10, .int .i64 a0_11, .int .i64 a0_12]) (t := 39) ?hr ?_; (case hd => rfl); (case hg => rfl); (case hr => exact B11x4_); intro gb382 hg w90 hbox hb; have BK382 := Aside0.mk (hbox); have GW382 := Aside0.mk ((bs hg (below_size HB.out))); have GE382 := Aside0.mk ((bs hg (below_size HB.out))); replace HB := Aside0.mk (below_step B11x0_ hb); clear hb hbox hg) | ((with_reducible refine gate_dst (N := 3) rfl ?_); refine box_event ?hg (N := 3) ?hd (cs := #[.int .i64 a1_0, .int .i64 a1_1, .int .i64 a1_2, .int .i64 a1_3, .string a1_4, .int .i64 a1_5, .int .i64 a1_6, .bool a1_7, .string a1_8, .slice A1_9 l1_9.length c1_9, .bool a1_10, .int .i64 a1_11, .int .i64 a1_12]) (t := 39) ?hr ?_; (case hd => rfl); (case hg => rfl); (case hr => exact B11x4_); intro gb383 hg w91 hbox hb; have BK383 := Aside0.mk (hbox); have GW383 := Aside0.mk ((bs hg (below_size HB.out))); have GE383 := Aside0.mk ((bs hg (below_size HB.out))); replace HB := Aside0.mk (below_step B11x3_ hb); have NB382_383 := Aside0.mk ((nl hg (blk_lt BK382.out))); have NB383_382 := Aside0.mk ((ng hg (blk_lt BK382.out))); replace BK382 := Aside0.mk (bb BK382.out hb); clear hb hbox hg; have hnb92 := NB382_383.out; have hnc92 := NB383_382.out; obtain ⟨hcz93_0, hcz93_1, hcz93_2, hcz93_3, hcz93_4, hcz93_5, hcz93_6, hcz93_7, hcz93_8, hcz93_9, hcz93_10, hcz93_11, hcz93_12⟩ := cl13 BK382.out; obtain ⟨hfz93_0, hfz93_1, hfz93_2, hfz93_3, hfz93_4, hfz93_5, hfz93_6, hfz93_7, hfz93_8, hfz93_9, hfz93_10, hfz93_11, hfz93_12⟩ := fr13 BK382.out; obtain ⟨hcz94_0, hcz94_1, hcz94_2, hcz94_3, hcz94_4, hcz94_5, hcz94_6, hcz94_7, hcz94_8, hcz94_9, hcz94_10, hcz94_11, hcz94_12⟩ := cl13 BK383.out; obtain ⟨hfz94_0, hfz94_1, hfz94_2, hfz94_3, hfz94_4, hfz94_5, hfz94_6, hfz94_7, hfz94_8, hfz94_9, hfz94_10, hfz94_11, hfz94_12⟩ := fr13 BK383.out))
   go_ret
   exact ⟨B11x2_, B11x1_⟩
 ·rw [if_neg c3] at H
  have c3b0 := beq_eq_false_iff_ne.mpr c3
  have c3b1 := bne_iff_ne.mpr c3
  obtain rfl := Option.some.inj H
  go_enter Try.func22, Try.ntmps22
  go_wp2_with (first | ((with_reducible refine gate_dst (N := 2) rfl ?_); refine box_event ?hg (N := 2) ?hd (cs := #[.int .i64 a0_0, .int .i64 a0_1, .int .i64 a0_2, .int .i64 a0_3, .string a0_4, .int .i64 a0_5, .int .i64 a0_6, .bool a0_7, .string a0_8, .slice A0_9 l0_9.length c0_9, .bool a0_10, .int .i64 a0_11, .int .i64 a0_12]) (t := 39) ?hr ?_; (case hd => rfl); (case hg => rfl); (case hr => exact B11x4_); intro gb382 hg w95 hbox hb; have BK382 := Aside0.mk (hbox); have GW382 := Aside0.mk ((bs hg (below_size HB.out))); have GE382 := Aside0.mk ((bs hg (below_size HB.out))); replace HB := Aside0.mk (below_step B11x0_ hb); clear hb hbox hg) | ((with_reducible refine gate_dst (N := 3) rfl ?_); refine box_event ?hg (N := 3) ?hd (cs := #[.int .i64 a1_0, .int .i64 a1_1, .int .i64 a1_2, .int .i64 a1_3, .string a1_4, .int .i64 a1_5, .int .i64 a1_6, .bool a1_7, .string a1_8, .slice A1_9 l1_9.length c1_9, .bool a1_10, .int .i64 a1_11, .int .i64 a1_12]) (t := 39) ?hr ?_; (case hd => rfl); (case hg => rfl); (case hr => exact B11x4_); intro gb383 hg w96 hbox hb; have BK383 := Aside0.mk (hbox); have GW383 := Aside0.mk ((bs hg (below_size HB.out))); have GE383 := Aside0.mk ((bs hg (below_size HB.out))); replace HB := Aside0.mk (below_step B11x3_ hb); have NB382_383 := Aside0.mk ((nl hg (blk_lt BK382.out))); have NB383_382 := Aside0.mk ((ng hg (blk_lt BK382.out))); replace BK382 := Aside0.mk (bb BK382.out hb); clear hb hbox hg; have hnb97 := NB382_383.out; have hnc97 := NB383_382.out; obtain ⟨hcz98_0, hcz98_1, hcz98_2, hcz98_3, hcz98_4, hcz98_5, hcz98_6, hcz98_7, hcz98_8, hcz98_9, hcz98_10, hcz98_11, hcz98_12⟩ := cl13 BK382.out; obtain ⟨hfz98_0, hfz98_1, hfz98_2, hfz98_3, hfz98_4, hfz98_5, hfz98_6, hfz98_7, hfz98_8, hfz98_9, hfz98_10, hfz98_11, hfz98_12⟩ := fr13 BK382.out; obtain ⟨hcz99_0, hcz99_1, hcz99_2, hcz99_3, hcz99_4, hcz99_5, hcz99_6, hcz99_7, hcz99_8, hcz99_9, hcz99_10, hcz99_11, hcz99_12⟩ := cl13 BK383.out; obtain ⟨hfz99_0, hfz99_1, hfz99_2, hfz99_3, hfz99_4, hfz99_5, hfz99_6, hfz99_7, hfz99_8, hfz99_9, hfz99_10, hfz99_11, hfz99_12⟩ := fr13 BK383.out))
  go_ret
  exact ⟨B11x2_, B11x1_⟩

/-! ### laws_eqSeg: function 78 -/
def laws_eqSeg.f (a0_0 : Int) (a0_1 : Int) (a0_2 : Int) (a0_3 : ByteArray) (a1_0 : Int) (a1_1 : Int) (a1_2 : Int) (a1_3 : ByteArray) : Option (Bool) := if a0_0 = a1_0 then (if a0_1 = a1_1 then (if a0_2 = a1_2 then (if a0_3.toList = a1_3.toList then (some true) else (some false)) else (some false)) else (some false)) else (some false)
set_option maxHeartbeats 8000000 in
set_option maxRecDepth 100000 in
theorem laws_eqSeg.calls (a0_0 : Int) (a0_1 : Int) (a0_2 : Int) (a0_3 : ByteArray) (a1_0 : Int) (a1_1 : Int) (a1_2 : Int) (a1_3 : ByteArray) (r : Bool) (w : World) (h : laws_eqSeg.f a0_0 a0_1 a0_2 a0_3 a1_0 a1_1 a1_2 a1_3 = some r) :
  Calls Try.prog 78 #[.agg #[.int .i64 a0_0, .int .i64 a0_1, .int .i64 a0_2, .string a0_3], .agg #[.int .i64 a1_0, .int .i64 a1_1, .int .i64 a1_2, .string a1_3]] w fun e w' => e = .returned (.bool r) ∧ Below w.heap.size w w' := by
 have hu28 := Try.underlying28
 have HB := Aside0.mk (Below.refl w.heap.size w)
 have H : (if a0_0 = a1_0 then (if a0_1 = a1_1 then (if a0_2 = a1_2 then (if a0_3.toList = a1_3.toList then (some true) else (some false)) else (some false)) else (some false)) else (some false)) = some r := h
 clear h
 by_cases c3 : a0_0 = a1_0
 ·rw [if_pos c3] at H
  have c3b0 := beq_iff_eq.mpr c3
  have c3b1 := bne_eq_false_iff_eq.mpr c3
  clear c3
  by_cases c4 : a0_1 = a1_1
  ·rw [if_pos c4] at H
   have c4b0 := beq_iff_eq.mpr c4
   have c4b1 := bne_eq_false_iff_eq.mpr c4
   clear c4
   by_cases c5 : a0_2 = a1_2
   ·rw [if_pos c5] at H
    have c5b0 := beq_iff_eq.mpr c5
    have c5b1 := bne_eq_false_iff_eq.mpr c5
    clear c5
    by_cases c6 : a0_3.toList = a1_3.toList
    ·rw [if_pos c6] at H
     have c6b0 := beq_iff_eq.mpr c6
     have c6b1 := bne_eq_false_iff_eq.mpr c6
     clear c6
     obtain rfl := Option.some.inj H
     go_enter Try.func78, Try.ntmps78
     go_wp2_with (first | ((with_reducible refine gate_dst (N := 2) rfl ?_); refine box_event ?hg (N := 2) ?hd (cs := #[.int .i64 a0_0, .int .i64 a0_1, .int .i64 a0_2, .string a0_3]) (t := 28) ?hr ?_; (case hd => rfl); (case hg => rfl); (case hr => exact B11x4_); intro gb385 hg w7 hbox hb; have BK385 := Aside0.mk (hbox); have GW385 := Aside0.mk ((bs hg (below_size HB.out))); have GE385 := Aside0.mk ((bs hg (below_size HB.out))); replace HB := Aside0.mk (below_step B11x0_ hb); clear hb hbox hg) | ((with_reducible refine gate_dst (N := 3) rfl ?_); refine box_event ?hg (N := 3) ?hd (cs := #[.int .i64 a1_0, .int .i64 a1_1, .int .i64 a1_2, .string a1_3]) (t := 28) ?hr ?_; (case hd => rfl); (case hg => rfl); (case hr => exact B11x4_); intro gb386 hg w8 hbox hb; have BK386 := Aside0.mk (hbox); have GW386 := Aside0.mk ((bs hg (below_size HB.out))); have GE386 := Aside0.mk ((bs hg (below_size HB.out))); replace HB := Aside0.mk (below_step B11x9_ hb); have NB385_386 := Aside0.mk ((nl hg (blk_lt BK385.out))); have NB386_385 := Aside0.mk ((ng hg (blk_lt BK385.out))); replace BK385 := Aside0.mk (bb BK385.out hb); clear hb hbox hg; have hnb9 := NB385_386.out; have hnc9 := NB386_385.out; obtain ⟨hcz10_0, hcz10_1, hcz10_2, hcz10_3⟩ := cl4 BK385.out; obtain ⟨hfz10_0, hfz10_1, hfz10_2, hfz10_3⟩ := fr4 BK385.out; obtain ⟨hcz11_0, hcz11_1, hcz11_2, hcz11_3⟩ := cl4 BK386.out; obtain ⟨hfz11_0, hfz11_1, hfz11_2, hfz11_3⟩ := fr4 BK386.out))
     go_ret
     exact ⟨B11x2_, B11x6_⟩
    ·rw [if_neg c6] at H
     have c6b0 := beq_eq_false_iff_ne.mpr c6
     have c6b1 := bne_iff_ne.mpr c6
     obtain rfl := Option.some.inj H
     go_enter Try.func78, Try.ntmps78
     go_wp2_with (first | ((with_reducible refine gate_dst (N := 2) rfl ?_); refine box_event ?hg (N := 2) ?hd (cs := #[.int .i64 a0_0, .int .i64 a0_1, .int .i64 a0_2, .string a0_3]) (t := 28) ?hr ?_; (case hd => rfl); (case hg => rfl); (case hr => exact B11x4_); intro gb385 hg w12 hbox hb; have BK385 := Aside0.mk (hbox); have GW385 := Aside0.mk ((bs hg (below_size HB.out))); have GE385 := Aside0.mk ((bs hg (below_size HB.out))); replace HB := Aside0.mk (below_step B11x0_ hb); clear hb hbox hg) | ((with_reducible refine gate_dst (N := 3) rfl ?_); refine box_event ?hg (N := 3) ?hd (cs := #[.int .i64 a1_0, .int .i64 a1_1, .int .i64 a1_2, .string a1_3]) (t := 28) ?hr ?_; (case hd => rfl); (case hg => rfl); (case hr => exact B11x4_); intro gb386 hg w13 hbox hb; have BK386 := Aside0.mk (hbox); have GW386 := Aside0.mk ((bs hg (below_size HB.out))); have GE386 := Aside0.mk ((bs hg (below_size HB.out))); replace HB := Aside0.mk (below_step B11x9_ hb); have NB385_386 := Aside0.mk ((nl hg (blk_lt BK385.out))); have NB386_385 := Aside0.mk ((ng hg (blk_lt BK385.out))); replace BK385 := Aside0.mk (bb BK385.out hb); clear hb hbox hg; have hnb14 := NB385_386.out; have hnc14 := NB386_385.out; obtain ⟨hcz15_0, hcz15_1, hcz15_2, hcz15_3⟩ := cl4 BK385.out; obtain ⟨hfz15_0, hfz15_1, hfz15_2, hfz15_3⟩ := fr4 BK385.out; obtain ⟨hcz16_0, hcz16_1, hcz16_2, hcz16_3⟩ := cl4 BK386.out; obtain ⟨hfz16_0, hfz16_1, hfz16_2, hfz16_3⟩ := fr4 BK386.out))
     go_ret
     exact ⟨B11x2_, B11x6_⟩
   ·rw [if_neg c5] at H
    have c5b0 := beq_eq_false_iff_ne.mpr c5
    have c5b1 := bne_iff_ne.mpr c5
    obtain rfl := Option.some.inj H
    go_enter Try.func78, Try.ntmps78
    go_wp2_with (first | ((with_reducible refine gate_dst (N := 2) rfl ?_); refine box_event ?hg (N := 2) ?hd (cs := #[.int .i64 a0_0, .int .i64 a0_1, .int .i64 a0_2, .string a0_3]) (t := 28) ?hr ?_; (case hd => rfl); (case hg => rfl); (case hr => exact B11x4_); intro gb385 hg w17 hbox hb; have BK385 := Aside0.mk (hbox); have GW385 := Aside0.mk ((bs hg (below_size HB.out))); have GE385 := Aside0.mk ((bs hg (below_size HB.out))); replace HB := Aside0.mk (below_step B11x0_ hb); clear hb hbox hg) | ((with_reducible refine gate_dst (N := 3) rfl ?_); refine box_event ?hg (N := 3) ?hd (cs := #[.int .i64 a1_0, .int .i64 a1_1, .int .i64 a1_2, .string a1_3]) (t := 28) ?hr ?_; (case hd => rfl); (case hg => rfl); (case hr => exact B11x4_); intro gb386 hg w18 hbox hb; have BK386 := Aside0.mk (hbox); have GW386 := Aside0.mk ((bs hg (below_size HB.out))); have GE386 := Aside0.mk ((bs hg (below_size HB.out))); replace HB := Aside0.mk (below_step B11x9_ hb); have NB385_386 := Aside0.mk ((nl hg (blk_lt BK385.out))); have NB386_385 := Aside0.mk ((ng hg (blk_lt BK385.out))); replace BK385 := Aside0.mk (bb BK385.out hb); clear hb hbox hg; have hnb19 := NB385_386.out; have hnc19 := NB386_385.out; obtain ⟨hcz20_0, hcz20_1, hcz20_2, hcz20_3⟩ := cl4 BK385.out; obtain ⟨hfz20_0, hfz20_1, hfz20_2, hfz20_3⟩ := fr4 BK385.out; obtain ⟨hcz21_0, hcz21_1, hcz21_2, hcz21_3⟩ := cl4 BK386.out; obtain ⟨hfz21_0, hfz21_1, hfz21_2, hfz21_3⟩ := fr4 BK386.out))
    go_ret
    exact ⟨B11x2_, B11x6_⟩
  ·rw [if_neg c4] at H
   have c4b0 := beq_eq_false_iff_ne.mpr c4
   have c4b1 := bne_iff_ne.mpr c4
   obtain rfl := Option.some.inj H
   go_enter Try.func78, Try.ntmps78
   go_wp2_with (first | ((with_reducible refine gate_dst (N := 2) rfl ?_); refine box_event ?hg (N := 2) ?hd (cs := #[.int .i64 a0_0, .int .i64 a0_1, .int .i64 a0_2, .string a0_3]) (t := 28) ?hr ?_; (case hd => rfl); (case hg => rfl); (case hr => exact B11x4_); intro gb385 hg w22 hbox hb; have BK385 := Aside0.mk (hbox); have GW385 := Aside0.mk ((bs hg (below_size HB.out))); have GE385 := Aside0.mk ((bs hg (below_size HB.out))); replace HB := Aside0.mk (below_step B11x0_ hb); clear hb hbox hg) | ((with_reducible refine gate_dst (N := 3) rfl ?_); refine box_event ?hg (N := 3) ?hd (cs := #[.int .i64 a1_0, .int .i64 a1_1, .int .i64 a1_2, .string a1_3]) (t := 28) ?hr ?_; (case hd => rfl); (case hg => rfl); (case hr => exact B11x4_); intro gb386 hg w23 hbox hb; have BK386 := Aside0.mk (hbox); have GW386 := Aside0.mk ((bs hg (below_size HB.out))); have GE386 := Aside0.mk ((bs hg (below_size HB.out))); replace HB := Aside0.mk (below_step B11x9_ hb); have NB385_386 := Aside0.mk ((nl hg (blk_lt BK385.out))); have NB386_385 := Aside0.mk ((ng hg (blk_lt BK385.out))); replace BK385 := Aside0.mk (bb BK385.out hb); clear hb hbox hg; have hnb24 := NB385_386.out; have hnc24 := NB386_385.out; obtain ⟨hcz25_0, hcz25_1, hcz25_2, hcz25_3⟩ := cl4 BK385.out; obtain ⟨hfz25_0, hfz25_1, hfz25_2, hfz25_3⟩ := fr4 BK385.out; obtain ⟨hcz26_0, hcz26_1, hcz26_2, hcz26_3⟩ := cl4 BK386.out; obtain ⟨hfz26_0, hfz26_1, hfz26_2, hfz26_3⟩ := fr4 BK386.out))
   go_ret
   exact ⟨B11x2_, B11x6_⟩
 ·rw [if_neg c3] at H
  have c3b0 := beq_eq_false_iff_ne.mpr c3
  have c3b1 := bne_iff_ne.mpr c3
  obtain rfl := Option.some.inj H
  go_enter Try.func78, Try.ntmps78
  go_wp2_with (first | ((with_reducible refine gate_dst (N := 2) rfl ?_); refine box_event ?hg (N := 2) ?hd (cs := #[.int .i64 a0_0, .int .i64 a0_1, .int .i64 a0_2, .string a0_3]) (t := 28) ?hr ?_; (case hd => rfl); (case hg => rfl); (case hr => exact B11x4_); intro gb385 hg w27 hbox hb; have BK385 := Aside0.mk (hbox); have GW385 := Aside0.mk ((bs hg (below_size HB.out))); have GE385 := Aside0.mk ((bs hg (below_size HB.out))); replace HB := Aside0.mk (below_step B11x0_ hb); clear hb hbox hg) | ((with_reducible refine gate_dst (N := 3) rfl ?_); refine box_event ?hg (N := 3) ?hd (cs := #[.int .i64 a1_0, .int .i64 a1_1, .int .i64 a1_2, .string a1_3]) (t := 28) ?hr ?_; (case hd => rfl); (case hg => rfl); (case hr => exact B11x4_); intro gb386 hg w28 hbox hb; have BK386 := Aside0.mk (hbox); have GW386 := Aside0.mk ((bs hg (below_size HB.out))); have GE386 := Aside0.mk ((bs hg (below_size HB.out))); replace HB := Aside0.mk (below_step B11x9_ hb); have NB385_386 := Aside0.mk ((nl hg (blk_lt BK385.out))); have NB386_385 := Aside0.mk ((ng hg (blk_lt BK385.out))); replace BK385 := Aside0.mk (bb BK385.out hb); clear hb hbox hg; have hnb29 := NB385_386.out; have hnc29 := NB386_385.out; obtain ⟨hcz30_0, hcz30_1, hcz30_2, hcz30_3⟩ := cl4 BK385.out; obtain ⟨hfz30_0, hfz30_1, hfz30_2, hfz30_3⟩ := fr4 BK385.out; obtain ⟨hcz31_0, hcz31_1, hcz31_2, hcz31_3⟩ := cl4 BK386.out; obtain ⟨hfz31_0, hfz31_1, hfz31_2, hfz31_3⟩ := fr4 BK386.out))
  go_ret
  exact ⟨B11x2_, B11x6_⟩

end Go.Proofs.Ytmknnoeggkgkgaa.QFnExactPush
