/- Functions that a law reaches, as functions of Lean, and the walks that show that the calls come to their answers: written by a program of this project out of the translation. No condition. -/
import Derived.Test.YtmknnoeggkgkgaaQFnExactPushx0
import Derived.Test.YtmknnoeggkgkgaaQFnExactPushx12
import Derived.Test.YtmknnoeggkgkgaaVFnExactPushShort4
import Derived.Test.YtmknnoeggkgkgaaVFnExactPushhort3
import Derived.Test.YtmknnoeggkgkgaaVFnExactPushShort2
import Derived.Test.YtmknnoeggkgkgaaVFnExactPushShort
namespace Go.Proofs.Ytmknnoeggkgkgaa.QFnExactPush
open Go.RowKit Go.Proofs.YtmknnoeggkgkgaaW.PrintWords Go.Proofs.YtmknnoeggkgkgaaW.PrintLast Go.Proofs.YtmknnoeggkgkgaaW.PrintMore Go.Proofs.Ytmknnoeggkgkgaa.Short
attribute [local go_sem] max2_int min2_int max_two min_two max_three min_three max_four min_four   -- for this text's walks alone
set_option linter.unusedVariables false
set_option linter.unusedSimpArgs false

theorem B13x0_ {p : Prop} (h : p := by repeat (first | (with_reducible first | exact HB.out | apply below_alloc | apply pw_below_drewN | apply below_drew1) | exact HB.out)) : p := h
theorem B13x1_ {p : Prop} (h : p := by first | (with_reducible assumption) | assumption) : p := h
theorem B13x2_ {p : Prop} (h : p := by first | rfl | (simp [errW_none, errW_some] <;> rfl) | (simp [*, errW_none, errW_some] <;> rfl)) : p := h
theorem B13x3_ {p : Prop} (h : p := by (try simp only [List.map_toArray, List.map_cons, List.map_nil]); first | done | rfl | (simp only [List.length_drop, List.length_take]; rfl)) : p := h
theorem B13x4_ {p : Prop} (h : p := by repeat (first | (with_reducible first | exact HB.out | apply below_alloc | apply pw_below_drewN | apply below_drew1 | refine below_set ?_ GE407.out) | exact HB.out)) : p := h
theorem B13x5_ {p : Prop} (h : p := by kernel_rfl) : p := h
theorem B13x6_ {p : Prop} (h : p := by repeat (first | exact (Kd.C_below HR0_9.out HB.out) | (with_reducible refine Kd.C_alloc ?_ _) | (with_reducible refine Kd.C_drewN ?_ _) | (with_reducible refine Kd.C_drew ?_))) : p := h
theorem B13x7_ {p : Prop} (h : p := by injection e410) : p := h
/-! ### laws_heldLateS: function 80 -/
def laws_heldLateS.l0 : Nat → List (S143) → Int → Int → Option (Int)
 | 0, _, _, _ => none
 | k + 1, x0, x1, x5 => if x5 < (x0.length : Int) then (if 0 ≤ x5 then (if ((rd_T143 x0 x5).f0) = x1 then ((laws_markText.f k (wrap64 (x1 + 1))).bind fun t406 => (if ((rd_T143 x0 x5).f1).toList = t406.toList then (laws_heldLateS.l0 k x0 (wrap64 ((wrap64 (x1 + 1)) + 1)) (wrap64 (x5 + 1))) else (some (-1)))) else (some (-1))) else (none)) else (some x1)
def laws_heldLateS.f (k : Nat) (l0 : List (S143)) (a1 : Int) : Option (Int) := laws_heldLateS.l0 k l0 a1 0
theorem laws_heldLateS.mono_l : ∀ k, (∀ y0 y1 y2, LeO (laws_heldLateS.l0 k y0 y1 y2) (laws_heldLateS.l0 (k + 1) y0 y1 y2))
 | 0 => fun _ _ _ r h => by simp [laws_heldLateS.l0] at h
 | k + 1 => by
  have ih0 := laws_heldLateS.mono_l k
  ·intro y0 y1 y2
   unfold laws_heldLateS.l0
   repeat' first
   | (with_reducible exact ih0 _ _ _)
   | (with_reducible exact laws_markText.mono _ _)
   | (with_reducible first | exact LeO.refl _ | exact LeO.none _ | refine LeO.ite ?_ ?_ | refine LeO.bind ?_ (fun _ => ?_))
   | exact ih0 _ _ _
   | exact laws_markText.mono _ _
theorem laws_heldLateS.mono : ∀ a0 a1 k, LeO (laws_heldLateS.f k a0 a1) (laws_heldLateS.f (k + 1) a0 a1) := by
 intro a0 a1 k
 have ih0 := laws_heldLateS.mono_l k
 unfold laws_heldLateS.f
 repeat' first
   | (with_reducible exact ih0 _ _ _)
   | (with_reducible exact laws_markText.mono _ _)
   | (with_reducible first | exact LeO.refl _ | exact LeO.none _ | refine LeO.ite ?_ ?_ | refine LeO.bind ?_ (fun _ => ?_))
   | exact ih0 _ _ _
   | exact laws_markText.mono _ _
def laws_heldLateS.T7 : Bool × List (List Nat × List Nat) := (true, [([], []), ([], []), ([0, 1], [0, 1]), ([2], [2]), ([3], [3]), ([], []), ([5], [5]), ([4, 6], [4, 6])])
def laws_heldLateS.B7 : List Nat := [0, 0, 3, 7, 15, 0, 32, 127]
theorem laws_heldLateS.tab7 : rtab .any (opsOf Try.f80 7) = laws_heldLateS.T7 := by kernel_rfl
theorem laws_heldLateS.bits7 : waitsOk laws_heldLateS.T7.2 laws_heldLateS.B7 = true := by kernel_rfl
set_option maxHeartbeats 8000000 in
set_option maxRecDepth 100000 in
theorem laws_heldLateS.calls (k : Nat) (A0 : Option Addr) (c0 : Nat) (l0 : List (S143)) (a1 : Int) (r : Int) (w : World) (hr0 : Kd.C k143 w A0 l0.length l0) (hc0 : l0.length ≤ c0) (h : laws_heldLateS.f k l0 a1 = some r) :
  Calls Try.prog 80 #[.slice A0 l0.length c0, .int .i64 a1] w fun e w' => e = .returned (.int .i64 r) ∧ Below w.heap.size w w' := by
 have HR0 := Aside0.mk hr0
 have HC0 := Aside0.mk hc0
 clear hr0 hc0
 have HB := Aside0.mk (Below.refl w.heap.size w)
 have H : (laws_heldLateS.l0 k l0 a1 0) = some r := h
 clear h
 have H' := Aside0.mk H
 clear H
 go_enter Try.func80, Try.ntmps80
 go_wp2
 go_loopg [1, 5] k (fun kq v1 v5 w' => ∃ (x1_1 : Int) (x5_1 : Int), v1 = .int .i64 x1_1 ∧ v5 = .int .i64 x5_1 ∧ Aside0 (laws_heldLateS.l0 kq l0 x1_1 x5_1 = some r) ∧ Aside0 (kq ≤ k) ∧ Aside0 (Below w.heap.size w w'))
 case atStart => exact ⟨(a1), (0), (be_), (be_), H', ⟨Nat.le_refl _⟩, ⟨B13x0_⟩⟩
 case round =>
  clear H'
  obtain ⟨x1_1, x5_1, rfl, rfl, HA, HK1, HB⟩ := hrel
  cases gk with
  | zero => exact absurd HA.out (by simp [laws_heldLateS.l0])
  | succ k1 =>
   have H := HA.out
   clear HA
   simp only [laws_heldLateS.l0] at H
   by_cases c3 : x5_1 < (l0.length : Int)
   ·rw [if_pos c3] at H
    have c3b0 : decide (x5_1 < (l0.length : Int)) = true := decide_eq_true c3
    clear c3
    by_cases c4 : 0 ≤ x5_1
    rotate_left
    ·rw [if_neg c4] at H
     exact absurd H (by simp)
    rw [if_pos c4] at H
    have c4b0 : decide (0 ≤ x5_1) = true := decide_eq_true c4
    clear c4
    by_cases c5 : ((rd_T143 l0 x5_1).f0) = x1_1
    ·rw [if_pos c5] at H
     have c5b0 := beq_iff_eq.mpr c5
     have c5b1 := bne_eq_false_iff_eq.mpr c5
     clear c5
     replace H := bsi H
     obtain ⟨t406, A6, H⟩ := H
     (try dsimp only at H)
     by_cases c7 : ((rd_T143 l0 x5_1).f1).toList = t406.toList
     ·rw [if_pos c7] at H
      have c7b0 := beq_iff_eq.mpr c7
      have c7b1 := bne_eq_false_iff_eq.mpr c7
      clear c7
      have H' := Aside0.mk H
      clear H
      have p404 : 0 ≤ (x5_1 : Int) := of_decide_eq_true B13x1_
      have q404 : x5_1 < (l0.length : Int) := of_decide_eq_true B13x1_
      obtain ⟨ad404, e404, hx404_0, hx404_1⟩ := at_T143 HR0.out x5_1 p404 q404
      cases e404
      replace hx404_0 := (HB.out.cell (World.block_lt_of_cell? w _ hx404_0)).trans hx404_0
      replace hx404_1 := (HB.out.cell (World.block_lt_of_cell? w _ hx404_1)).trans hx404_1
      replace p404 := eq_true p404
      replace q404 := eq_true q404
      try go_wp2
      replace HB := Aside0.mk (below_drew1 HB.out)
      have p405 : 0 ≤ (x5_1 : Int) := of_decide_eq_true B13x1_
      have q405 : x5_1 < (l0.length : Int) := of_decide_eq_true B13x1_
      obtain ⟨ad405, e405, hx405_0, hx405_1⟩ := at_T143 HR0.out x5_1 p405 q405
      have hw405_1 := hx405_1
      have hw405_0 := hx405_0
      obtain rfl : ad404 = ad405 := (by injection e405)
      replace hx405_0 := (HB.out.cell (World.block_lt_of_cell? w _ hx405_0)).trans hx405_0
      replace hx405_1 := (HB.out.cell (World.block_lt_of_cell? w _ hx405_1)).trans hx405_1
      replace p405 := eq_true p405
      replace q405 := eq_true q405
      refine start_ (n := 8) (S := fun w' => w'.cell? (ad404.add ((x5_1).toNat * 2)) = some (.int .i64 ((rd_T143 l0 x5_1).f0)) ∧ w'.cell? ⟨(ad404.add ((x5_1).toNat * 2)).block, (ad404.add ((x5_1).toNat * 2)).off + 1, none⟩ = some (.string ((rd_T143 l0 x5_1).f1))) (ds := []) #[false, false, false, false, false, false, false, false] B13x5_ rfl rfl ⟨((HB.out.cell (World.block_lt_of_cell? w _ hw405_0)).trans hw405_0), ((HB.out.cell (World.block_lt_of_cell? w _ hw405_1)).trans hw405_1)⟩ (fun hHeld => ?_); refine with_tabW laws_heldLateS.tab7 laws_heldLateS.bits7 (fun HT_ HW_ => ?_)
      generalize wr.drew = w8 at HB hx405_0 hx405_1 hHeld ⊢
      refine pu_ 0 21 HT_ ?_
      refine pu_ 1 22 HT_ ?_
      refine pu_ 2 23 HT_ ?_
      refine pu_ 3 24 HT_ ?_
      refine pu_ 5 26 HT_ ?_
      refine ta_ 4 25 HT_ HW_ hHeld ?_
      refine one_ (i := 6) (N := some 27) #[true, true, true, true, true, true, true, false] rfl rfl (one_of HT_.out B13x5_) (by decide) (fun K hK => ?_)
      refine goes_ Try.func65 B13x5_ rfl #[.int .i64 (wrap64 (x1_1 + 1))] (by rfl) rfl rfl B13x3_ ?_
      with_reducible refine (laws_markText.calls k1 (wrap64 (x1_1 + 1)) t406 _ A6.out).mono ?_
      rintro e w9 ⟨rfl, hb⟩
      refine ⟨_, rfl, ?_⟩
      replace HB := Aside0.mk (below_step B13x0_ hb)
      (try clear hb)
      (try clear hb2)
      (try clear hk)
      (try clear hi)
      refine hK.out _ _ ⟨((HB.out.cell (World.block_lt_of_cell? w _ hw405_0)).trans hw405_0), ((HB.out.cell (World.block_lt_of_cell? w _ hw405_1)).trans hw405_1)⟩ (fun hHeld => ?_)
      clear hK K
      refine norm_ (a' := ?_) ?_ ?_
      rotate_left
      ·show Act.put _ (some 27) _ = _
       simp only [Act.put, List.setIfInBounds_toArray, List.set_cons_zero, List.set_cons_succ, i64_w, i32_w]
       rfl
      refine pu_ 7 28 HT_ ?_
      refine done_ (done_of HT_.out B13x5_) ?_
      try go_wp2
      go_roundg k1
      case measure => have := HK1.out; omega
      case rel => exact ⟨(wrap64 ((wrap64 (x1_1 + 1)) + 1)), (wrap64 (x5_1 + 1)), (be_), (be_), H', ⟨(by have := HK1.out; omega)⟩, ⟨B13x0_⟩⟩
     ·rw [if_neg c7] at H
      have c7b0 := beq_eq_false_iff_ne.mpr c7
      have c7b1 := bne_iff_ne.mpr c7
      obtain rfl := Option.some.inj H
      have p404 : 0 ≤ (x5_1 : Int) := of_decide_eq_true B13x1_
      have q404 : x5_1 < (l0.length : Int) := of_decide_eq_true B13x1_
      obtain ⟨ad404, e404, hx404_0, hx404_1⟩ := at_T143 HR0.out x5_1 p404 q404
      cases e404
      replace hx404_0 := (HB.out.cell (World.block_lt_of_cell? w _ hx404_0)).trans hx404_0
      replace hx404_1 := (HB.out.cell (World.block_lt_of_cell? w _ hx404_1)).trans hx404_1
      replace p404 := eq_true p404
      replace q404 := eq_true q404
      try go_wp2
      replace HB := Aside0.mk (below_drew1 HB.out)
      have p405 : 0 ≤ (x5_1 : Int) := of_decide_eq_true B13x1_
      have q405 : x5_1 < (l0.length : Int) := of_decide_eq_true B13x1_
      obtain ⟨ad405, e405, hx405_0, hx405_1⟩ := at_T143 HR0.out x5_1 p405 q405
      have hw405_1 := hx405_1
      have hw405_0 := hx405_0
      obtain rfl : ad404 = ad405 := (by injection e405)
      replace hx405_0 := (HB.out.cell (World.block_lt_of_cell? w _ hx405_0)).trans hx405_0
      replace hx405_1 := (HB.out.cell (World.block_lt_of_cell? w _ hx405_1)).trans hx405_1
      replace p405 := eq_true p405
      replace q405 := eq_true q405
      refine start_ (n := 8) (S := fun w' => w'.cell? (ad404.add ((x5_1).toNat * 2)) = some (.int .i64 ((rd_T143 l0 x5_1).f0)) ∧ w'.cell? ⟨(ad404.add ((x5_1).toNat * 2)).block, (ad404.add ((x5_1).toNat * 2)).off + 1, none⟩ = some (.string ((rd_T143 l0 x5_1).f1))) (ds := []) #[false, false, false, false, false, false, false, false] B13x5_ rfl rfl ⟨((HB.out.cell (World.block_lt_of_cell? w _ hw405_0)).trans hw405_0), ((HB.out.cell (World.block_lt_of_cell? w _ hw405_1)).trans hw405_1)⟩ (fun hHeld => ?_); refine with_tabW laws_heldLateS.tab7 laws_heldLateS.bits7 (fun HT_ HW_ => ?_)
      generalize wr.drew = w10 at HB hx405_0 hx405_1 hHeld ⊢
      refine pu_ 0 21 HT_ ?_
      refine pu_ 1 22 HT_ ?_
      refine pu_ 2 23 HT_ ?_
      refine pu_ 3 24 HT_ ?_
      refine pu_ 5 26 HT_ ?_
      refine ta_ 4 25 HT_ HW_ hHeld ?_
      refine one_ (i := 6) (N := some 27) #[true, true, true, true, true, true, true, false] rfl rfl (one_of HT_.out B13x5_) (by decide) (fun K hK => ?_)
      refine goes_ Try.func65 B13x5_ rfl #[.int .i64 (wrap64 (x1_1 + 1))] (by rfl) rfl rfl B13x3_ ?_
      with_reducible refine (laws_markText.calls k1 (wrap64 (x1_1 + 1)) t406 _ A6.out).mono ?_
      rintro e w11 ⟨rfl, hb⟩
      refine ⟨_, rfl, ?_⟩
      replace HB := Aside0.mk (below_step B13x0_ hb)
      (try clear hb)
      (try clear hb2)
      (try clear hk)
      (try clear hi)
      refine hK.out _ _ ⟨((HB.out.cell (World.block_lt_of_cell? w _ hw405_0)).trans hw405_0), ((HB.out.cell (World.block_lt_of_cell? w _ hw405_1)).trans hw405_1)⟩ (fun hHeld => ?_)
      clear hK K
      refine norm_ (a' := ?_) ?_ ?_
      rotate_left
      ·show Act.put _ (some 27) _ = _
       simp only [Act.put, List.setIfInBounds_toArray, List.set_cons_zero, List.set_cons_succ, i64_w, i32_w]
       rfl
      refine pu_ 7 28 HT_ ?_
      refine done_ (done_of HT_.out B13x5_) ?_
      try go_wp2
      go_ret
      exact ⟨B13x2_, B13x0_⟩
    ·rw [if_neg c5] at H
     have c5b0 := beq_eq_false_iff_ne.mpr c5
     have c5b1 := bne_iff_ne.mpr c5
     obtain rfl := Option.some.inj H
     have p404 : 0 ≤ (x5_1 : Int) := of_decide_eq_true B13x1_
     have q404 : x5_1 < (l0.length : Int) := of_decide_eq_true B13x1_
     obtain ⟨ad404, e404, hx404_0, hx404_1⟩ := at_T143 HR0.out x5_1 p404 q404
     cases e404
     replace hx404_0 := (HB.out.cell (World.block_lt_of_cell? w _ hx404_0)).trans hx404_0
     replace hx404_1 := (HB.out.cell (World.block_lt_of_cell? w _ hx404_1)).trans hx404_1
     replace p404 := eq_true p404
     replace q404 := eq_true q404
     go_wp2
     go_ret
     exact ⟨B13x2_, B13x0_⟩
   ·rw [if_neg c3] at H
    have c3b0 : decide (x5_1 < (l0.length : Int)) = false := decide_eq_false c3
    clear c3
    obtain rfl := Option.some.inj H
    go_wp2
    go_ret
    exact ⟨B13x2_, B13x0_⟩

/-! ### laws_heldStream: function 26 -/
def laws_heldStream.f (k : Nat) (a0_0 : Int) (a0_1 : Int) (a0_2 : Int) (a0_3 : Int) (a0_4 : ByteArray) (a0_5 : Int) (a0_6 : Int) (a0_7 : Bool) (a0_8 : ByteArray) (l0_9 : List (S143)) (a0_10 : Bool) (a0_11 : Int) (a0_12 : Int) (a1 : Int) : Option (Int) := (laws_heldLateS.f k l0_9 a1).bind fun t408 => (if t408 < 0 then (some (-1)) else (some t408))
theorem laws_heldStream.mono : ∀ a0 a1 a2 a3 a4 a5 a6 a7 a8 a9 a10 a11 a12 a13 k, LeO (laws_heldStream.f k a0 a1 a2 a3 a4 a5 a6 a7 a8 a9 a10 a11 a12 a13) (laws_heldStream.f (k + 1) a0 a1 a2 a3 a4 a5 a6 a7 a8 a9 a10 a11 a12 a13) := by
 intro a0 a1 a2 a3 a4 a5 a6 a7 a8 a9 a10 a11 a12 a13 k
 unfold laws_heldStream.f
 repeat' first
   | (with_reducible exact laws_heldLateS.mono _ _ _)
   | (with_reducible first | exact LeO.refl _ | exact LeO.none _ | refine LeO.ite ?_ ?_ | refine LeO.bind ?_ (fun _ => ?_))
   | exact laws_heldLateS.mono _ _ _
set_option maxHeartbeats 8000000 in
set_option maxRecDepth 100000 in
theorem laws_heldStream.calls (k : Nat) (a0_0 : Int) (a0_1 : Int) (a0_2 : Int) (a0_3 : Int) (a0_4 : ByteArray) (a0_5 : Int) (a0_6 : Int) (a0_7 : Bool) (a0_8 : ByteArray) (A0_9 : Option Addr) (c0_9 : Nat) (l0_9 : List (S143)) (a0_10 : Bool) (a0_11 : Int) (a0_12 : Int) (a1 : Int) (r : Int) (w : World) (hr0_9 : Kd.C k143 w A0_9 l0_9.length l0_9) (hc0_9 : l0_9.length ≤ c0_9) (h : laws_heldStream.f k a0_0 a0_1 a0_2 a0_3 a0_4 a0_5 a0_6 a0_7 a0_8 l0_9 a0_10 a0_11 a0_12 a1 = some r) :
  Calls Try.prog 26 #[.agg #[.int .i64 a0_0, .int .i64 a0_1, .int .i64 a0_2, .int .i64 a0_3, .string a0_4, .int .i64 a0_5, .int .i64 a0_6, .bool a0_7, .string a0_8, .slice A0_9 l0_9.length c0_9, .bool a0_10, .int .i64 a0_11, .int .i64 a0_12], .int .i64 a1] w fun e w' => e = .returned (.int .i64 r) ∧ Below w.heap.size w w' := by
 have hu39 := Try.underlying39
 have HR0_9 := Aside0.mk hr0_9
 have HC0_9 := Aside0.mk hc0_9
 clear hr0_9 hc0_9
 have HB := Aside0.mk (Below.refl w.heap.size w)
 have H : ((laws_heldLateS.f k l0_9 a1).bind fun t408 => (if t408 < 0 then (some (-1)) else (some t408))) = some r := h
 clear h
 replace H := bsi H
 obtain ⟨t408, A3, H⟩ := H
 (try dsimp only at H)
 by_cases c4 : t408 < 0
 ·rw [if_pos c4] at H
  have c4b0 : decide (t408 < 0) = true := decide_eq_true c4
  clear c4
  obtain rfl := Option.some.inj H
  go_enter Try.func26, Try.ntmps26
  go_wp2_with (first | ((with_reducible refine gate_dst (N := 2) rfl ?_); refine box_event ?hg (N := 2) ?hd (cs := #[.int .i64 a0_0, .int .i64 a0_1, .int .i64 a0_2, .int .i64 a0_3, .string a0_4, .int .i64 a0_5, .int .i64 a0_6, .bool a0_7, .string a0_8, .slice A0_9 l0_9.length c0_9, .bool a0_10, .int .i64 a0_11, .int .i64 a0_12]) (t := 39) ?hr ?_; (case hd => rfl); (case hg => rfl); (case hr => first | (go_simp; done) | (go_simp; rfl)); intro gb407 hg w5 hbox hb; have BK407 := Aside0.mk (hbox); have GW407 := Aside0.mk ((bs hg (below_size HB.out))); have GE407 := Aside0.mk ((bs hg (below_size HB.out))); replace HB := Aside0.mk (below_step B13x0_ hb); clear hb hbox hg; obtain ⟨hcz6_0, hcz6_1, hcz6_2, hcz6_3, hcz6_4, hcz6_5, hcz6_6, hcz6_7, hcz6_8, hcz6_9, hcz6_10, hcz6_11, hcz6_12⟩ := cl13 BK407.out; obtain ⟨hfz6_0, hfz6_1, hfz6_2, hfz6_3, hfz6_4, hfz6_5, hfz6_6, hfz6_7, hfz6_8, hfz6_9, hfz6_10, hfz6_11, hfz6_12⟩ := fr13 BK407.out) | ((with_reducible refine gate_callee (f := 80) rfl ?_); refine goesL_ (some 8) rfl rfl Try.func80 B13x5_ rfl #[.slice A0_9 l0_9.length c0_9, .int .i64 a1] rfl B13x3_ ?_; (with_reducible refine (laws_heldLateS.calls k _ _ l0_9 a1 t408 _ ?side1 ?side2 A3.out).mono ?_); (case side1 => exact B13x6_); (case side2 => exact HC0_9.out); rintro e w7 ⟨rfl, hb⟩; refine ⟨_, rfl, ?_⟩; replace BK407 := Aside0.mk (bb BK407.out hb); replace HB := Aside0.mk (below_step B13x4_ hb); (try clear hb)))
  go_ret
  exact ⟨B13x2_, B13x4_⟩
 ·rw [if_neg c4] at H
  have c4b0 : decide (t408 < 0) = false := decide_eq_false c4
  clear c4
  obtain rfl := Option.some.inj H
  go_enter Try.func26, Try.ntmps26
  go_wp2_with (first | ((with_reducible refine gate_dst (N := 2) rfl ?_); refine box_event ?hg (N := 2) ?hd (cs := #[.int .i64 a0_0, .int .i64 a0_1, .int .i64 a0_2, .int .i64 a0_3, .string a0_4, .int .i64 a0_5, .int .i64 a0_6, .bool a0_7, .string a0_8, .slice A0_9 l0_9.length c0_9, .bool a0_10, .int .i64 a0_11, .int .i64 a0_12]) (t := 39) ?hr ?_; (case hd => rfl); (case hg => rfl); (case hr => first | (go_simp; done) | (go_simp; rfl)); intro gb407 hg w8 hbox hb; have BK407 := Aside0.mk (hbox); have GW407 := Aside0.mk ((bs hg (below_size HB.out))); have GE407 := Aside0.mk ((bs hg (below_size HB.out))); replace HB := Aside0.mk (below_step B13x0_ hb); clear hb hbox hg; obtain ⟨hcz9_0, hcz9_1, hcz9_2, hcz9_3, hcz9_4, hcz9_5, hcz9_6, hcz9_7, hcz9_8, hcz9_9, hcz9_10, hcz9_11, hcz9_12⟩ := cl13 BK407.out; obtain ⟨hfz9_0, hfz9_1, hfz9_2, hfz9_3, hfz9_4, hfz9_5, hfz9_6, hfz9_7, hfz9_8, hfz9_9, hfz9_10, hfz9_11, hfz9_12⟩ := fr13 BK407.out) | ((with_reducible refine gate_callee (f := 80) rfl ?_); refine goesL_ (some 8) rfl rfl Try.func80 B13x5_ rfl #[.slice A0_9 l0_9.length c0_9, .int .i64 a1] rfl B13x3_ ?_; (with_reducible refine (laws_heldLateS.calls k _ _ l0_9 a1 t408 _ ?side1 ?side2 A3.out).mono ?_); (case side1 => exact B13x6_); (case side2 => exact HC0_9.out); rintro e w10 ⟨rfl, hb⟩; refine ⟨_, rfl, ?_⟩; replace BK407 := Aside0.mk (bb BK407.out hb); replace HB := Aside0.mk (below_step B13x4_ hb); (try clear hb)))
  go_ret
  exact ⟨B13x2_, B13x4_⟩

/-! ### laws_heldSegS: function 27 -/
def laws_heldSegS.l0 : Nat → List (S28) → Int → Int → Option (Int)
 | 0, _, _, _ => none
 | k + 1, x0, x1, x5 => if x5 < (x0.length : Int) then (if 0 ≤ x5 then (if ((rd_T28 x0 x5).f0) = x1 then (if ((rd_T28 x0 x5).f1) = (wrap64 (x1 + 1)) then (if ((rd_T28 x0 x5).f2) = (wrap64 ((wrap64 (x1 + 1)) + 1)) then ((laws_markText.f k (wrap64 ((wrap64 ((wrap64 (x1 + 1)) + 1)) + 1))).bind fun t413 => (if ((rd_T28 x0 x5).f3).toList = t413.toList then (laws_heldSegS.l0 k x0 (wrap64 ((wrap64 ((wrap64 ((wrap64 (x1 + 1)) + 1)) + 1)) + 1)) (wrap64 (x5 + 1))) else (some (-1)))) else (some (-1))) else (some (-1))) else (some (-1))) else (none)) else (some x1)
def laws_heldSegS.f (k : Nat) (l0 : List (S28)) (a1 : Int) : Option (Int) := laws_heldSegS.l0 k l0 a1 0
theorem laws_heldSegS.mono_l : ∀ k, (∀ y0 y1 y2, LeO (laws_heldSegS.l0 k y0 y1 y2) (laws_heldSegS.l0 (k + 1) y0 y1 y2))
 | 0 => fun _ _ _ r h => by simp [laws_heldSegS.l0] at h
 | k + 1 => by
  have ih0 := laws_heldSegS.mono_l k
  ·intro y0 y1 y2
   unfold laws_heldSegS.l0
   repeat' first
   | (with_reducible exact ih0 _ _ _)
   | (with_reducible exact laws_markText.mono _ _)
   | (with_reducible first | exact LeO.refl _ | exact LeO.none _ | refine LeO.ite ?_ ?_ | refine LeO.bind ?_ (fun _ => ?_))
   | exact ih0 _ _ _
   | exact laws_markText.mono _ _
theorem laws_heldSegS.mono : ∀ a0 a1 k, LeO (laws_heldSegS.f k a0 a1) (laws_heldSegS.f (k + 1) a0 a1) := by
 intro a0 a1 k
 have ih0 := laws_heldSegS.mono_l k
 unfold laws_heldSegS.f
 repeat' first
   | (with_reducible exact ih0 _ _ _)
   | (with_reducible exact laws_markText.mono _ _)
   | (with_reducible first | exact LeO.refl _ | exact LeO.none _ | refine LeO.ite ?_ ?_ | refine LeO.bind ?_ (fun _ => ?_))
   | exact ih0 _ _ _
   | exact laws_markText.mono _ _
def laws_heldSegS.T13 : Bool × List (List Nat × List Nat) := (true, [([], []), ([], []), ([0, 1], [0, 1]), ([2], [2]), ([3], [3]), ([], []), ([5], [5]), ([4, 6], [4, 6])])
def laws_heldSegS.B13 : List Nat := [0, 0, 3, 7, 15, 0, 32, 127]
theorem laws_heldSegS.tab13 : rtab .any (opsOf Try.f27 13) = laws_heldSegS.T13 := by kernel_rfl
theorem laws_heldSegS.bits13 : waitsOk laws_heldSegS.T13.2 laws_heldSegS.B13 = true := by kernel_rfl
set_option maxHeartbeats 8000000 in
set_option maxRecDepth 100000 in
theorem laws_heldSegS.calls (k : Nat) (A0 : Option Addr) (c0 : Nat) (l0 : List (S28)) (a1 : Int) (r : Int) (w : World) (hr0 : Kd.C k28 w A0 l0.length l0) (hc0 : l0.length ≤ c0) (h : laws_heldSegS.f k l0 a1 = some r) :
  Calls Try.prog 27 #[.slice A0 l0.length c0, .int .i64 a1] w fun e w' => e = .returned (.int .i64 r) ∧ Below w.heap.size w w' := by
 have HR0 := Aside0.mk hr0
 have HC0 := Aside0.mk hc0
 clear hr0 hc0
 have HB := Aside0.mk (Below.refl w.heap.size w)
 have H : (laws_heldSegS.l0 k l0 a1 0) = some r := h
 clear h
 have H' := Aside0.mk H
 clear H
 go_enter Try.func27, Try.ntmps27
 go_wp2
 go_loopg [1, 5] k (fun kq v1 v5 w' => ∃ (x1_1 : Int) (x5_1 : Int), v1 = .int .i64 x1_1 ∧ v5 = .int .i64 x5_1 ∧ Aside0 (laws_heldSegS.l0 kq l0 x1_1 x5_1 = some r) ∧ Aside0 (kq ≤ k) ∧ Aside0 (Below w.heap.size w w'))
 case atStart => exact ⟨(a1), (0), (be_), (be_), H', ⟨Nat.le_refl _⟩, ⟨B13x0_⟩⟩
 case round =>
  clear H'
  obtain ⟨x1_1, x5_1, rfl, rfl, HA, HK1, HB⟩ := hrel
  cases gk with
  | zero => exact absurd HA.out (by simp [laws_heldSegS.l0])
  | succ k1 =>
   have H := HA.out
   clear HA
   simp only [laws_heldSegS.l0] at H
   by_cases c3 : x5_1 < (l0.length : Int)
   ·rw [if_pos c3] at H
    have c3b0 : decide (x5_1 < (l0.length : Int)) = true := decide_eq_true c3
    clear c3
    by_cases c4 : 0 ≤ x5_1
    rotate_left
    ·rw [if_neg c4] at H
     exact absurd H (by simp)
    rw [if_pos c4] at H
    have c4b0 : decide (0 ≤ x5_1) = true := decide_eq_true c4
    clear c4
    by_cases c5 : ((rd_T28 l0 x5_1).f0) = x1_1
    ·rw [if_pos c5] at H
     have c5b0 := beq_iff_eq.mpr c5
     have c5b1 := bne_eq_false_iff_eq.mpr c5
     clear c5
     by_cases c6 : ((rd_T28 l0 x5_1).f1) = (wrap64 (x1_1 + 1))
     ·rw [if_pos c6] at H
      have c6b0 := beq_iff_eq.mpr c6
      have c6b1 := bne_eq_false_iff_eq.mpr c6
      clear c6
      by_cases c7 : ((rd_T28 l0 x5_1).f2) = (wrap64 ((wrap64 (x1_1 + 1)) + 1))
      ·rw [if_pos c7] at H
       have c7b0 := beq_iff_eq.mpr c7
       have c7b1 := bne_eq_false_iff_eq.mpr c7
       clear c7
       replace H := bsi H
       obtain ⟨t413, A8, H⟩ := H
       (try dsimp only at H)
       by_cases c9 : ((rd_T28 l0 x5_1).f3).toList = t413.toList
       ·rw [if_pos c9] at H
        have c9b0 := beq_iff_eq.mpr c9
        have c9b1 := bne_eq_false_iff_eq.mpr c9
        clear c9
        have H' := Aside0.mk H
        clear H
        have p409 : 0 ≤ (x5_1 : Int) := of_decide_eq_true B13x1_
        have q409 : x5_1 < (l0.length : Int) := of_decide_eq_true B13x1_
        obtain ⟨ad409, e409, hx409_0, hx409_1, hx409_2, hx409_3⟩ := at_T28 HR0.out x5_1 p409 q409
        cases e409
        replace hx409_0 := (HB.out.cell (World.block_lt_of_cell? w _ hx409_0)).trans hx409_0
        replace hx409_1 := (HB.out.cell (World.block_lt_of_cell? w _ hx409_1)).trans hx409_1
        replace hx409_2 := (HB.out.cell (World.block_lt_of_cell? w _ hx409_2)).trans hx409_2
        replace hx409_3 := (HB.out.cell (World.block_lt_of_cell? w _ hx409_3)).trans hx409_3
        replace p409 := eq_true p409
        replace q409 := eq_true q409
        have p410 : 0 ≤ (x5_1 : Int) := of_decide_eq_true B13x1_
        have q410 : x5_1 < (l0.length : Int) := of_decide_eq_true B13x1_
        obtain ⟨ad410, e410, hx410_0, hx410_1, hx410_2, hx410_3⟩ := at_T28 HR0.out x5_1 p410 q410
        obtain rfl : ad409 = ad410 := B13x7_
        replace hx410_0 := (HB.out.cell (World.block_lt_of_cell? w _ hx410_0)).trans hx410_0
        replace hx410_1 := (HB.out.cell (World.block_lt_of_cell? w _ hx410_1)).trans hx410_1
        replace hx410_2 := (HB.out.cell (World.block_lt_of_cell? w _ hx410_2)).trans hx410_2
        replace hx410_3 := (HB.out.cell (World.block_lt_of_cell? w _ hx410_3)).trans hx410_3
        replace p410 := eq_true p410
        replace q410 := eq_true q410
        have p411 : 0 ≤ (x5_1 : Int) := of_decide_eq_true B13x1_
        have q411 : x5_1 < (l0.length : Int) := of_decide_eq_true B13x1_
        obtain ⟨ad411, e411, hx411_0, hx411_1, hx411_2, hx411_3⟩ := at_T28 HR0.out x5_1 p411 q411
        obtain rfl : ad409 = ad411 := (by injection e411)
        replace hx411_0 := (HB.out.cell (World.block_lt_of_cell? w _ hx411_0)).trans hx411_0
        replace hx411_1 := (HB.out.cell (World.block_lt_of_cell? w _ hx411_1)).trans hx411_1
        replace hx411_2 := (HB.out.cell (World.block_lt_of_cell? w _ hx411_2)).trans hx411_2
        replace hx411_3 := (HB.out.cell (World.block_lt_of_cell? w _ hx411_3)).trans hx411_3
        replace p411 := eq_true p411
        replace q411 := eq_true q411
        try go_wp2
        replace HB := Aside0.mk (below_drew1 HB.out)
        have p412 : 0 ≤ (x5_1 : Int) := of_decide_eq_true B13x1_
        have q412 : x5_1 < (l0.length : Int) := of_decide_eq_true B13x1_
        obtain ⟨ad412, e412, hx412_0, hx412_1, hx412_2, hx412_3⟩ := at_T28 HR0.out x5_1 p412 q412
        have hw412_3 := hx412_3
        have hw412_2 := hx412_2
        have hw412_1 := hx412_1
        have hw412_0 := hx412_0
        obtain rfl : ad409 = ad412 := (by injection e412)
        replace hx412_0 := (HB.out.cell (World.block_lt_of_cell? w _ hx412_0)).trans hx412_0
        replace hx412_1 := (HB.out.cell (World.block_lt_of_cell? w _ hx412_1)).trans hx412_1
        replace hx412_2 := (HB.out.cell (World.block_lt_of_cell? w _ hx412_2)).trans hx412_2
        replace hx412_3 := (HB.out.cell (World.block_lt_of_cell? w _ hx412_3)).trans hx412_3
        replace p412 := eq_true p412
        replace q412 := eq_true q412
        refine start_ (n := 8) (S := fun w' => w'.cell? (ad409.add ((x5_1).toNat * 4)) = some (.int .i64 ((rd_T28 l0 x5_1).f0)) ∧ w'.cell? ⟨(ad409.add ((x5_1).toNat * 4)).block, (ad409.add ((x5_1).toNat * 4)).off + 1, none⟩ = some (.int .i64 ((rd_T28 l0 x5_1).f1)) ∧ w'.cell? ⟨(ad409.add ((x5_1).toNat * 4)).block, (ad409.add ((x5_1).toNat * 4)).off + 2, none⟩ = some (.int .i64 ((rd_T28 l0 x5_1).f2)) ∧ w'.cell? ⟨(ad409.add ((x5_1).toNat * 4)).block, (ad409.add ((x5_1).toNat * 4)).off + 3, none⟩ = some (.string ((rd_T28 l0 x5_1).f3))) (ds := []) #[false, false, false, false, false, false, false, false] B13x5_ rfl rfl ⟨((HB.out.cell (World.block_lt_of_cell? w _ hw412_0)).trans hw412_0), ((HB.out.cell (World.block_lt_of_cell? w _ hw412_1)).trans hw412_1), ((HB.out.cell (World.block_lt_of_cell? w _ hw412_2)).trans hw412_2), ((HB.out.cell (World.block_lt_of_cell? w _ hw412_3)).trans hw412_3)⟩ (fun hHeld => ?_); refine with_tabW laws_heldSegS.tab13 laws_heldSegS.bits13 (fun HT_ HW_ => ?_)
        generalize wr.drew = w10 at HB hx412_0 hx412_1 hx412_2 hx412_3 hHeld ⊢
        refine pu_ 0 39 HT_ ?_
        refine pu_ 1 40 HT_ ?_
        refine pu_ 2 41 HT_ ?_
        refine pu_ 3 42 HT_ ?_
        refine pu_ 5 44 HT_ ?_
        refine ta_ 4 43 HT_ HW_ hHeld ?_
        refine one_ (i := 6) (N := some 45) #[true, true, true, true, true, true, true, false] rfl rfl (one_of HT_.out B13x5_) (by decide) (fun K hK => ?_)
        refine goes_ Try.func65 B13x5_ rfl #[.int .i64 (wrap64 ((wrap64 ((wrap64 (x1_1 + 1)) + 1)) + 1))] (by rfl) rfl rfl B13x3_ ?_
        with_reducible refine (laws_markText.calls k1 (wrap64 ((wrap64 ((wrap64 (x1_1 + 1)) + 1)) + 1)) t413 _ A8.out).mono ?_
        rintro e w11 ⟨rfl, hb⟩
        refine ⟨_, rfl, ?_⟩
        replace HB := Aside0.mk (below_step B13x0_ hb)
        (try clear hb)
        (try clear hb2)
        (try clear hk)
        (try clear hi)
        refine hK.out _ _ ⟨((HB.out.cell (World.block_lt_of_cell? w _ hw412_0)).trans hw412_0), ((HB.out.cell (World.block_lt_of_cell? w _ hw412_1)).trans hw412_1), ((HB.out.cell (World.block_lt_of_cell? w _ hw412_2)).trans hw412_2), ((HB.out.cell (World.block_lt_of_cell? w _ hw412_3)).trans hw412_3)⟩ (fun hHeld => ?_)
        clear hK K
        refine norm_ (a' := ?_) ?_ ?_
        rotate_left
        ·show Act.put _ (some 45) _ = _
         simp only [Act.put, List.setIfInBounds_toArray, List.set_cons_zero, List.set_cons_succ, i64_w, i32_w]
         rfl
        refine pu_ 7 46 HT_ ?_
        refine done_ (done_of HT_.out B13x5_) ?_
        try go_wp2
        go_roundg k1
        case measure => have := HK1.out; omega
        case rel => exact ⟨(wrap64 ((wrap64 ((wrap64 ((wrap64 (x1_1 + 1)) + 1)) + 1)) + 1)), (wrap64 (x5_1 + 1)), (be_), (be_), H', ⟨(by have := HK1.out; omega)⟩, ⟨B13x0_⟩⟩
       ·rw [if_neg c9] at H
        have c9b0 := beq_eq_false_iff_ne.mpr c9
        have c9b1 := bne_iff_ne.mpr c9
        obtain rfl := Option.some.inj H
        have p409 : 0 ≤ (x5_1 : Int) := of_decide_eq_true B13x1_
        have q409 : x5_1 < (l0.length : Int) := of_decide_eq_true B13x1_
        obtain ⟨ad409, e409, hx409_0, hx409_1, hx409_2, hx409_3⟩ := at_T28 HR0.out x5_1 p409 q409
        cases e409
        replace hx409_0 := (HB.out.cell (World.block_lt_of_cell? w _ hx409_0)).trans hx409_0
        replace hx409_1 := (HB.out.cell (World.block_lt_of_cell? w _ hx409_1)).trans hx409_1
        replace hx409_2 := (HB.out.cell (World.block_lt_of_cell? w _ hx409_2)).trans hx409_2
        replace hx409_3 := (HB.out.cell (World.block_lt_of_cell? w _ hx409_3)).trans hx409_3
        replace p409 := eq_true p409
        replace q409 := eq_true q409
        have p410 : 0 ≤ (x5_1 : Int) := of_decide_eq_true B13x1_
        have q410 : x5_1 < (l0.length : Int) := of_decide_eq_true B13x1_
        obtain ⟨ad410, e410, hx410_0, hx410_1, hx410_2, hx410_3⟩ := at_T28 HR0.out x5_1 p410 q410
        obtain rfl : ad409 = ad410 := B13x7_
        replace hx410_0 := (HB.out.cell (World.block_lt_of_cell? w _ hx410_0)).trans hx410_0
        replace hx410_1 := (HB.out.cell (World.block_lt_of_cell? w _ hx410_1)).trans hx410_1
        replace hx410_2 := (HB.out.cell (World.block_lt_of_cell? w _ hx410_2)).trans hx410_2
        replace hx410_3 := (HB.out.cell (World.block_lt_of_cell? w _ hx410_3)).trans hx410_3
        replace p410 := eq_true p410
        replace q410 := eq_true q410
        have p411 : 0 ≤ (x5_1 : Int) := of_decide_eq_true B13x1_
        have q411 : x5_1 < (l0.length : Int) := of_decide_eq_true B13x1_
        obtain ⟨ad411, e411, hx411_0, hx411_1, hx411_2, hx411_3⟩ := at_T28 HR0.out x5_1 p411 q411
        obtain rfl : ad409 = ad411 := (by injection e411)
        replace hx411_0 := (HB.out.cell (World.block_lt_of_cell? w _ hx411_0)).trans hx411_0
        replace hx411_1 := (HB.out.cell (World.block_lt_of_cell? w _ hx411_1)).trans hx411_1
        replace hx411_2 := (HB.out.cell (World.block_lt_of_cell? w _ hx411_2)).trans hx411_2
        replace hx411_3 := (HB.out.cell (World.block_lt_of_cell? w _ hx411_3)).trans hx411_3
        replace p411 := eq_true p411
        replace q411 := eq_true q411
        try go_wp2
        replace HB := Aside0.mk (below_drew1 HB.out)
        have p412 : 0 ≤ (x5_1 : Int) := of_decide_eq_true B13x1_
        have q412 : x5_1 < (l0.length : Int) := of_decide_eq_true B13x1_
        obtain ⟨ad412, e412, hx412_0, hx412_1, hx412_2, hx412_3⟩ := at_T28 HR0.out x5_1 p412 q412
        have hw412_3 := hx412_3
        have hw412_2 := hx412_2
        have hw412_1 := hx412_1
        have hw412_0 := hx412_0
        obtain rfl : ad409 = ad412 := (by injection e412)
        replace hx412_0 := (HB.out.cell (World.block_lt_of_cell? w _ hx412_0)).trans hx412_0
        replace hx412_1 := (HB.out.cell (World.block_lt_of_cell? w _ hx412_1)).trans hx412_1
        replace hx412_2 := (HB.out.cell (World.block_lt_of_cell? w _ hx412_2)).trans hx412_2
        replace hx412_3 := (HB.out.cell (World.block_lt_of_cell? w _ hx412_3)).trans hx412_3
        replace p412 := eq_true p412
        replace q412 := eq_true q412
        refine start_ (n := 8) (S := fun w' => w'.cell? (ad409.add ((x5_1).toNat * 4)) = some (.int .i64 ((rd_T28 l0 x5_1).f0)) ∧ w'.cell? ⟨(ad409.add ((x5_1).toNat * 4)).block, (ad409.add ((x5_1).toNat * 4)).off + 1, none⟩ = some (.int .i64 ((rd_T28 l0 x5_1).f1)) ∧ w'.cell? ⟨(ad409.add ((x5_1).toNat * 4)).block, (ad409.add ((x5_1).toNat * 4)).off + 2, none⟩ = some (.int .i64 ((rd_T28 l0 x5_1).f2)) ∧ w'.cell? ⟨(ad409.add ((x5_1).toNat * 4)).block, (ad409.add ((x5_1).toNat * 4)).off + 3, none⟩ = some (.string ((rd_T28 l0 x5_1).f3))) (ds := []) #[false, false, false, false, false, false, false, false] B13x5_ rfl rfl ⟨((HB.out.cell (World.block_lt_of_cell? w _ hw412_0)).trans hw412_0), ((HB.out.cell (World.block_lt_of_cell? w _ hw412_1)).trans hw412_1), ((HB.out.cell (World.block_lt_of_cell? w _ hw412_2)).trans hw412_2), ((HB.out.cell (World.block_lt_of_cell? w _ hw412_3)).trans hw412_3)⟩ (fun hHeld => ?_); refine with_tabW laws_heldSegS.tab13 laws_heldSegS.bits13 (fun HT_ HW_ => ?_)
        generalize wr.drew = w12 at HB hx412_0 hx412_1 hx412_2 hx412_3 hHeld ⊢
        refine pu_ 0 39 HT_ ?_
        refine pu_ 1 40 HT_ ?_
        refine pu_ 2 41 HT_ ?_
        refine pu_ 3 42 HT_ ?_
        refine pu_ 5 44 HT_ ?_
        refine ta_ 4 43 HT_ HW_ hHeld ?_
        refine one_ (i := 6) (N := some 45) #[true, true, true, true, true, true, true, false] rfl rfl (one_of HT_.out B13x5_) (by decide) (fun K hK => ?_)
        refine goes_ Try.func65 B13x5_ rfl #[.int .i64 (wrap64 ((wrap64 ((wrap64 (x1_1 + 1)) + 1)) + 1))] (by rfl) rfl rfl B13x3_ ?_
        with_reducible refine (laws_markText.calls k1 (wrap64 ((wrap64 ((wrap64 (x1_1 + 1)) + 1)) + 1)) t413 _ A8.out).mono ?_
        rintro e w13 ⟨rfl, hb⟩
        refine ⟨_, rfl, ?_⟩
        replace HB := Aside0.mk (below_step B13x0_ hb)
        (try clear hb)
        (try clear hb2)
        (try clear hk)
        (try clear hi)
        refine hK.out _ _ ⟨((HB.out.cell (World.block_lt_of_cell? w _ hw412_0)).trans hw412_0), ((HB.out.cell (World.block_lt_of_cell? w _ hw412_1)).trans hw412_1), ((HB.out.cell (World.block_lt_of_cell? w _ hw412_2)).trans hw412_2), ((HB.out.cell (World.block_lt_of_cell? w _ hw412_3)).trans hw412_3)⟩ (fun hHeld => ?_)
        clear hK K
        refine norm_ (a' := ?_) ?_ ?_
        rotate_left
        ·show Act.put _ (some 45) _ = _
         simp only [Act.put, List.setIfInBounds_toArray, List.set_cons_zero, List.set_cons_succ, i64_w, i32_w]
         rfl
        refine pu_ 7 46 HT_ ?_
        refine done_ (done_of HT_.out B13x5_) ?_
        try go_wp2
        go_ret
        exact ⟨B13x2_, B13x0_⟩
      ·rw [if_neg c7] at H
       have c7b0 := beq_eq_false_iff_ne.mpr c7
       have c7b1 := bne_iff_ne.mpr c7
       obtain rfl := Option.some.inj H
       have p409 : 0 ≤ (x5_1 : Int) := of_decide_eq_true B13x1_
       have q409 : x5_1 < (l0.length : Int) := of_decide_eq_true B13x1_
       obtain ⟨ad409, e409, hx409_0, hx409_1, hx409_2, hx409_3⟩ := at_T28 HR0.out x5_1 p409 q409
       cases e409
       replace hx409_0 := (HB.out.cell (World.block_lt_of_cell? w _ hx409_0)).trans hx409_0
       replace hx409_1 := (HB.out.cell (World.block_lt_of_cell? w _ hx409_1)).trans hx409_1
       replace hx409_2 := (HB.out.cell (World.block_lt_of_cell? w _ hx409_2)).trans hx409_2
       replace hx409_3 := (HB.out.cell (World.block_lt_of_cell? w _ hx409_3)).trans hx409_3
       replace p409 := eq_true p409
       replace q409 := eq_true q409
       have p410 : 0 ≤ (x5_1 : Int) := of_decide_eq_true B13x1_
       have q410 : x5_1 < (l0.length : Int) := of_decide_eq_true B13x1_
       obtain ⟨ad410, e410, hx410_0, hx410_1, hx410_2, hx410_3⟩ := at_T28 HR0.out x5_1 p410 q410
       obtain rfl : ad409 = ad410 := B13x7_
       replace hx410_0 := (HB.out.cell (World.block_lt_of_cell? w _ hx410_0)).trans hx410_0
       replace hx410_1 := (HB.out.cell (World.block_lt_of_cell? w _ hx410_1)).trans hx410_1
       replace hx410_2 := (HB.out.cell (World.block_lt_of_cell? w _ hx410_2)).trans hx410_2
       replace hx410_3 := (HB.out.cell (World.block_lt_of_cell? w _ hx410_3)).trans hx410_3
       replace p410 := eq_true p410
       replace q410 := eq_true q410
       have p411 : 0 ≤ (x5_1 : Int) := of_decide_eq_true B13x1_
       have q411 : x5_1 < (l0.length : Int) := of_decide_eq_true B13x1_
       obtain ⟨ad411, e411, hx411_0, hx411_1, hx411_2, hx411_3⟩ := at_T28 HR0.out x5_1 p411 q411
       obtain rfl : ad409 = ad411 := (by injection e411)
       replace hx411_0 := (HB.out.cell (World.block_lt_of_cell? w _ hx411_0)).trans hx411_0
       replace hx411_1 := (HB.out.cell (World.block_lt_of_cell? w _ hx411_1)).trans hx411_1
       replace hx411_2 := (HB.out.cell (World.block_lt_of_cell? w _ hx411_2)).trans hx411_2
       replace hx411_3 := (HB.out.cell (World.block_lt_of_cell? w _ hx411_3)).trans hx411_3
       replace p411 := eq_true p411
       replace q411 := eq_true q411
       go_wp2
       go_ret
       exact ⟨B13x2_, B13x0_⟩
     ·rw [if_neg c6] at H
      have c6b0 := beq_eq_false_iff_ne.mpr c6
      have c6b1 := bne_iff_ne.mpr c6
      obtain rfl := Option.some.inj H
      have p409 : 0 ≤ (x5_1 : Int) := of_decide_eq_true B13x1_
      have q409 : x5_1 < (l0.length : Int) := of_decide_eq_true B13x1_
      obtain ⟨ad409, e409, hx409_0, hx409_1, hx409_2, hx409_3⟩ := at_T28 HR0.out x5_1 p409 q409
      cases e409
      replace hx409_0 := (HB.out.cell (World.block_lt_of_cell? w _ hx409_0)).trans hx409_0
      replace hx409_1 := (HB.out.cell (World.block_lt_of_cell? w _ hx409_1)).trans hx409_1
      replace hx409_2 := (HB.out.cell (World.block_lt_of_cell? w _ hx409_2)).trans hx409_2
      replace hx409_3 := (HB.out.cell (World.block_lt_of_cell? w _ hx409_3)).trans hx409_3
      replace p409 := eq_true p409
      replace q409 := eq_true q409
      have p410 : 0 ≤ (x5_1 : Int) := of_decide_eq_true B13x1_
      have q410 : x5_1 < (l0.length : Int) := of_decide_eq_true B13x1_
      obtain ⟨ad410, e410, hx410_0, hx410_1, hx410_2, hx410_3⟩ := at_T28 HR0.out x5_1 p410 q410
      obtain rfl : ad409 = ad410 := B13x7_
      replace hx410_0 := (HB.out.cell (World.block_lt_of_cell? w _ hx410_0)).trans hx410_0
      replace hx410_1 := (HB.out.cell (World.block_lt_of_cell? w _ hx410_1)).trans hx410_1
      replace hx410_2 := (HB.out.cell (World.block_lt_of_cell? w _ hx410_2)).trans hx410_2
      replace hx410_3 := (HB.out.cell (World.block_lt_of_cell? w _ hx410_3)).trans hx410_3
      replace p410 := eq_true p410
      replace q410 := eq_true q410
      go_wp2
      go_ret
      exact ⟨B13x2_, B13x0_⟩
    ·rw [if_neg c5] at H
     have c5b0 := beq_eq_false_iff_ne.mpr c5
     have c5b1 := bne_iff_ne.mpr c5
     obtain rfl := Option.some.inj H
     have p409 : 0 ≤ (x5_1 : Int) := of_decide_eq_true B13x1_
     have q409 : x5_1 < (l0.length : Int) := of_decide_eq_true B13x1_
     obtain ⟨ad409, e409, hx409_0, hx409_1, hx409_2, hx409_3⟩ := at_T28 HR0.out x5_1 p409 q409
     cases e409
     replace hx409_0 := (HB.out.cell (World.block_lt_of_cell? w _ hx409_0)).trans hx409_0
     replace hx409_1 := (HB.out.cell (World.block_lt_of_cell? w _ hx409_1)).trans hx409_1
     replace hx409_2 := (HB.out.cell (World.block_lt_of_cell? w _ hx409_2)).trans hx409_2
     replace hx409_3 := (HB.out.cell (World.block_lt_of_cell? w _ hx409_3)).trans hx409_3
     replace p409 := eq_true p409
     replace q409 := eq_true q409
     go_wp2
     go_ret
     exact ⟨B13x2_, B13x0_⟩
   ·rw [if_neg c3] at H
    have c3b0 : decide (x5_1 < (l0.length : Int)) = false := decide_eq_false c3
    clear c3
    obtain rfl := Option.some.inj H
    go_wp2
    go_ret
    exact ⟨B13x2_, B13x0_⟩

end Go.Proofs.Ytmknnoeggkgkgaa.QFnExactPush
