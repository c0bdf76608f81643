/- Functions that a law reaches, as functions of Lean, and the walks that show that the calls come to their answers: written by a program of this project out of the translation. No condition. -/
import Derived.Test.YtgffdijodnpolaaQFnPutsx0
import Derived.Test.YtgffdijodnpolaaQFnPutsx10
import Derived.Test.YtgffdijodnpolaaVFnPutsShort4
import Derived.Test.YtgffdijodnpolaaVFnPutshort3
import Derived.Test.YtgffdijodnpolaaVFnPutsShort2
import Derived.Test.YtgffdijodnpolaaVFnPutsShort
namespace Go.Proofs.Ytgffdijodnpolaa.QFnPuts
open Go.RowKit Go.Proofs.YtgffdijodnpolaaW.PrintWords Go.Proofs.YtgffdijodnpolaaW.PrintLast Go.Proofs.YtgffdijodnpolaaW.PrintMore Go.Proofs.Ytgffdijodnpolaa.Short
attribute [local go_sem] max2_int min2_int max_two min_two max_three min_three max_four min_four   -- for this text's walks alone
set_option linter.unusedVariables false
set_option linter.unusedSimpArgs false

theorem B11x0_ {p : Prop} (h : p := by (try simp only [List.map_toArray, List.map_cons, List.map_nil]); first | done | rfl | (simp only [List.length_drop, List.length_take]; rfl)) : p := h
theorem B11x1_ {p : Prop} (h : p := by repeat (first | (with_reducible first | exact HB.out | apply below_alloc | apply pw_below_drewN | apply below_drew1) | exact HB.out)) : p := h
theorem B11x2_ {p : Prop} (h : p := by repeat (first | (with_reducible first | exact HB.out | apply below_alloc | apply pw_below_drewN | apply below_drew1 | refine below_set ?_ GE493.out) | exact HB.out)) : p := h
theorem B11x3_ {p : Prop} (h : p := by repeat (first | (with_reducible first | exact HB.out | apply below_alloc | apply pw_below_drewN | apply below_drew1 | refine below_set ?_ GE502.out) | exact HB.out)) : p := h
theorem B11x4_ {p : Prop} (h : p := by first | rfl | (simp [errW_none, errW_some] <;> rfl) | (simp [*, errW_none, errW_some] <;> rfl)) : p := h
theorem B11x5_ {p : Prop} (h : p := by repeat (first | (with_reducible first | exact HB.out | apply below_alloc | apply pw_below_drewN | apply below_drew1 | refine below_set ?_ GE502.out | refine below_set ?_ GE504.out) | exact HB.out)) : p := h
theorem B11x6_ {p : Prop} (h : p := by repeat (first | (with_reducible first | exact HB.out | apply below_alloc | apply pw_below_drewN | apply below_drew1 | refine below_set ?_ GE508.out | refine below_set ?_ GE509.out) | exact HB.out)) : p := h
theorem B11x7_ {p : Prop} (h : p := by (repeat (with_reducible (first | exact BK502.out | apply blk_drewN | apply blk_drew | apply blk_alloc | apply blk_put | apply bf NB502_504.out))); repeat (first | exact BK502.out | (simp only [List.setIfInBounds_toArray, List.set_cons_zero, List.set_cons_succ]; with_reducible rfl) | rfl)) : p := h
theorem B11x8_ {p : Prop} (h : p := by first | (go_simp; done) | (go_simp; rfl)) : p := h
theorem B11x9_ {p : Prop} (h : p := by (repeat (with_reducible (first | exact BK504.out | apply blk_drewN | apply blk_drew | apply blk_alloc | apply blk_put))); repeat (first | exact BK504.out | (simp only [List.setIfInBounds_toArray, List.set_cons_zero, List.set_cons_succ]; with_reducible rfl) | rfl)) : p := h
theorem B11x10_ {p : Prop} (h : p := by first | (with_reducible assumption) | assumption) : p := h
theorem B11x11_ {p : Prop} (h : p := by kernel_rfl) : p := h
theorem B11x12_ {p : Prop} (h : p := by repeat (first | exact (Kd.R_reads' HO_4.out).2.2 | (with_reducible refine Kd.C_alloc ?_ _) | (with_reducible refine Kd.C_drewN ?_ _) | (with_reducible refine Kd.C_drew ?_))) : p := h
theorem B11x13_ {p : Prop} (h : p := by (with_reducible repeat (first | refine blk_drewN ?_ _ | refine blk_drew ?_ | refine blk_alloc ?_ _)); exact BK502.out) : p := h
/-! ### impl_ReadConf: function 87 -/
def impl_ReadConf.l0 : Nat → ByteArray → List Int → Int → Option (List Int × Bool)
 | 0, _, _, _ => none
 | k + 1, x0, x4, x5 => if x5 < (x0.size : Int) then (if 0 ≤ x5 then (if x4.length < 17592186044416 then (impl_ReadConf.l0 k x0 (x4 ++ [wrap64 (bt x0 x5)]) (wrap64 (x5 + 1))) else (none)) else (none)) else ((impl_ConfOk.f k x4).bind fun t492 => (if t492 = true then (some (x4, true)) else (some (([] : List Int), false))))
def impl_ReadConf.f (k : Nat) (a0 : ByteArray) : Option (List Int × Bool) := impl_ReadConf.l0 k a0 (([] : List Int)) 0
theorem impl_ReadConf.mono_l : ∀ k, (∀ y0 y1 y2, LeO (impl_ReadConf.l0 k y0 y1 y2) (impl_ReadConf.l0 (k + 1) y0 y1 y2))
 | 0 => fun _ _ _ r h => by simp [impl_ReadConf.l0] at h
 | k + 1 => by
  have ih0 := impl_ReadConf.mono_l k
  ·intro y0 y1 y2
   unfold impl_ReadConf.l0
   repeat' first
   | (with_reducible exact ih0 _ _ _)
   | (with_reducible exact impl_ConfOk.mono _ _)
   | (with_reducible first | exact LeO.refl _ | exact LeO.none _ | refine LeO.ite ?_ ?_ | refine LeO.bind ?_ (fun _ => ?_))
   | exact ih0 _ _ _
   | exact impl_ConfOk.mono _ _
theorem impl_ReadConf.mono : ∀ a0 k, LeO (impl_ReadConf.f k a0) (impl_ReadConf.f (k + 1) a0) := by
 intro a0 k
 have ih0 := impl_ReadConf.mono_l k
 unfold impl_ReadConf.f
 repeat' first
   | (with_reducible exact ih0 _ _ _)
   | (with_reducible exact impl_ConfOk.mono _ _)
   | (with_reducible first | exact LeO.refl _ | exact LeO.none _ | refine LeO.ite ?_ ?_ | refine LeO.bind ?_ (fun _ => ?_))
   | exact ih0 _ _ _
   | exact impl_ConfOk.mono _ _
set_option maxHeartbeats 8000000 in
set_option maxRecDepth 100000 in
theorem impl_ReadConf.calls (k : Nat) (a0 : ByteArray) (r1 : List Int) (r2 : Bool) (w : World) (h : impl_ReadConf.f k a0 = some (r1, r2)) :
  Calls Try.prog 87 #[.string a0] w fun e w' => ∃ v0_ : Value, e = .returned (.tuple #[v0_, .bool r2]) ∧ Kd.R (Kd.int .i64) 3 w' w.heap.size (fun _ => True) v0_ r1 ∧ Below w.heap.size w w' := by
 have HB := Aside0.mk (Below.refl w.heap.size w)
 have H : (impl_ReadConf.l0 k a0 (([] : List Int)) 0) = some (r1, r2) := h
 clear h
 obtain ⟨y486, hy486⟩ : ∃ y_ : List Int, y_ = (([] : List Int)) := ⟨_, rfl⟩
 replace H : (impl_ReadConf.l0 k a0 y486 0) = some (r1, r2) := by first | (rw [hy486]; with_reducible exact H) | (have H2_ := (Option.bind_some _ _).symm.trans H; rw [hy486]; with_reducible exact H2_) | (have H2_ := (Option.bind_some _ _).symm.trans H; with_reducible exact H2_) | with_reducible exact H | (rw [hy486]; exact H) | exact H
 have Ny486 := Aside0.mk hy486
 clear hy486
 have H' := Aside0.mk H
 clear H
 go_enter Try.func87, Try.ntmps87
 go_wp2_with (first | ((with_reducible refine gate_dst (N := 6) rfl ?_); refine Kd.R_lit (Kd.int .i64) _ 3 ?hg (N := 6) ?hd (xs := ([] : List Int)) (inner := []) (ok := fun _ => True) (okp := fun _ => True) ?hr ?hp (fun _ hk => hk) trivial (Below.refl _ _) (Nat.le_refl _) (by simp) ?_; (case hd => rfl); (case hg => rfl); (case hr => exact B11x8_); (case hp => exact (Reps.none _ _)); intro v487 w2 ho3 hb hg_ hnew_; clear hg_ hnew_; (first | rw [← Ny486.out] at ho3 | (simp only [Int.reduceToNat] at ho3; rw [← Ny486.out] at ho3)); have HO488 := Aside0.mk (Kd.R_lower ho3 (below_size B11x1_)); replace HB := Aside0.mk (below_step B11x1_ hb); clear hb ho3))
 go_loopg [4, 5] k (fun kq v4 v5 w' => ∃ (x4_1 : List Int) (x5_1 : Int), v5 = .int .i64 x5_1 ∧ Aside0 (impl_ReadConf.l0 kq a0 x4_1 x5_1 = some (r1, r2)) ∧ Aside0 (kq ≤ k) ∧ Aside0 (Kd.R (Kd.int .i64) 3 w' w.heap.size (fun _ => True) v4 x4_1) ∧ Aside0 (Below w.heap.size w w'))
 case atStart => exact ⟨(y486), (0), (be_), H', ⟨Nat.le_refl _⟩, ⟨(by (with_reducible repeat (first | apply Kd.R_alloc | apply Kd.R_drewN | apply Kd.R_drew)); exact HO488.out)⟩, ⟨B11x1_⟩⟩
 case round =>
  clear H'
  obtain ⟨x4_1, x5_1, rfl, HA, HK1, HO_4, HB⟩ := hrel
  cases gk with
  | zero => exact absurd HA.out (by simp [impl_ReadConf.l0])
  | succ k1 =>
   have H := HA.out
   clear HA
   simp only [impl_ReadConf.l0] at H
   by_cases c4 : x5_1 < (a0.size : Int)
   ·rw [if_pos c4] at H
    have c4b0 : decide (x5_1 < (a0.size : Int)) = true := decide_eq_true c4
    clear c4
    by_cases c5 : 0 ≤ x5_1
    rotate_left
    ·rw [if_neg c5] at H
     exact absurd H (by simp)
    rw [if_pos c5] at H
    have c5b0 : decide (0 ≤ x5_1) = true := decide_eq_true c5
    clear c5
    by_cases c7 : x4_1.length < 17592186044416
    rotate_left
    ·rw [if_neg c7] at H
     exact absurd H (by simp)
    rw [if_pos c7] at H
    have LMc7 := Aside0.mk c7
    clear c7
    obtain ⟨y489, hy489⟩ : ∃ y_ : List Int, y_ = (x4_1 ++ [wrap64 (bt a0 x5_1)]) := ⟨_, rfl⟩
    replace H : (impl_ReadConf.l0 k1 a0 y489 (wrap64 (x5_1 + 1))) = some (r1, r2) := by first | (rw [hy489]; with_reducible exact H) | (have H2_ := (Option.bind_some _ _).symm.trans H; rw [hy489]; with_reducible exact H2_) | (have H2_ := (Option.bind_some _ _).symm.trans H; with_reducible exact H2_) | with_reducible exact H | (rw [hy489]; exact H) | exact H
    have Ny489 := Aside0.mk hy489
    clear hy489
    have H' := Aside0.mk H
    clear H
    have p6 : 0 ≤ (x5_1 : Int) := of_decide_eq_true B11x10_
    have q6 : x5_1 < (a0.size : Int) := of_decide_eq_true B11x10_
    have hx6 := bt_at a0 x5_1
    replace p6 := eq_true p6
    replace q6 := eq_true q6
    go_wp2_with (first | ((with_reducible refine gate_builtin (b := .append) (xs := #[.tmp 13, .tmp 18]) rfl ?_); at_builtin; refine Kd.R_append (Kd.int .i64) (w0 := w) w.heap.size rfl (.tmp 13) (.tmp 18) 37 3 (.int .i64 0) 8 rfl Try.underlying37 info3 rfl (by decide) (by omega) u4 x4_1 (wrap64 (bt a0 x5_1)) [.int .i64 (wrap64 (bt a0 x5_1))] (fun _ => True) (fun _ => False) rfl rfl ?aP (fun _ hk => hk.elim) ?aF ?aO ?aB ?aS ?aL ?_; (case aP => exact rfl); (case aB => exact B11x1_); (case aF => exact (fun _ _ => trivial)); (case aO => (with_reducible repeat (first | apply Kd.R_alloc | apply Kd.R_drewN | apply Kd.R_drew)); exact HO_4.out); (case aS => exact (below_size B11x1_)); (case aL => have := LMc7.out; omega); intro v490 w8 ho hb hg hat; rw [← Ny489.out] at ho; replace HB := Aside0.mk (hb); have HO491 := Aside0.mk (ho); clear HO_4; clear ho hb hg hat))
    go_roundg k1
    case measure => have := HK1.out; omega
    case rel => exact ⟨(y489), (wrap64 (x5_1 + 1)), (be_), H', ⟨(by have := HK1.out; omega)⟩, ⟨(by (with_reducible repeat (first | apply Kd.R_alloc | apply Kd.R_drewN | apply Kd.R_drew)); exact HO491.out)⟩, ⟨B11x1_⟩⟩
   ·rw [if_neg c4] at H
    have c4b0 : decide (x5_1 < (a0.size : Int)) = false := decide_eq_false c4
    clear c4
    replace H := bsi H
    obtain ⟨t492, A9, H⟩ := H
    (try dsimp only at H)
    by_cases c10 : t492 = true
    ·subst c10
     rw [if_pos rfl] at H
     simp only [Option.some.injEq, Prod.mk.injEq] at H
     obtain ⟨rfl, rfl⟩ := H
     obtain ⟨Ao11, co11, eo11⟩ := Kd.R_slice HO_4.out
     subst eo11
     go_wp2_with (first | ((with_reducible refine gate_callee (f := 103) rfl ?_); refine goesL_ (some 21) rfl rfl Try.func103 B11x11_ rfl #[.slice Ao11 x4_1.length co11] rfl B11x0_ ?_; (with_reducible refine (impl_ConfOk.calls k1 _ _ x4_1 true _ ?side1 ?side2 A9.out).mono ?_); (case side1 => exact B11x12_); (case side2 => exact (Kd.R_reads' HO_4.out).2.1); rintro e w' ⟨rfl, ⟨nd, rfl⟩⟩; refine ⟨_, rfl, ?_⟩))
     go_ret2
     exact ⟨_, by first | rfl | (simp [errW_none, errW_some] <;> rfl) | (simp [*, errW_none, errW_some] <;> rfl), by (with_reducible repeat (first | apply Kd.R_alloc | apply Kd.R_drewN | apply Kd.R_drew)); exact HO_4.out, by repeat (first | (with_reducible first | exact HB.out | apply below_alloc | apply pw_below_drewN | apply below_drew1) | exact HB.out)⟩
    ·replace c10 := Bool.eq_false_iff.mpr c10
     subst c10
     rw [if_neg (show ¬ (false = true) by decide)] at H
     simp only [Option.some.injEq, Prod.mk.injEq] at H
     obtain ⟨rfl, rfl⟩ := H
     obtain ⟨Ao12, co12, eo12⟩ := Kd.R_slice HO_4.out
     subst eo12
     go_wp2_with (first | ((with_reducible refine gate_callee (f := 103) rfl ?_); refine goesL_ (some 21) rfl rfl Try.func103 B11x11_ rfl #[.slice Ao12 x4_1.length co12] rfl B11x0_ ?_; (with_reducible refine (impl_ConfOk.calls k1 _ _ x4_1 false _ ?side1 ?side2 A9.out).mono ?_); (case side1 => exact B11x12_); (case side2 => exact (Kd.R_reads' HO_4.out).2.1); rintro e w' ⟨rfl, ⟨nd, rfl⟩⟩; refine ⟨_, rfl, ?_⟩))
     go_ret2
     exact ⟨_, by first | rfl | (simp [errW_none, errW_some] <;> rfl) | (simp [*, errW_none, errW_some] <;> rfl), by first | exact Kd.R_nil _ _ _ _ _ | exact Kd.N_nil _ _ _ _ _ | exact Kd.V_nil _ _ _ _ _ | exact Kd.Q_nil _ _ _ _ _ | exact Kd.S_nil _ _ _ _ _, by repeat (first | (with_reducible first | exact HB.out | apply below_alloc | apply pw_below_drewN | apply below_drew1) | exact HB.out)⟩

/-! ### impl_EntryOk: function 53 -/
def impl_EntryOk.f (k : Nat) (a0_0 : Int) (a0_1 : Int) (a0_2 : ByteArray) : Option (Bool) := if a0_1 = 1 then ((impl_isTerm.f a0_0).bind fun t494 => (if t494 = true then (some (a0_2.toList == ([] : List UInt8))) else (some false))) else (if a0_1 = 2 then ((impl_ReadConf.f k a0_2).bind fun bt495 => ((impl_isTerm.f a0_0).bind fun t499 => (if t499 = true then (some bt495.2) else (some false)))) else (if a0_1 = 3 then ((impl_isTerm.f a0_0).bind fun t500 => (if t500 = true then (some (decide ((a0_2.size : Int) ≤ 120))) else (some false))) else (some false)))
theorem impl_EntryOk.mono : ∀ a0 a1 a2 k, LeO (impl_EntryOk.f k a0 a1 a2) (impl_EntryOk.f (k + 1) a0 a1 a2) := by
 intro a0 a1 a2 k
 unfold impl_EntryOk.f
 repeat' first
   | (with_reducible exact impl_ReadConf.mono _ _)
   | (with_reducible first | exact LeO.refl _ | exact LeO.none _ | refine LeO.ite ?_ ?_ | refine LeO.bind ?_ (fun _ => ?_))
   | exact impl_ReadConf.mono _ _
set_option maxHeartbeats 8000000 in
set_option maxRecDepth 100000 in
theorem impl_EntryOk.calls (k : Nat) (a0_0 : Int) (a0_1 : Int) (a0_2 : ByteArray) (r : Bool) (w : World) (h : impl_EntryOk.f k a0_0 a0_1 a0_2 = some r) :
  Calls Try.prog 53 #[.agg #[.int .i64 a0_0, .int .i64 a0_1, .string a0_2]] w fun e w' => e = .returned (.bool r) ∧ Below w.heap.size w w' := by
 have hu28 := Try.underlying28
 have HB := Aside0.mk (Below.refl w.heap.size w)
 have H : (if a0_1 = 1 then ((impl_isTerm.f a0_0).bind fun t494 => (if t494 = true then (some (a0_2.toList == ([] : List UInt8))) else (some false))) else (if a0_1 = 2 then ((impl_ReadConf.f k a0_2).bind fun bt495 => ((impl_isTerm.f a0_0).bind fun t499 => (if t499 = true then (some bt495.2) else (some false)))) else (if a0_1 = 3 then ((impl_isTerm.f a0_0).bind fun t500 => (if t500 = true then (some (decide ((a0_2.size : Int) ≤ 120))) else (some false))) else (some false)))) = some r := h
 clear h
 by_cases c2 : a0_1 = 1
 ·rw [if_pos c2] at H
  have c2b0 := beq_iff_eq.mpr c2
  have c2b1 := bne_eq_false_iff_eq.mpr c2
  clear c2
  replace H := bsi H
  obtain ⟨t494, A3, H⟩ := H
  (try dsimp only at H)
  by_cases c4 : t494 = true
  ·subst c4
   rw [if_pos rfl] at H
   obtain rfl := Option.some.inj H
   go_enter Try.func53, Try.ntmps53
   go_wp2_with (first | ((with_reducible refine gate_dst (N := 1) rfl ?_); (try (refine gate_guard (by rfl) ?_; dsimp only)); refine box_event ?hg (N := 1) ?hd (cs := #[.int .i64 a0_0, .int .i64 a0_1, .string a0_2]) (t := 28) ?hr ?_; (case hd => rfl); (case hg => rfl); (case hr => exact B11x8_); intro gb493 hg w5 hbox hb; have BK493 := Aside0.mk (hbox); have GW493 := Aside0.mk ((bs hg (below_size HB.out))); have GE493 := Aside0.mk ((bs hg (below_size HB.out))); replace HB := Aside0.mk (below_step B11x1_ hb); clear hb hbox hg; obtain ⟨hcz6_0, hcz6_1, hcz6_2⟩ := cl3 BK493.out; obtain ⟨hfz6_0, hfz6_1, hfz6_2⟩ := fr3 BK493.out) | ((with_reducible refine gate_callee (f := 55) rfl ?_); refine goesL_ (some 11) rfl rfl Try.func55 B11x11_ rfl #[.int .i64 a0_0] rfl B11x0_ ?_; (with_reducible refine (impl_isTerm.calls a0_0 true _ A3.out).mono ?_); rintro e w' ⟨rfl, ⟨nd, rfl⟩⟩; refine ⟨_, rfl, ?_⟩))
   go_ret
   exact ⟨B11x4_, B11x2_⟩
  ·replace c4 := Bool.eq_false_iff.mpr c4
   subst c4
   rw [if_neg (show ¬ (false = true) by decide)] at H
   obtain rfl := Option.some.inj H
   go_enter Try.func53, Try.ntmps53
   go_wp2_with (first | ((with_reducible refine gate_dst (N := 1) rfl ?_); (try (refine gate_guard (by rfl) ?_; dsimp only)); refine box_event ?hg (N := 1) ?hd (cs := #[.int .i64 a0_0, .int .i64 a0_1, .string a0_2]) (t := 28) ?hr ?_; (case hd => rfl); (case hg => rfl); (case hr => exact B11x8_); intro gb493 hg w7 hbox hb; have BK493 := Aside0.mk (hbox); have GW493 := Aside0.mk ((bs hg (below_size HB.out))); have GE493 := Aside0.mk ((bs hg (below_size HB.out))); replace HB := Aside0.mk (below_step B11x1_ hb); clear hb hbox hg; obtain ⟨hcz8_0, hcz8_1, hcz8_2⟩ := cl3 BK493.out; obtain ⟨hfz8_0, hfz8_1, hfz8_2⟩ := fr3 BK493.out) | ((with_reducible refine gate_callee (f := 55) rfl ?_); refine goesL_ (some 11) rfl rfl Try.func55 B11x11_ rfl #[.int .i64 a0_0] rfl B11x0_ ?_; (with_reducible refine (impl_isTerm.calls a0_0 false _ A3.out).mono ?_); rintro e w' ⟨rfl, ⟨nd, rfl⟩⟩; refine ⟨_, rfl, ?_⟩))
   go_ret
   exact ⟨B11x4_, B11x2_⟩
 ·rw [if_neg c2] at H
  have c2b0 := beq_eq_false_iff_ne.mpr c2
  have c2b1 := bne_iff_ne.mpr c2
  by_cases c9 : a0_1 = 2
  ·rw [if_pos c9] at H
   have c9b0 := beq_iff_eq.mpr c9
   have c9b1 := bne_eq_false_iff_eq.mpr c9
   clear c9
   replace H := bsi H
   obtain ⟨⟨t495, t496⟩, A10, H⟩ := H
   (try dsimp only at H)
   replace H := bsi H
   obtain ⟨t499, A11, H⟩ := H
   (try dsimp only at H)
   by_cases c12 : t499 = true
   ·subst c12
    rw [if_pos rfl] at H
    obtain rfl := Option.some.inj H
    go_enter Try.func53, Try.ntmps53
    go_wp2_with (first | ((with_reducible refine gate_dst (N := 1) rfl ?_); (try (refine gate_guard (by rfl) ?_; dsimp only)); refine box_event ?hg (N := 1) ?hd (cs := #[.int .i64 a0_0, .int .i64 a0_1, .string a0_2]) (t := 28) ?hr ?_; (case hd => rfl); (case hg => rfl); (case hr => exact B11x8_); intro gb493 hg w13 hbox hb; have BK493 := Aside0.mk (hbox); have GW493 := Aside0.mk ((bs hg (below_size HB.out))); have GE493 := Aside0.mk ((bs hg (below_size HB.out))); replace HB := Aside0.mk (below_step B11x1_ hb); clear hb hbox hg; obtain ⟨hcz14_0, hcz14_1, hcz14_2⟩ := cl3 BK493.out; obtain ⟨hfz14_0, hfz14_1, hfz14_2⟩ := fr3 BK493.out) | ((with_reducible refine gate_callee (f := 87) rfl ?_); refine goesL_ (some 22) rfl rfl Try.func87 B11x11_ rfl #[.string a0_2] rfl B11x0_ ?_; (with_reducible refine (impl_ReadConf.calls k a0_2 t495 t496 _ A10.out).mono ?_); rintro e w15 ⟨v497, rfl, ho0, hb⟩; refine ⟨_, rfl, ?_⟩; have HO498 := Aside0.mk (Kd.R_lower ho0 (below_size B11x2_)); replace BK493 := Aside0.mk (bb BK493.out hb); replace HB := Aside0.mk (below_step B11x2_ hb); (try clear hb); (try clear ho0); obtain ⟨hcz16_0, hcz16_1, hcz16_2⟩ := cl3 BK493.out; obtain ⟨hfz16_0, hfz16_1, hfz16_2⟩ := fr3 BK493.out) | ((with_reducible refine gate_callee (f := 55) rfl ?_); refine goesL_ (some 27) rfl rfl Try.func55 B11x11_ rfl #[.int .i64 a0_0] rfl B11x0_ ?_; (with_reducible refine (impl_isTerm.calls a0_0 true _ A11.out).mono ?_); rintro e w' ⟨rfl, ⟨nd, rfl⟩⟩; refine ⟨_, rfl, ?_⟩))
    go_ret
    exact ⟨B11x4_, B11x2_⟩
   ·replace c12 := Bool.eq_false_iff.mpr c12
    subst c12
    rw [if_neg (show ¬ (false = true) by decide)] at H
    obtain rfl := Option.some.inj H
    go_enter Try.func53, Try.ntmps53
    go_wp2_with (first | ((with_reducible refine gate_dst (N := 1) rfl ?_); (try (refine gate_guard (by rfl) ?_; dsimp only)); refine box_event ?hg (N := 1) ?hd (cs := #[.int .i64 a0_0, .int .i64 a0_1, .string a0_2]) (t := 28) ?hr ?_; (case hd => rfl); (case hg => rfl); (case hr => exact B11x8_); intro gb493 hg w17 hbox hb; have BK493 := Aside0.mk (hbox); have GW493 := Aside0.mk ((bs hg (below_size HB.out))); have GE493 := Aside0.mk ((bs hg (below_size HB.out))); replace HB := Aside0.mk (below_step B11x1_ hb); clear hb hbox hg; obtain ⟨hcz18_0, hcz18_1, hcz18_2⟩ := cl3 BK493.out; obtain ⟨hfz18_0, hfz18_1, hfz18_2⟩ := fr3 BK493.out) | ((with_reducible refine gate_callee (f := 87) rfl ?_); refine goesL_ (some 22) rfl rfl Try.func87 B11x11_ rfl #[.string a0_2] rfl B11x0_ ?_; (with_reducible refine (impl_ReadConf.calls k a0_2 t495 t496 _ A10.out).mono ?_); rintro e w19 ⟨v497, rfl, ho0, hb⟩; refine ⟨_, rfl, ?_⟩; have HO498 := Aside0.mk (Kd.R_lower ho0 (below_size B11x2_)); replace BK493 := Aside0.mk (bb BK493.out hb); replace HB := Aside0.mk (below_step B11x2_ hb); (try clear hb); (try clear ho0); obtain ⟨hcz20_0, hcz20_1, hcz20_2⟩ := cl3 BK493.out; obtain ⟨hfz20_0, hfz20_1, hfz20_2⟩ := fr3 BK493.out) | ((with_reducible refine gate_callee (f := 55) rfl ?_); refine goesL_ (some 27) rfl rfl Try.func55 B11x11_ rfl #[.int .i64 a0_0] rfl B11x0_ ?_; (with_reducible refine (impl_isTerm.calls a0_0 false _ A11.out).mono ?_); rintro e w' ⟨rfl, ⟨nd, rfl⟩⟩; refine ⟨_, rfl, ?_⟩))
    go_ret
    exact ⟨B11x4_, B11x2_⟩
  ·rw [if_neg c9] at H
   have c9b0 := beq_eq_false_iff_ne.mpr c9
   have c9b1 := bne_iff_ne.mpr c9
   by_cases c21 : a0_1 = 3
   ·rw [if_pos c21] at H
    have c21b0 := beq_iff_eq.mpr c21
    have c21b1 := bne_eq_false_iff_eq.mpr c21
    clear c21
    replace H := bsi H
    obtain ⟨t500, A22, H⟩ := H
    (try dsimp only at H)
    by_cases c23 : t500 = true
    ·subst c23
     rw [if_pos rfl] at H
     obtain rfl := Option.some.inj H
     go_enter Try.func53, Try.ntmps53
     go_wp2_with (first | ((with_reducible refine gate_dst (N := 1) rfl ?_); (try (refine gate_guard (by rfl) ?_; dsimp only)); refine box_event ?hg (N := 1) ?hd (cs := #[.int .i64 a0_0, .int .i64 a0_1, .string a0_2]) (t := 28) ?hr ?_; (case hd => rfl); (case hg => rfl); (case hr => exact B11x8_); intro gb493 hg w24 hbox hb; have BK493 := Aside0.mk (hbox); have GW493 := Aside0.mk ((bs hg (below_size HB.out))); have GE493 := Aside0.mk ((bs hg (below_size HB.out))); replace HB := Aside0.mk (below_step B11x1_ hb); clear hb hbox hg; obtain ⟨hcz25_0, hcz25_1, hcz25_2⟩ := cl3 BK493.out; obtain ⟨hfz25_0, hfz25_1, hfz25_2⟩ := fr3 BK493.out) | (go_at_call 55; (with_reducible refine (impl_isTerm.calls a0_0 true _ A22.out).mono ?_); rintro e w' ⟨rfl, ⟨nd, rfl⟩⟩))
     go_ret
     exact ⟨B11x4_, B11x2_⟩
    ·replace c23 := Bool.eq_false_iff.mpr c23
     subst c23
     rw [if_neg (show ¬ (false = true) by decide)] at H
     obtain rfl := Option.some.inj H
     go_enter Try.func53, Try.ntmps53
     go_wp2_with (first | ((with_reducible refine gate_dst (N := 1) rfl ?_); (try (refine gate_guard (by rfl) ?_; dsimp only)); refine box_event ?hg (N := 1) ?hd (cs := #[.int .i64 a0_0, .int .i64 a0_1, .string a0_2]) (t := 28) ?hr ?_; (case hd => rfl); (case hg => rfl); (case hr => exact B11x8_); intro gb493 hg w26 hbox hb; have BK493 := Aside0.mk (hbox); have GW493 := Aside0.mk ((bs hg (below_size HB.out))); have GE493 := Aside0.mk ((bs hg (below_size HB.out))); replace HB := Aside0.mk (below_step B11x1_ hb); clear hb hbox hg; obtain ⟨hcz27_0, hcz27_1, hcz27_2⟩ := cl3 BK493.out; obtain ⟨hfz27_0, hfz27_1, hfz27_2⟩ := fr3 BK493.out) | (go_at_call 55; (with_reducible refine (impl_isTerm.calls a0_0 false _ A22.out).mono ?_); rintro e w' ⟨rfl, ⟨nd, rfl⟩⟩))
     go_ret
     exact ⟨B11x4_, B11x2_⟩
   ·rw [if_neg c21] at H
    have c21b0 := beq_eq_false_iff_ne.mpr c21
    have c21b1 := bne_iff_ne.mpr c21
    obtain rfl := Option.some.inj H
    go_enter Try.func53, Try.ntmps53
    go_wp2_with (first | ((with_reducible refine gate_dst (N := 1) rfl ?_); (try (refine gate_guard (by rfl) ?_; dsimp only)); refine box_event ?hg (N := 1) ?hd (cs := #[.int .i64 a0_0, .int .i64 a0_1, .string a0_2]) (t := 28) ?hr ?_; (case hd => rfl); (case hg => rfl); (case hr => exact B11x8_); intro gb493 hg w28 hbox hb; have BK493 := Aside0.mk (hbox); have GW493 := Aside0.mk ((bs hg (below_size HB.out))); have GE493 := Aside0.mk ((bs hg (below_size HB.out))); replace HB := Aside0.mk (below_step B11x1_ hb); clear hb hbox hg; obtain ⟨hcz29_0, hcz29_1, hcz29_2⟩ := cl3 BK493.out; obtain ⟨hfz29_0, hfz29_1, hfz29_2⟩ := fr3 BK493.out))
    go_ret
    exact ⟨B11x4_, B11x2_⟩

/-! ### impl_isIndex: function 54 -/
def impl_isIndex.f (a0 : Int) : Option (Bool) := (impl_within.f a0 0 1000000).bind fun t501 => (some t501)
set_option maxHeartbeats 8000000 in
set_option maxRecDepth 100000 in
theorem impl_isIndex.calls (a0 : Int) (r : Bool) (w : World) (h : impl_isIndex.f a0 = some r) :
  Calls Try.prog 54 #[.int .i64 a0] w fun e w' => e = .returned (.bool r) ∧ Drawn0 w w' := by
 have H : ((impl_within.f a0 0 1000000).bind fun t501 => (some t501)) = some r := h
 clear h
 replace H := bsi H
 obtain ⟨t501, A2, H⟩ := H
 (try dsimp only at H)
 obtain rfl := Option.some.inj H
 go_enter Try.func54, Try.ntmps54
 go_wp2_with (first | ((with_reducible refine gate_callee (f := 45) rfl ?_); refine goesL_ (some 4) rfl rfl Try.func45 B11x11_ rfl #[.int .i64 a0, .int .i64 0, .int .i64 1000000] rfl B11x0_ ?_; (with_reducible refine (impl_within.calls a0 0 1000000 t501 _ A2.out).mono ?_); rintro e w' ⟨rfl, ⟨nd, rfl⟩⟩; refine ⟨_, rfl, ?_⟩))
 go_ret
 exact ⟨(by first | rfl | (simp; done) | (simp [*]; done)), (by repeat (first | exact Drawn0.refl _ | apply Drawn0.step))⟩

/-! ### impl_LogOk: function 18 -/
def impl_LogOk.l0 : Nat → Int → List (S28) → Int → Int → Int → Int → List (S28) → Option (Bool)
 | 0, _, _, _, _, _, _, _ => none
 | k + 1, x3, x9, x10, x11, x503000, x503001, x503002 => if x11 < x10 then (if 0 ≤ x11 then (if x11 < (x9.length : Int) then ((impl_EntryOk.f k ((rd_T28 x9 x11).f0) ((rd_T28 x9 x11).f1) ((rd_T28 x9 x11).f2)).bind fun t505 => (if t505 = true then (if ((rd_T28 x9 x11).f0) < x3 then (some false) else (impl_LogOk.l0 k ((rd_T28 x9 x11).f0) x9 x10 (wrap64 (x11 + 1)) x503000 x503001 x503002)) else (some false))) else (none)) else (none)) else ((impl_isIndex.f x503000).bind fun t506 => (if t506 = true then ((impl_isTerm.f x503001).bind fun t507 => (if t507 = true then (if (x503002.length : Int) ≤ 60 then (some (decide ((wrap64 (x503000 + (x503002.length : Int))) ≤ 1000000))) else (some false)) else (some false))) else (some false)))
def impl_LogOk.f (k : Nat) (a0_0 : Int) (a0_1 : Int) (l0_2 : List (S28)) : Option (Bool) := impl_LogOk.l0 k a0_1 l0_2 (l0_2.length : Int) 0 a0_0 a0_1 l0_2
theorem impl_LogOk.mono_l : ∀ k, (∀ y0 y1 y2 y3 y4 y5 y6, LeO (impl_LogOk.l0 k y0 y1 y2 y3 y4 y5 y6) (impl_LogOk.l0 (k + 1) y0 y1 y2 y3 y4 y5 y6))
 | 0 => fun _ _ _ _ _ _ _ r h => by simp [impl_LogOk.l0] at h
 | k + 1 => by
  have ih0 := impl_LogOk.mono_l k
  ·intro y0 y1 y2 y3 y4 y5 y6
   unfold impl_LogOk.l0
   repeat' first
   | (with_reducible exact ih0 _ _ _ _ _ _ _)
   | (with_reducible exact impl_EntryOk.mono _ _ _ _)
   | (with_reducible first | exact LeO.refl _ | exact LeO.none _ | refine LeO.ite ?_ ?_ | refine LeO.bind ?_ (fun _ => ?_))
   | exact ih0 _ _ _ _ _ _ _
   | exact impl_EntryOk.mono _ _ _ _
theorem impl_LogOk.mono : ∀ a0 a1 a2 k, LeO (impl_LogOk.f k a0 a1 a2) (impl_LogOk.f (k + 1) a0 a1 a2) := by
 intro a0 a1 a2 k
 have ih0 := impl_LogOk.mono_l k
 unfold impl_LogOk.f
 repeat' first
   | (with_reducible exact ih0 _ _ _ _ _ _ _)
   | (with_reducible exact impl_EntryOk.mono _ _ _ _)
   | (with_reducible first | exact LeO.refl _ | exact LeO.none _ | refine LeO.ite ?_ ?_ | refine LeO.bind ?_ (fun _ => ?_))
   | exact ih0 _ _ _ _ _ _ _
   | exact impl_EntryOk.mono _ _ _ _
set_option maxHeartbeats 8000000 in
set_option maxRecDepth 100000 in
theorem impl_LogOk.calls (k : Nat) (a0_0 : Int) (a0_1 : Int) (A0_2 : Option Addr) (c0_2 : Nat) (l0_2 : List (S28)) (r : Bool) (w : World) (hr0_2 : Kd.C k28 w A0_2 l0_2.length l0_2) (hc0_2 : l0_2.length ≤ c0_2) (h : impl_LogOk.f k a0_0 a0_1 l0_2 = some r) :
  Calls Try.prog 18 #[.agg #[.int .i64 a0_0, .int .i64 a0_1, .slice A0_2 l0_2.length c0_2]] w fun e w' => e = .returned (.bool r) ∧ Below w.heap.size w w' := by
 have hu26 := Try.underlying26
 have hu28 := Try.underlying28
 have HR0_2 := Aside0.mk hr0_2
 have HC0_2 := Aside0.mk hc0_2
 clear hr0_2 hc0_2
 have HB := Aside0.mk (Below.refl w.heap.size w)
 have H : (impl_LogOk.l0 k a0_1 l0_2 (l0_2.length : Int) 0 a0_0 a0_1 l0_2) = some r := h
 clear h
 have H' := Aside0.mk H
 clear H
 go_enter Try.func18, Try.ntmps18
 go_wp2_with (first | ((with_reducible refine gate_dst (N := 1) rfl ?_); (try (refine gate_guard (by rfl) ?_; dsimp only)); refine box_event ?hg (N := 1) ?hd (cs := #[.int .i64 a0_0, .int .i64 a0_1, .slice A0_2 l0_2.length c0_2]) (t := 26) ?hr ?_; (case hd => rfl); (case hg => rfl); (case hr => exact B11x8_); intro gb502 hg w2 hbox hb; have BK502 := Aside0.mk (hbox); have GW502 := Aside0.mk ((bs hg (below_size HB.out))); have GE502 := Aside0.mk ((bs hg (below_size HB.out))); replace HB := Aside0.mk (below_step B11x1_ hb); clear hb hbox hg; obtain ⟨hcz3_0, hcz3_1, hcz3_2⟩ := cl3 BK502.out; obtain ⟨hfz3_0, hfz3_1, hfz3_2⟩ := fr3 BK502.out))
 go_loopg [3, 11] k (fun kq v3 v11 w' => ∃ (x3_1 : Int) (x11_1 : Int), v3 = .int .i64 x3_1 ∧ v11 = .int .i64 x11_1 ∧ Aside0 (impl_LogOk.l0 kq x3_1 l0_2 (l0_2.length : Int) x11_1 a0_0 a0_1 l0_2 = some r) ∧ Aside0 (kq ≤ k) ∧ Aside0 (w'.heap[gb502]? = some (.cells #[.int .i64 a0_0, .int .i64 a0_1, (.slice A0_2 l0_2.length c0_2)] 26 (0, 0))) ∧ Aside0 (Below w.heap.size w w'))
 case atStart => exact ⟨(a0_1), (0), (be_), (be_), H', ⟨Nat.le_refl _⟩, ⟨B11x13_⟩, ⟨B11x3_⟩⟩
 case round =>
  clear H'
  try clear hcz3_0
  try clear hcz3_1
  try clear hcz3_2
  try clear hfz3_0
  try clear hfz3_1
  try clear hfz3_2
  obtain ⟨x3_1, x11_1, rfl, rfl, HA, HK1, BK502, HB⟩ := hrel
  cases gk with
  | zero => exact absurd HA.out (by simp [impl_LogOk.l0])
  | succ k1 =>
   have H := HA.out
   clear HA
   simp only [impl_LogOk.l0] at H
   by_cases c4 : x11_1 < (l0_2.length : Int)
   ·rw [if_pos c4] at H
    have c4b0 : decide (x11_1 < (l0_2.length : Int)) = true := decide_eq_true c4
    clear c4
    by_cases c5 : 0 ≤ x11_1
    rotate_left
    ·rw [if_neg c5] at H
     exact absurd H (by simp)
    rw [if_pos c5] at H
    have c5b0 : decide (0 ≤ x11_1) = true := decide_eq_true c5
    clear c5
    by_cases c6 : x11_1 < (l0_2.length : Int)
    rotate_left
    ·exact absurd H (by exfalso; (try have h0_ := of_decide_eq_true c4b0); (try have g0_ := c4); omega)
    rw [if_pos c6] at H
    have c6b0 : decide (x11_1 < (l0_2.length : Int)) = true := decide_eq_true c6
    clear c6
    replace H := bsi H
    obtain ⟨t505, A7, H⟩ := H
    (try dsimp only at H)
    by_cases c8 : t505 = true
    ·subst c8
     rw [if_pos rfl] at H
     by_cases c9 : ((rd_T28 l0_2 x11_1).f0) < x3_1
     ·rw [if_pos c9] at H
      have c9b0 : decide (((rd_T28 l0_2 x11_1).f0) < x3_1) = true := decide_eq_true c9
      clear c9
      obtain rfl := Option.some.inj H
      have p503 : 0 ≤ (x11_1 : Int) := of_decide_eq_true B11x10_
      have q503 : x11_1 < (l0_2.length : Int) := of_decide_eq_true B11x10_
      obtain ⟨ad503, e503, hx503_0, hx503_1, hx503_2⟩ := at_T28 HR0_2.out x11_1 p503 q503
      cases e503
      replace hx503_0 := (HB.out.cell (World.block_lt_of_cell? w _ hx503_0)).trans hx503_0
      replace hx503_1 := (HB.out.cell (World.block_lt_of_cell? w _ hx503_1)).trans hx503_1
      replace hx503_2 := (HB.out.cell (World.block_lt_of_cell? w _ hx503_2)).trans hx503_2
      replace p503 := eq_true p503
      replace q503 := eq_true q503
      go_wp2_with (first | ((with_reducible refine gate_dst (N := 5) rfl ?_); (try (refine gate_guard (by rfl) ?_; dsimp only)); refine box_event ?hg (N := 5) ?hd (cs := #[.int .i64 0, .int .i64 0, .string (⟨#[]⟩ : ByteArray)]) (t := 28) ?hr ?_; (case hd => rfl); (case hg => rfl); (case hr => exact B11x8_); intro gb504 hg w10 hbox hb; have BK504 := Aside0.mk (hbox); have GW504 := Aside0.mk ((bs hg (below_size HB.out))); have GE504 := Aside0.mk ((bs hg (below_size HB.out))); replace HB := Aside0.mk (below_step B11x3_ hb); have NB502_504 := Aside0.mk ((nl hg (blk_lt BK502.out))); have NB504_502 := Aside0.mk ((ng hg (blk_lt BK502.out))); replace BK502 := Aside0.mk (bb BK502.out hb); clear hb hbox hg; have hnb11 := NB504_502.out; have hnc11 := NB502_504.out; obtain ⟨hcz12_0, hcz12_1, hcz12_2⟩ := cl3 BK504.out; obtain ⟨hfz12_0, hfz12_1, hfz12_2⟩ := fr3 BK504.out) | ((with_reducible refine gate_callee (f := 53) rfl ?_); refine goesL_ (some 16) rfl rfl Try.func53 B11x11_ rfl #[.agg #[.int .i64 ((rd_T28 l0_2 x11_1).f0), .int .i64 ((rd_T28 l0_2 x11_1).f1), .string ((rd_T28 l0_2 x11_1).f2)]] rfl B11x0_ ?_; (with_reducible refine (impl_EntryOk.calls k1 ((rd_T28 l0_2 x11_1).f0) ((rd_T28 l0_2 x11_1).f1) ((rd_T28 l0_2 x11_1).f2) true _ A7.out).mono ?_); rintro e w13 ⟨rfl, hb⟩; refine ⟨_, rfl, ?_⟩; replace BK502 := Aside0.mk (blk_below (g := gb502) (o := .cells #[.int .i64 a0_0, .int .i64 a0_1, .slice (some ad503) l0_2.length c0_2] 26 (0, 0)) B11x7_ hb); replace BK504 := Aside0.mk (blk_below (g := gb504) (o := .cells #[.int .i64 ((rd_T28 l0_2 x11_1).f0), .int .i64 ((rd_T28 l0_2 x11_1).f1), .string ((rd_T28 l0_2 x11_1).f2)] 28 (0, 0)) B11x9_ hb); replace HB := Aside0.mk (below_step B11x5_ hb); (try clear hb); obtain ⟨hcz14_0, hcz14_1, hcz14_2⟩ := cl3 BK504.out; obtain ⟨hfz14_0, hfz14_1, hfz14_2⟩ := fr3 BK504.out))
      go_ret
      exact ⟨B11x4_, B11x5_⟩
     ·rw [if_neg c9] at H
      have c9b0 : decide (((rd_T28 l0_2 x11_1).f0) < x3_1) = false := decide_eq_false c9
      clear c9
      have H' := Aside0.mk H
      clear H
      have p503 : 0 ≤ (x11_1 : Int) := of_decide_eq_true B11x10_
      have q503 : x11_1 < (l0_2.length : Int) := of_decide_eq_true B11x10_
      obtain ⟨ad503, e503, hx503_0, hx503_1, hx503_2⟩ := at_T28 HR0_2.out x11_1 p503 q503
      cases e503
      replace hx503_0 := (HB.out.cell (World.block_lt_of_cell? w _ hx503_0)).trans hx503_0
      replace hx503_1 := (HB.out.cell (World.block_lt_of_cell? w _ hx503_1)).trans hx503_1
      replace hx503_2 := (HB.out.cell (World.block_lt_of_cell? w _ hx503_2)).trans hx503_2
      replace p503 := eq_true p503
      replace q503 := eq_true q503
      go_wp2_with (first | ((with_reducible refine gate_dst (N := 5) rfl ?_); (try (refine gate_guard (by rfl) ?_; dsimp only)); refine box_event ?hg (N := 5) ?hd (cs := #[.int .i64 0, .int .i64 0, .string (⟨#[]⟩ : ByteArray)]) (t := 28) ?hr ?_; (case hd => rfl); (case hg => rfl); (case hr => exact B11x8_); intro gb504 hg w15 hbox hb; have BK504 := Aside0.mk (hbox); have GW504 := Aside0.mk ((bs hg (below_size HB.out))); have GE504 := Aside0.mk ((bs hg (below_size HB.out))); replace HB := Aside0.mk (below_step B11x3_ hb); have NB502_504 := Aside0.mk ((nl hg (blk_lt BK502.out))); have NB504_502 := Aside0.mk ((ng hg (blk_lt BK502.out))); replace BK502 := Aside0.mk (bb BK502.out hb); clear hb hbox hg; have hnb16 := NB504_502.out; have hnc16 := NB502_504.out; obtain ⟨hcz17_0, hcz17_1, hcz17_2⟩ := cl3 BK504.out; obtain ⟨hfz17_0, hfz17_1, hfz17_2⟩ := fr3 BK504.out) | ((with_reducible refine gate_callee (f := 53) rfl ?_); refine goesL_ (some 16) rfl rfl Try.func53 B11x11_ rfl #[.agg #[.int .i64 ((rd_T28 l0_2 x11_1).f0), .int .i64 ((rd_T28 l0_2 x11_1).f1), .string ((rd_T28 l0_2 x11_1).f2)]] rfl B11x0_ ?_; (with_reducible refine (impl_EntryOk.calls k1 ((rd_T28 l0_2 x11_1).f0) ((rd_T28 l0_2 x11_1).f1) ((rd_T28 l0_2 x11_1).f2) true _ A7.out).mono ?_); rintro e w18 ⟨rfl, hb⟩; refine ⟨_, rfl, ?_⟩; replace BK502 := Aside0.mk (blk_below (g := gb502) (o := .cells #[.int .i64 a0_0, .int .i64 a0_1, .slice (some ad503) l0_2.length c0_2] 26 (0, 0)) B11x7_ hb); replace BK504 := Aside0.mk (blk_below (g := gb504) (o := .cells #[.int .i64 ((rd_T28 l0_2 x11_1).f0), .int .i64 ((rd_T28 l0_2 x11_1).f1), .string ((rd_T28 l0_2 x11_1).f2)] 28 (0, 0)) B11x9_ hb); replace HB := Aside0.mk (below_step B11x5_ hb); (try clear hb); obtain ⟨hcz19_0, hcz19_1, hcz19_2⟩ := cl3 BK504.out; obtain ⟨hfz19_0, hfz19_1, hfz19_2⟩ := fr3 BK504.out))
      go_roundg k1
      case measure => have := HK1.out; omega
      case rel => exact ⟨((rd_T28 l0_2 x11_1).f0), (wrap64 (x11_1 + 1)), (be_), (be_), H', ⟨(by have := HK1.out; omega)⟩, ⟨B11x13_⟩, ⟨B11x5_⟩⟩
    ·replace c8 := Bool.eq_false_iff.mpr c8
     subst c8
     rw [if_neg (show ¬ (false = true) by decide)] at H
     obtain rfl := Option.some.inj H
     have p503 : 0 ≤ (x11_1 : Int) := of_decide_eq_true B11x10_
     have q503 : x11_1 < (l0_2.length : Int) := of_decide_eq_true B11x10_
     obtain ⟨ad503, e503, hx503_0, hx503_1, hx503_2⟩ := at_T28 HR0_2.out x11_1 p503 q503
     cases e503
     replace hx503_0 := (HB.out.cell (World.block_lt_of_cell? w _ hx503_0)).trans hx503_0
     replace hx503_1 := (HB.out.cell (World.block_lt_of_cell? w _ hx503_1)).trans hx503_1
     replace hx503_2 := (HB.out.cell (World.block_lt_of_cell? w _ hx503_2)).trans hx503_2
     replace p503 := eq_true p503
     replace q503 := eq_true q503
     go_wp2_with (first | ((with_reducible refine gate_dst (N := 5) rfl ?_); (try (refine gate_guard (by rfl) ?_; dsimp only)); refine box_event ?hg (N := 5) ?hd (cs := #[.int .i64 0, .int .i64 0, .string (⟨#[]⟩ : ByteArray)]) (t := 28) ?hr ?_; (case hd => rfl); (case hg => rfl); (case hr => exact B11x8_); intro gb504 hg w20 hbox hb; have BK504 := Aside0.mk (hbox); have GW504 := Aside0.mk ((bs hg (below_size HB.out))); have GE504 := Aside0.mk ((bs hg (below_size HB.out))); replace HB := Aside0.mk (below_step B11x3_ hb); have NB502_504 := Aside0.mk ((nl hg (blk_lt BK502.out))); have NB504_502 := Aside0.mk ((ng hg (blk_lt BK502.out))); replace BK502 := Aside0.mk (bb BK502.out hb); clear hb hbox hg; have hnb21 := NB504_502.out; have hnc21 := NB502_504.out; obtain ⟨hcz22_0, hcz22_1, hcz22_2⟩ := cl3 BK504.out; obtain ⟨hfz22_0, hfz22_1, hfz22_2⟩ := fr3 BK504.out) | ((with_reducible refine gate_callee (f := 53) rfl ?_); refine goesL_ (some 16) rfl rfl Try.func53 B11x11_ rfl #[.agg #[.int .i64 ((rd_T28 l0_2 x11_1).f0), .int .i64 ((rd_T28 l0_2 x11_1).f1), .string ((rd_T28 l0_2 x11_1).f2)]] rfl B11x0_ ?_; (with_reducible refine (impl_EntryOk.calls k1 ((rd_T28 l0_2 x11_1).f0) ((rd_T28 l0_2 x11_1).f1) ((rd_T28 l0_2 x11_1).f2) false _ A7.out).mono ?_); rintro e w23 ⟨rfl, hb⟩; refine ⟨_, rfl, ?_⟩; replace BK502 := Aside0.mk (blk_below (g := gb502) (o := .cells #[.int .i64 a0_0, .int .i64 a0_1, .slice (some ad503) l0_2.length c0_2] 26 (0, 0)) B11x7_ hb); replace BK504 := Aside0.mk (blk_below (g := gb504) (o := .cells #[.int .i64 ((rd_T28 l0_2 x11_1).f0), .int .i64 ((rd_T28 l0_2 x11_1).f1), .string ((rd_T28 l0_2 x11_1).f2)] 28 (0, 0)) B11x9_ hb); replace HB := Aside0.mk (below_step B11x5_ hb); (try clear hb)))
     go_ret
     exact ⟨B11x4_, B11x5_⟩
   ·rw [if_neg c4] at H
    have c4b0 : decide (x11_1 < (l0_2.length : Int)) = false := decide_eq_false c4
    clear c4
    replace H := bsi H
    obtain ⟨t506, A24, H⟩ := H
    (try dsimp only at H)
    by_cases c25 : t506 = true
    ·subst c25
     rw [if_pos rfl] at H
     replace H := bsi H
     obtain ⟨t507, A26, H⟩ := H
     (try dsimp only at H)
     by_cases c27 : t507 = true
     ·subst c27
      rw [if_pos rfl] at H
      by_cases c28 : (l0_2.length : Int) ≤ 60
      ·rw [if_pos c28] at H
       have c28b0 : decide ((l0_2.length : Int) ≤ 60) = true := decide_eq_true c28
       have c28b1 : decide (l0_2.length ≤ 60) = true := decide_eq_true (by omega)
       clear c28
       obtain rfl := Option.some.inj H
       obtain ⟨hcz29_0, hcz29_1, hcz29_2⟩ := cl3 BK502.out
       obtain ⟨hfz29_0, hfz29_1, hfz29_2⟩ := fr3 BK502.out
       go_wp2_with (first | ((with_reducible refine gate_callee (f := 54) rfl ?_); refine goesL_ (some 29) rfl rfl Try.func54 B11x11_ rfl #[.int .i64 a0_0] rfl B11x0_ ?_; (with_reducible refine (impl_isIndex.calls a0_0 true _ A24.out).mono ?_); rintro e w' ⟨rfl, ⟨nd, rfl⟩⟩; refine ⟨_, rfl, ?_⟩) | (go_at_call 55; (with_reducible refine (impl_isTerm.calls a0_1 true _ A26.out).mono ?_); rintro e w' ⟨rfl, ⟨nd, rfl⟩⟩))
       go_ret
       exact ⟨B11x4_, B11x3_⟩
      ·rw [if_neg c28] at H
       have c28b0 : decide ((l0_2.length : Int) ≤ 60) = false := decide_eq_false c28
       have c28b1 : decide (l0_2.length ≤ 60) = false := decide_eq_false (by omega)
       clear c28
       obtain rfl := Option.some.inj H
       obtain ⟨hcz30_0, hcz30_1, hcz30_2⟩ := cl3 BK502.out
       obtain ⟨hfz30_0, hfz30_1, hfz30_2⟩ := fr3 BK502.out
       go_wp2_with (first | ((with_reducible refine gate_callee (f := 54) rfl ?_); refine goesL_ (some 29) rfl rfl Try.func54 B11x11_ rfl #[.int .i64 a0_0] rfl B11x0_ ?_; (with_reducible refine (impl_isIndex.calls a0_0 true _ A24.out).mono ?_); rintro e w' ⟨rfl, ⟨nd, rfl⟩⟩; refine ⟨_, rfl, ?_⟩) | (go_at_call 55; (with_reducible refine (impl_isTerm.calls a0_1 true _ A26.out).mono ?_); rintro e w' ⟨rfl, ⟨nd, rfl⟩⟩))
       go_ret
       exact ⟨B11x4_, B11x3_⟩
     ·replace c27 := Bool.eq_false_iff.mpr c27
      subst c27
      rw [if_neg (show ¬ (false = true) by decide)] at H
      obtain rfl := Option.some.inj H
      obtain ⟨hcz31_0, hcz31_1, hcz31_2⟩ := cl3 BK502.out
      obtain ⟨hfz31_0, hfz31_1, hfz31_2⟩ := fr3 BK502.out
      go_wp2_with (first | ((with_reducible refine gate_callee (f := 54) rfl ?_); refine goesL_ (some 29) rfl rfl Try.func54 B11x11_ rfl #[.int .i64 a0_0] rfl B11x0_ ?_; (with_reducible refine (impl_isIndex.calls a0_0 true _ A24.out).mono ?_); rintro e w' ⟨rfl, ⟨nd, rfl⟩⟩; refine ⟨_, rfl, ?_⟩) | (go_at_call 55; (with_reducible refine (impl_isTerm.calls a0_1 false _ A26.out).mono ?_); rintro e w' ⟨rfl, ⟨nd, rfl⟩⟩))
      go_ret
      exact ⟨B11x4_, B11x3_⟩
    ·replace c25 := Bool.eq_false_iff.mpr c25
     subst c25
     rw [if_neg (show ¬ (false = true) by decide)] at H
     obtain rfl := Option.some.inj H
     obtain ⟨hcz32_0, hcz32_1, hcz32_2⟩ := cl3 BK502.out
     obtain ⟨hfz32_0, hfz32_1, hfz32_2⟩ := fr3 BK502.out
     go_wp2_with (first | ((with_reducible refine gate_callee (f := 54) rfl ?_); refine goesL_ (some 29) rfl rfl Try.func54 B11x11_ rfl #[.int .i64 a0_0] rfl B11x0_ ?_; (with_reducible refine (impl_isIndex.calls a0_0 false _ A24.out).mono ?_); rintro e w' ⟨rfl, ⟨nd, rfl⟩⟩; refine ⟨_, rfl, ?_⟩))
     go_ret
     exact ⟨B11x4_, B11x3_⟩

/-! ### impl_copyLog: function 46 -/
def impl_copyLog.f (a0_0 : Int) (a0_1 : Int) (l0_2 : List (S28)) : Option (Int × Int × (List (S28))) := (some (([] : List (S28)) : List (S28))).bind fun y510 => (if y510.length + l0_2.length < 4398046511104 then (some (a0_0, a0_1, (y510 ++ l0_2))) else (none))
def impl_copyLog.T1 : Bool × List (List Nat × List Nat) := (true, [([], []), ([0], [0]), ([], []), ([2], [2]), ([], []), ([], []), ([5], [5]), ([4, 6], [4, 6]), ([1, 3, 7], [1, 3, 7]), ([8, 7, 0, 1, 2, 3, 4, 5, 6, 7, 8], [8])])
def impl_copyLog.B1 : List Nat := [0, 1, 0, 4, 0, 0, 32, 112, 255, 511]
theorem impl_copyLog.tab1 : rtab .any (opsOf Try.f46 1) = impl_copyLog.T1 := by kernel_rfl
theorem impl_copyLog.bits1 : waitsOk impl_copyLog.T1.2 impl_copyLog.B1 = true := by kernel_rfl
set_option maxHeartbeats 8000000 in
set_option maxRecDepth 100000 in
theorem impl_copyLog.calls (a0_0 : Int) (a0_1 : Int) (A0_2 : Option Addr) (c0_2 : Nat) (l0_2 : List (S28)) (r1 : Int) (r2 : Int) (r3 : List (S28)) (w : World) (hr0_2 : Kd.C k28 w A0_2 l0_2.length l0_2) (hc0_2 : l0_2.length ≤ c0_2) (h : impl_copyLog.f a0_0 a0_1 l0_2 = some (r1, r2, r3)) :
  Calls Try.prog 46 #[.agg #[.int .i64 a0_0, .int .i64 a0_1, .slice A0_2 l0_2.length c0_2]] w fun e w' => ∃ v2_ : Value, e = .returned (.agg #[.int .i64 r1, .int .i64 r2, v2_]) ∧ Kd.R k28 28 w' w.heap.size (fun _ => True) v2_ r3 ∧ Below w.heap.size w w' := by
 have hu26 := Try.underlying26
 have HR0_2 := Aside0.mk hr0_2
 have HC0_2 := Aside0.mk hc0_2
 clear hr0_2 hc0_2
 have HB := Aside0.mk (Below.refl w.heap.size w)
 have H : ((some (([] : List (S28)) : List (S28))).bind fun y510 => (if y510.length + l0_2.length < 4398046511104 then (some (a0_0, a0_1, (y510 ++ l0_2))) else (none))) = some (r1, r2, r3) := h
 clear h
 obtain ⟨y510, hy510⟩ : ∃ y_ : List (S28), y_ = (([] : List (S28))) := ⟨_, rfl⟩
 replace H : (if y510.length + l0_2.length < 4398046511104 then (some (a0_0, a0_1, (y510 ++ l0_2))) else (none)) = some (r1, r2, r3) := by first | (rw [hy510]; with_reducible exact H) | (have H2_ := (Option.bind_some _ _).symm.trans H; rw [hy510]; with_reducible exact H2_) | (have H2_ := (Option.bind_some _ _).symm.trans H; with_reducible exact H2_) | with_reducible exact H | (rw [hy510]; exact H) | exact H
 have Ny510 := Aside0.mk hy510
 clear hy510
 by_cases c2 : y510.length + l0_2.length < 4398046511104
 rotate_left
 ·rw [if_neg c2] at H
  exact absurd H (by simp)
 rw [if_pos c2] at H
 have LMc2 := Aside0.mk c2
 clear c2
 obtain ⟨y513, hy513⟩ : ∃ y_ : List (S28), y_ = (y510 ++ l0_2) := ⟨_, rfl⟩
 replace H : (some (a0_0, a0_1, y513)) = some (r1, r2, r3) := by first | (rw [hy513]; with_reducible exact H) | (have H2_ := (Option.bind_some _ _).symm.trans H; rw [hy513]; with_reducible exact H2_) | (have H2_ := (Option.bind_some _ _).symm.trans H; with_reducible exact H2_) | with_reducible exact H | (rw [hy513]; exact H) | exact H
 have Ny513 := Aside0.mk hy513
 clear hy513
 simp only [Option.some.injEq, Prod.mk.injEq] at H
 obtain ⟨rfl, rfl, rfl⟩ := H
 go_enter Try.func46, Try.ntmps46
 try go_wp2_with (first | ((with_reducible refine gate_dst (N := 1) rfl ?_); refine box_event ?hg (N := 1) ?hd (cs := #[.int .i64 a0_0, .int .i64 a0_1, .slice A0_2 l0_2.length c0_2]) (t := 26) ?hr ?_; (case hd => rfl); (case hg => rfl); (case hr => exact B11x8_); intro gb508 hg w3 hbox hb; have BK508 := Aside0.mk (hbox); have GW508 := Aside0.mk ((bs hg (below_size HB.out))); have GE508 := Aside0.mk ((bs hg (below_size HB.out))); replace HB := Aside0.mk (below_step B11x1_ hb); clear hb hbox hg) | ((with_reducible refine gate_dst (N := 2) rfl ?_); refine box_event ?hg (N := 2) ?hd (cs := #[.int .i64 0, .int .i64 0, .slice none 0 0]) (t := 26) ?hr ?_; (case hd => rfl); (case hg => rfl); (case hr => exact B11x8_); intro gb509 hg w4 hbox hb; have BK509 := Aside0.mk (hbox); have GW509 := Aside0.mk ((bs hg (below_size HB.out))); have GE509 := Aside0.mk ((bs hg (below_size HB.out))); replace HB := Aside0.mk (below_step (by repeat (first | (with_reducible first | exact HB.out | apply below_alloc | apply pw_below_drewN | apply below_drew1 | refine below_set ?_ GE508.out) | exact HB.out)) hb); have NB508_509 := Aside0.mk ((nl hg (blk_lt BK508.out))); have NB509_508 := Aside0.mk ((ng hg (blk_lt BK508.out))); replace BK508 := Aside0.mk (bb BK508.out hb); clear hb hbox hg))
 replace BK508 := Aside0.mk (blk_drew BK508.out)
 replace BK509 := Aside0.mk (blk_drew BK509.out)
 replace HB := Aside0.mk (below_drew1 HB.out)
 refine start_ (n := 10) (S := fun w' => w'.cell? ⟨gb508, 0, none⟩ = some (.int .i64 a0_0) ∧ w'.cell? ⟨gb508, 1, none⟩ = some (.int .i64 a0_1) ∧ w'.cell? ⟨gb508, 2, none⟩ = some (.slice A0_2 l0_2.length c0_2)) (ds := []) #[false, false, false, false, false, false, false, false, false, false] B11x11_ rfl rfl ⟨(blk_cell BK508.out 0).trans rfl, (blk_cell BK508.out 1).trans rfl, (blk_cell BK508.out 2).trans rfl⟩ (fun hHeld => ?_); refine with_tabW impl_copyLog.tab1 impl_copyLog.bits1 (fun HT_ HW_ => ?_)
 generalize w4.drew = w5 at BK508 BK509 HB hHeld ⊢
 refine pu_ 0 3 HT_ ?_
 refine pu_ 2 5 HT_ ?_
 refine pu_ 5 8 HT_ ?_
 refine ta_ 1 4 HT_ HW_ hHeld ?_
 refine ta_ 3 6 HT_ HW_ hHeld ?_
 refine ta_ 6 9 HT_ HW_ hHeld ?_
 refine one_ (i := 4) (N := some 7) #[true, true, true, true, true, true, true, false, false, false] rfl rfl (one_of HT_.out B11x11_) (by decide) (fun K hK => ?_)
 refine Kd.R_lit_step k28 _ 28 ?hg (N := 7) ?hd (xs := ([] : List (S28))) (inner := []) (ok := fun _ => True) (okp := fun _ => True) ?hr ?hp (fun _ hk => hk) trivial (Below.refl _ _) (Nat.le_refl _) (by simp) ?_; (case hd => rfl); (case hg => rfl); (case hr => exact B11x8_); (case hp => exact (Reps.none _ _))
 intro v511 w6 ho7 hb hg_ hnew_
 clear hg_ hnew_
 (first | rw [← Ny510.out] at ho7 | (simp only [Int.reduceToNat] at ho7; rw [← Ny510.out] at ho7))
 have HO512 := Aside0.mk (Kd.R_lower ho7 (below_size B11x6_))
 replace BK508 := Aside0.mk (bb BK508.out hb)
 replace BK509 := Aside0.mk (bb BK509.out hb)
 replace HB := Aside0.mk (below_step B11x6_ hb)
 clear hb ho7
 refine hK.out _ _ ⟨(blk_cell BK508.out 0).trans rfl, (blk_cell BK508.out 1).trans rfl, (blk_cell BK508.out 2).trans rfl⟩ (fun hHeld => ?_)
 clear hK K
 refine norm_ (a' := ?_) ?_ ?_
 rotate_left
 ·show Act.put _ (some 7) _ = _
  simp only [Act.put, List.setIfInBounds_toArray, List.set_cons_zero, List.set_cons_succ, i64_w, i32_w]
  rfl
 refine one_ (i := 7) (N := some 10) #[true, true, true, true, true, true, true, true, false, false] rfl rfl (one_of HT_.out B11x11_) (by decide) (fun K hK => ?_)
 refine Kd.R_append_rows_step k28 (w0 := w) w.heap.size (by rfl) (.tmp 7) (.tmp 9) 24 28 (.agg #[(.int .i64 0), (.int .i64 0), (.string ⟨#[]⟩)]) 32 rfl Try.underlying24 info28 rfl (by decide) (by omega) v511 y510 l0_2 _ _ _ (fun _ => True) (fun _ => False) rfl rfl ?aO ?aR (fun _ _ h => h) (fun _ h => h.elim) ?aF ?aB ?aS ?aL ?_
 (case aR => repeat (first | exact (Kd.C_below HR0_2.out HB.out) | (with_reducible refine Kd.C_alloc ?_ _) | (with_reducible refine Kd.C_drewN ?_ _) | (with_reducible refine Kd.C_drew ?_)))
 (case aB => exact B11x6_)
 (case aF => exact (fun _ _ => trivial))
 (case aO => (with_reducible repeat (first | apply Kd.R_alloc | apply Kd.R_drewN | apply Kd.R_drew)); exact HO512.out)
 (case aS => exact (below_size B11x6_))
 (case aL => have := LMc2.out; omega)
 intro v514 w8 ho hb hg hat
 rw [← Ny513.out] at ho
 replace BK508 := Aside0.mk (blk_grown (g := gb508) (o := .cells #[.int .i64 a0_0, .int .i64 a0_1, .slice A0_2 l0_2.length c0_2] 26 (0, 0)) (by (with_reducible repeat (first | refine blk_drewN ?_ _ | refine blk_drew ?_ | refine blk_alloc ?_ _)); exact BK508.out) hg (Kd.R_ne HO512.out BK508.out (by decide)))
 replace BK509 := Aside0.mk (blk_grown (g := gb509) (o := .cells #[.int .i64 0, .int .i64 0, .slice none 0 0] 26 (0, 0)) (by (with_reducible repeat (first | refine blk_drewN ?_ _ | refine blk_drew ?_ | refine blk_alloc ?_ _)); exact BK509.out) hg (Kd.R_ne HO512.out BK509.out (by decide)))
 replace HB := Aside0.mk (hb)
 have HO515 := Aside0.mk (ho)
 clear HO512
 clear ho hb hg hat
 obtain ⟨Ao9, co9, eo9⟩ := Kd.R_slice HO515.out
 (first | subst eo9 | (injection eo9 with f1_ f2_ f3_; have f4_ := f1_.symm; have f5_ := f3_.symm; clear f1_ f2_ f3_; subst f4_; subst f5_))
 refine hK.out _ _ ⟨(blk_cell BK508.out 0).trans rfl, (blk_cell BK508.out 1).trans rfl, (blk_cell BK508.out 2).trans rfl⟩ (fun hHeld => ?_)
 clear hK K
 refine norm_ (a' := ?_) ?_ ?_
 rotate_left
 ·show Act.put _ (some 10) _ = _
  simp only [Act.put, List.setIfInBounds_toArray, List.set_cons_zero, List.set_cons_succ, i64_w, i32_w]
  rfl
 refine pu_ 8 11 HT_ ?_
 refine one_ (i := 9) (N := none) #[true, true, true, true, true, true, true, true, true, true] rfl rfl (one_of HT_.out B11x11_) (by decide) (fun K hK => ?_)
 have hs10 : w8.cell? ⟨gb509, 0, none⟩ = some (.int .i64 0) := (blk_cell BK509.out 0).trans rfl
 have hfs10 := blk_frozen BK509.out 0
 have hns10_0 := NB508_509.out
 have hms10_0 := NB509_508.out
 have hs11 : w8.cell? ⟨gb509, 1, none⟩ = some (.int .i64 0) := (blk_cell BK509.out 1).trans rfl
 have hfs11 := blk_frozen BK509.out 1
 have hns11_0 := NB508_509.out
 have hms11_0 := NB509_508.out
 have hs12 : w8.cell? ⟨gb509, 2, none⟩ = some (.slice none 0 0) := (blk_cell BK509.out 2).trans rfl
 have hfs12 := blk_frozen BK509.out 2
 have hns12_0 := NB508_509.out
 have hms12_0 := NB509_508.out
 refine skip_ (w1 := ?_) (by rfl) rfl ?_ ?_
 rotate_left
 ·go_simp
  rfl
 refine hK.out _ _ ⟨((cell_far (p := ⟨gb509, _, none⟩) NB508_509.out _).trans (((cell_far (p := ⟨gb509, _, none⟩) NB508_509.out _).trans (((cell_far (p := ⟨gb509, _, none⟩) NB508_509.out _).trans (hHeld.1)))))), ((cell_far (p := ⟨gb509, _, none⟩) NB508_509.out _).trans (((cell_far (p := ⟨gb509, _, none⟩) NB508_509.out _).trans (((cell_far (p := ⟨gb509, _, none⟩) NB508_509.out _).trans (hHeld.2.1)))))), ((cell_far (p := ⟨gb509, _, none⟩) NB508_509.out _).trans (((cell_far (p := ⟨gb509, _, none⟩) NB508_509.out _).trans (((cell_far (p := ⟨gb509, _, none⟩) NB508_509.out _).trans (hHeld.2.2))))))⟩ (fun hHeld => ?_)
 clear hK K
 refine done_ (done_of HT_.out B11x11_) ?_
 try go_wp2
 refine bodyPost_ret (results_cell_row rfl _ _ gb509 26 #[.int .i64 a0_0, .int .i64 a0_1, .slice Ao9 y513.length co9] (0, 0) _ rfl (by (repeat (with_reducible (first | exact BK509.out | apply blk_drewN | apply blk_drew | apply blk_alloc | apply blk_put))); repeat (first | exact BK509.out | (simp only [List.setIfInBounds_toArray, List.set_cons_zero, List.set_cons_succ]; with_reducible rfl) | rfl)) Try.underlying26 rfl B11x11_) rfl ?_
 exact ⟨_, by first | rfl | (simp [errW_none, errW_some] <;> rfl) | (simp [*, errW_none, errW_some] <;> rfl), by (with_reducible repeat (first | apply Kd.R_alloc | apply Kd.R_drewN | apply Kd.R_drew)); exact Kd.R_mono (Kd.R_far (p := ⟨gb509, 2, none⟩) (Kd.R_far (p := ⟨gb509, 1, none⟩) (Kd.R_far (p := ⟨gb509, 0, none⟩) (Kd.R_types HO515.out BK509.out (by decide)) (fun _ hk => hk.2) (.int .i64 a0_0)) (fun _ hk => hk.2) (.int .i64 a0_1)) (fun _ hk => hk.2) (.slice Ao9 y513.length co9)) (fun _ hk => trivial), by repeat (first | (with_reducible first | exact HB.out | apply below_alloc | apply pw_below_drewN | apply below_drew1 | refine below_set ?_ GE508.out | refine below_set ?_ GE509.out) | exact HB.out)⟩

end Go.Proofs.Ytgffdijodnpolaa.QFnPuts
