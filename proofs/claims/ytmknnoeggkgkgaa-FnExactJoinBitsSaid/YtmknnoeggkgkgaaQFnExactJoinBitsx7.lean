/- Functions that a law reaches, as functions of Lean, and the walks that show that the calls come to their answers: written by a program of this project out of the translation. No condition. -/
import Derived.Test.YtmknnoeggkgkgaaQFnExactJoinBitsx0
import Derived.Test.YtmknnoeggkgkgaaVFnExactJoinBitshort4
import Derived.Test.YtmknnoeggkgkgaaVFnExactJoinBitshort3
import Derived.Test.YtmknnoeggkgkgaaVFnExactJoinBitsShort2
import Derived.Test.YtmknnoeggkgkgaaVFnExactJoinBitsShort
namespace Go.Proofs.Ytmknnoeggkgkgaa.QFnExactJoinBits
open Go.RowKit Go.Proofs.YtmknnoeggkgkgaaW.PrintWords Go.Proofs.YtmknnoeggkgkgaaW.PrintLast Go.Proofs.YtmknnoeggkgkgaaW.PrintMore Go.Proofs.Ytmknnoeggkgkgaa.Short
attribute [local go_sem] max2_int min2_int max_two min_two max_three min_three max_four min_four   -- for this text's walks alone
set_option linter.unusedVariables false
set_option linter.unusedSimpArgs false

theorem B7x0_ {p : Prop} (h : p := by repeat (first | (with_reducible first | exact HB.out | apply below_alloc | apply pw_below_drewN | apply below_drew1 | refine below_set ?_ GE222.out) | exact HB.out)) : p := h
theorem B7x1_ {p : Prop} (h : p := by repeat (first | (with_reducible first | exact HB.out | apply below_alloc | apply pw_below_drewN | apply below_drew1 | refine below_set ?_ GE238.out) | exact HB.out)) : p := h
theorem B7x2_ {p : Prop} (h : p := by (with_reducible repeat (first | refine blk_drewN ?_ _ | refine blk_drew ?_ | refine blk_alloc ?_ _)); exact BK238.out) : p := h
theorem B7x3_ {p : Prop} (h : p := by repeat (first | (with_reducible first | exact HB.out | apply below_alloc | apply pw_below_drewN | apply below_drew1) | exact HB.out)) : p := h
theorem B7x4_ {p : Prop} (h : p := by (repeat (with_reducible (first | exact BK222.out | apply blk_drewN | apply blk_drew | apply blk_alloc | apply blk_put))); repeat (first | exact BK222.out | (simp only [List.setIfInBounds_toArray, List.set_cons_zero, List.set_cons_succ]; with_reducible rfl) | rfl)) : p := h
theorem B7x5_ {p : Prop} (h : p := by first | (with_reducible assumption) | assumption) : p := h
theorem B7x6_ {p : Prop} (h : p := by (with_reducible repeat (first | refine blk_drewN ?_ _ | refine blk_drew ?_ | refine blk_alloc ?_ _)); exact BK222.out) : p := h
theorem B7x7_ {p : Prop} (h : p := by first | (go_simp; done) | (go_simp; rfl)) : p := h
theorem B7x8_ {p : Prop} (h : p := by (with_reducible repeat (first | apply Kd.S_alloc | apply Kd.S_drewN | apply Kd.S_drew)); exact HO_3.out) : p := h
theorem B7x9_ {p : Prop} (h : p := by have := HK1.out; have := HJ2.out; have := HK3.out; omega) : p := h
theorem B7x10_ {p : Prop} (h : p := by (with_reducible repeat (first | apply Kd.R_alloc | apply Kd.R_drewN | apply Kd.R_drew)); exact HO231.out) : p := h
theorem B7x11_ {p : Prop} (h : p := by first | rfl | (simp [errW_none, errW_some] <;> rfl) | (simp [*, errW_none, errW_some] <;> rfl)) : p := h
theorem B7x12_ {p : Prop} (h : p := by have := HK1.out; first | omega | exact Nat.le_refl _) : p := h
theorem B7x13_ {p : Prop} (h : p := by exact (below_size B7x0_)) : p := h
/-! ### spec_l11CopyBits: function 104 -/
def spec_l11CopyBits.l0 : Nat → List (S82) → List (S82) → Int → Option ((List (S82)))
 | 0, _, _, _ => none
 | k + 1, x0, x3, x4 => if x4 < (x0.length : Int) then (if 0 ≤ x4 then ((some (([] : List ByteArray) : List ByteArray)).bind fun y223 => (if y223.length + ((rd_T82 x0 x4).f2).length < 8796093022208 then ((some (([] : List Int) : List Int)).bind fun y229 => (if y229.length + ((rd_T82 x0 x4).f3).length < 17592186044416 then (if x3.length < 1759218604441 then (spec_l11CopyBits.l0 k x0 (x3 ++ [(⟨(rd_T82 x0 x4).f0, (rd_T82 x0 x4).f1, (y223 ++ ((rd_T82 x0 x4).f2)), (y229 ++ ((rd_T82 x0 x4).f3)), (rd_T82 x0 x4).f4, (rd_T82 x0 x4).f5⟩ : S82)]) (wrap64 (x4 + 1))) else (none)) else (none))) else (none))) else (none)) else (some x3)
def spec_l11CopyBits.f (k : Nat) (l0 : List (S82)) : Option ((List (S82))) := spec_l11CopyBits.l0 k l0 (([] : List (S82))) 0
theorem spec_l11CopyBits.mono_l : ∀ k, (∀ y0 y1 y2, LeO (spec_l11CopyBits.l0 k y0 y1 y2) (spec_l11CopyBits.l0 (k + 1) y0 y1 y2))
 | 0 => fun _ _ _ r h => by simp [spec_l11CopyBits.l0] at h
 | k + 1 => by
  have ih0 := spec_l11CopyBits.mono_l k
  ·intro y0 y1 y2
   unfold spec_l11CopyBits.l0
   repeat' first
   | (with_reducible exact ih0 _ _ _)
   | (with_reducible first | exact LeO.refl _ | exact LeO.none _ | refine LeO.ite ?_ ?_ | refine LeO.bind ?_ (fun _ => ?_))
   | exact ih0 _ _ _
theorem spec_l11CopyBits.mono : ∀ a0 k, LeO (spec_l11CopyBits.f k a0) (spec_l11CopyBits.f (k + 1) a0) := by
 intro a0 k
 have ih0 := spec_l11CopyBits.mono_l k
 unfold spec_l11CopyBits.f
 repeat' first
   | (with_reducible exact ih0 _ _ _)
   | (with_reducible first | exact LeO.refl _ | exact LeO.none _ | refine LeO.ite ?_ ?_ | refine LeO.bind ?_ (fun _ => ?_))
   | exact ih0 _ _ _
set_option maxHeartbeats 8000000 in
set_option maxRecDepth 100000 in
theorem spec_l11CopyBits.calls (k : Nat) (A0 : Option Addr) (c0 : Nat) (l0 : List (S82)) (r : List (S82)) (w : World) (hr0 : Kd.C k82 w A0 l0.length l0) (hc0 : l0.length ≤ c0) (h : spec_l11CopyBits.f k l0 = some r) :
  Calls Try.prog 104 #[.slice A0 l0.length c0] w fun e w' => ∃ v0_ : Value, e = .returned (v0_) ∧ Kd.S k82 82 w' w.heap.size (fun _ => True) v0_ r ∧ Below w.heap.size w w' := by
 have hu82 := Try.underlying82
 have HR0 := Aside0.mk hr0
 have HC0 := Aside0.mk hc0
 clear hr0 hc0
 have HB := Aside0.mk (Below.refl w.heap.size w)
 have H : (spec_l11CopyBits.l0 k l0 (([] : List (S82))) 0) = some r := h
 clear h
 obtain ⟨y218, hy218⟩ : ∃ y_ : List (S82), y_ = (([] : List (S82))) := ⟨_, rfl⟩
 replace H : (spec_l11CopyBits.l0 k l0 y218 0) = some r := by first | (rw [hy218]; with_reducible exact H) | (have H2_ := (Option.bind_some _ _).symm.trans H; rw [hy218]; with_reducible exact H2_) | (have H2_ := (Option.bind_some _ _).symm.trans H; with_reducible exact H2_) | with_reducible exact H | (rw [hy218]; exact H) | exact H
 have Ny218 := Aside0.mk hy218
 clear hy218
 have H' := Aside0.mk H
 clear H
 go_enter Try.func104, Try.ntmps104
 go_wp2_with (first | ((with_reducible refine gate_dst (N := 6) rfl ?_); refine Kd.S_lit k82 _ 82 ?hg (N := 6) ?hd (xs := ([] : List (S82))) (inner := []) (ok := fun _ => True) (okp := fun _ => True) ?hr ?hp (fun _ hk => hk) trivial (Below.refl _ _) (Nat.le_refl _) (by simp) ?_; (case hd => rfl); (case hg => rfl); (case hr => exact B7x7_); (case hp => exact (Reps.none _ _)); intro v219 w2 ho3 hb hg_ hnew_; clear hg_ hnew_; (first | rw [← Ny218.out] at ho3 | (simp only [Int.reduceToNat] at ho3; rw [← Ny218.out] at ho3)); have HO220 := Aside0.mk (Kd.S_lower ho3 (below_size B7x3_)); replace HB := Aside0.mk (below_step B7x3_ hb); clear hb ho3))
 go_loopg [3, 4] k (fun kq v3 v4 w' => ∃ (x3_1 : List (S82)) (x4_1 : Int), v4 = .int .i64 x4_1 ∧ Aside0 (spec_l11CopyBits.l0 kq l0 x3_1 x4_1 = some r) ∧ Aside0 (kq ≤ k) ∧ Aside0 (Kd.S k82 82 w' w.heap.size (fun _ => True) v3 x3_1) ∧ Aside0 (Below w.heap.size w w'))
 case atStart => exact ⟨(y218), (0), (be_), H', ⟨Nat.le_refl _⟩, ⟨(by (with_reducible repeat (first | apply Kd.S_alloc | apply Kd.S_drewN | apply Kd.S_drew)); exact HO220.out)⟩, ⟨B7x3_⟩⟩
 case round =>
  clear H'
  obtain ⟨x3_1, x4_1, rfl, HA, HK1, HO_3, HB⟩ := hrel
  cases gk with
  | zero => exact absurd HA.out (by simp [spec_l11CopyBits.l0])
  | succ k1 =>
   have H := HA.out
   clear HA
   simp only [spec_l11CopyBits.l0] at H
   by_cases c4 : x4_1 < (l0.length : Int)
   ·rw [if_pos c4] at H
    have c4b0 : decide (x4_1 < (l0.length : Int)) = true := decide_eq_true c4
    clear c4
    by_cases c5 : 0 ≤ x4_1
    rotate_left
    ·rw [if_neg c5] at H
     exact absurd H (by simp)
    rw [if_pos c5] at H
    have c5b0 : decide (0 ≤ x4_1) = true := decide_eq_true c5
    clear c5
    obtain ⟨y223, hy223⟩ : ∃ y_ : List ByteArray, y_ = (([] : List ByteArray)) := ⟨_, rfl⟩
    replace H : (if y223.length + ((rd_T82 l0 x4_1).f2).length < 8796093022208 then ((some (([] : List Int) : List Int)).bind fun y229 => (if y229.length + ((rd_T82 l0 x4_1).f3).length < 17592186044416 then (if x3_1.length < 1759218604441 then (spec_l11CopyBits.l0 k1 l0 (x3_1 ++ [(⟨(rd_T82 l0 x4_1).f0, (rd_T82 l0 x4_1).f1, (y223 ++ ((rd_T82 l0 x4_1).f2)), (y229 ++ ((rd_T82 l0 x4_1).f3)), (rd_T82 l0 x4_1).f4, (rd_T82 l0 x4_1).f5⟩ : S82)]) (wrap64 (x4_1 + 1))) else (none)) else (none))) else (none)) = some r := by first | (rw [hy223]; with_reducible exact H) | (have H2_ := (Option.bind_some _ _).symm.trans H; rw [hy223]; with_reducible exact H2_) | (have H2_ := (Option.bind_some _ _).symm.trans H; with_reducible exact H2_) | with_reducible exact H | (rw [hy223]; exact H) | exact H
    have Ny223 := Aside0.mk hy223
    clear hy223
    by_cases c6 : y223.length + ((rd_T82 l0 x4_1).f2).length < 8796093022208
    rotate_left
    ·rw [if_neg c6] at H
     exact absurd H (by simp)
    rw [if_pos c6] at H
    have LMc6 := Aside0.mk c6
    clear c6
    obtain ⟨y226, hy226⟩ : ∃ y_ : List ByteArray, y_ = (y223 ++ ((rd_T82 l0 x4_1).f2)) := ⟨_, rfl⟩
    replace H : ((some (([] : List Int) : List Int)).bind fun y229 => (if y229.length + ((rd_T82 l0 x4_1).f3).length < 17592186044416 then (if x3_1.length < 1759218604441 then (spec_l11CopyBits.l0 k1 l0 (x3_1 ++ [(⟨(rd_T82 l0 x4_1).f0, (rd_T82 l0 x4_1).f1, y226, (y229 ++ ((rd_T82 l0 x4_1).f3)), (rd_T82 l0 x4_1).f4, (rd_T82 l0 x4_1).f5⟩ : S82)]) (wrap64 (x4_1 + 1))) else (none)) else (none))) = some r := by first | (rw [hy226]; with_reducible exact H) | (have H2_ := (Option.bind_some _ _).symm.trans H; rw [hy226]; with_reducible exact H2_) | (have H2_ := (Option.bind_some _ _).symm.trans H; with_reducible exact H2_) | with_reducible exact H | (rw [hy226]; exact H) | exact H
    have Ny226 := Aside0.mk hy226
    clear hy226
    obtain ⟨y229, hy229⟩ : ∃ y_ : List Int, y_ = (([] : List Int)) := ⟨_, rfl⟩
    replace H : (if y229.length + ((rd_T82 l0 x4_1).f3).length < 17592186044416 then (if x3_1.length < 1759218604441 then (spec_l11CopyBits.l0 k1 l0 (x3_1 ++ [(⟨(rd_T82 l0 x4_1).f0, (rd_T82 l0 x4_1).f1, y226, (y229 ++ ((rd_T82 l0 x4_1).f3)), (rd_T82 l0 x4_1).f4, (rd_T82 l0 x4_1).f5⟩ : S82)]) (wrap64 (x4_1 + 1))) else (none)) else (none)) = some r := by first | (rw [hy229]; with_reducible exact H) | (have H2_ := (Option.bind_some _ _).symm.trans H; rw [hy229]; with_reducible exact H2_) | (have H2_ := (Option.bind_some _ _).symm.trans H; with_reducible exact H2_) | with_reducible exact H | (rw [hy229]; exact H) | exact H
    have Ny229 := Aside0.mk hy229
    clear hy229
    by_cases c7 : y229.length + ((rd_T82 l0 x4_1).f3).length < 17592186044416
    rotate_left
    ·rw [if_neg c7] at H
     exact absurd H (by simp)
    rw [if_pos c7] at H
    have LMc7 := Aside0.mk c7
    clear c7
    obtain ⟨y232, hy232⟩ : ∃ y_ : List Int, y_ = (y229 ++ ((rd_T82 l0 x4_1).f3)) := ⟨_, rfl⟩
    replace H : (if x3_1.length < 1759218604441 then (spec_l11CopyBits.l0 k1 l0 (x3_1 ++ [(⟨(rd_T82 l0 x4_1).f0, (rd_T82 l0 x4_1).f1, y226, y232, (rd_T82 l0 x4_1).f4, (rd_T82 l0 x4_1).f5⟩ : S82)]) (wrap64 (x4_1 + 1))) else (none)) = some r := by first | (rw [hy232]; with_reducible exact H) | (have H2_ := (Option.bind_some _ _).symm.trans H; rw [hy232]; with_reducible exact H2_) | (have H2_ := (Option.bind_some _ _).symm.trans H; with_reducible exact H2_) | with_reducible exact H | (rw [hy232]; exact H) | exact H
    have Ny232 := Aside0.mk hy232
    clear hy232
    by_cases c8 : x3_1.length < 1759218604441
    rotate_left
    ·rw [if_neg c8] at H
     exact absurd H (by simp)
    rw [if_pos c8] at H
    have LMc8 := Aside0.mk c8
    clear c8
    obtain ⟨y235, hy235⟩ : ∃ y_ : List (S82), y_ = (x3_1 ++ [(⟨(rd_T82 l0 x4_1).f0, (rd_T82 l0 x4_1).f1, y226, y232, (rd_T82 l0 x4_1).f4, (rd_T82 l0 x4_1).f5⟩ : S82)]) := ⟨_, rfl⟩
    replace H : (spec_l11CopyBits.l0 k1 l0 y235 (wrap64 (x4_1 + 1))) = some r := by first | (rw [hy235]; with_reducible exact H) | (have H2_ := (Option.bind_some _ _).symm.trans H; rw [hy235]; with_reducible exact H2_) | (have H2_ := (Option.bind_some _ _).symm.trans H; with_reducible exact H2_) | with_reducible exact H | (rw [hy235]; exact H) | exact H
    have Ny235 := Aside0.mk hy235
    clear hy235
    have H' := Aside0.mk H
    clear H
    have p221 : 0 ≤ (x4_1 : Int) := of_decide_eq_true B7x5_
    have q221 : x4_1 < (l0.length : Int) := of_decide_eq_true B7x5_
    obtain ⟨ad221, A221_2, c221_2, A221_3, c221_3, e221, hx221_0, hx221_1, hx221_2, hx221_3, hx221_4, hx221_5, hl221_2, hi221_2, hl221_3, hi221_3⟩ := at_T82 HR0.out x4_1 p221 q221
    cases e221
    replace hx221_0 := (HB.out.cell (World.block_lt_of_cell? w _ hx221_0)).trans hx221_0
    replace hx221_1 := (HB.out.cell (World.block_lt_of_cell? w _ hx221_1)).trans hx221_1
    replace hx221_2 := (HB.out.cell (World.block_lt_of_cell? w _ hx221_2)).trans hx221_2
    replace hx221_3 := (HB.out.cell (World.block_lt_of_cell? w _ hx221_3)).trans hx221_3
    replace hx221_4 := (HB.out.cell (World.block_lt_of_cell? w _ hx221_4)).trans hx221_4
    replace hx221_5 := (HB.out.cell (World.block_lt_of_cell? w _ hx221_5)).trans hx221_5
    have HR221_2 := Aside0.mk hi221_2
    have HC221_2 := Aside0.mk hl221_2
    clear hi221_2 hl221_2
    have HR221_3 := Aside0.mk hi221_3
    have HC221_3 := Aside0.mk hl221_3
    clear hi221_3 hl221_3
    replace p221 := eq_true p221
    replace q221 := eq_true q221
    go_wp2_with (first | ((with_reducible refine gate_dst (N := 5) rfl ?_); refine box_event ?hg (N := 5) ?hd (cs := #[.int .i64 0, .int .i64 0, .slice none 0 0, .slice none 0 0, .int .i64 0, .int .i64 0]) (t := 82) ?hr ?_; (case hd => rfl); (case hg => rfl); (case hr => exact B7x7_); intro gb222 hg w9 hbox hb; replace HO_3 := Aside0.mk (Kd.S_below (Kd.S_elderB B7x8_ gb222 (Nat.le_of_eq hg.symm)) hb); have BK222 := Aside0.mk (hbox); have GW222 := Aside0.mk ((bs hg (below_size HB.out))); have GE222 := Aside0.mk ((bs hg (below_size HB.out))); replace HB := Aside0.mk (below_step B7x3_ hb); clear hb hbox hg; obtain ⟨hcz10_0, hcz10_1, hcz10_2, hcz10_3, hcz10_4, hcz10_5⟩ := cl6 BK222.out; obtain ⟨hfz10_0, hfz10_1, hfz10_2, hfz10_3, hfz10_4, hfz10_5⟩ := fr6 BK222.out) | ((with_reducible refine gate_store (t := 82) (p := 5) rfl ?_); refine store_event (t := 82) (p := 5) (v := ?vo_w11) (w1 := ((((((w9.setCell ⟨gb222, 0, none⟩ (.int .i64 ((rd_T82 l0 x4_1).f0))).setCell ⟨gb222, 1, none⟩ (.int .i64 ((rd_T82 l0 x4_1).f1))).setCell ⟨gb222, 2, none⟩ (.slice A221_2 ((rd_T82 l0 x4_1).f2).length c221_2)).setCell ⟨gb222, 3, none⟩ (.slice A221_3 ((rd_T82 l0 x4_1).f3).length c221_3)).setCell ⟨gb222, 4, none⟩ (.int .i64 ((rd_T82 l0 x4_1).f4))).setCell ⟨gb222, 5, none⟩ (.int .i64 ((rd_T82 l0 x4_1).f5)))) ?hg ?ho ?hn ?hr ?_; (case ho => rfl); (case hg => rfl); (case hn => rfl); (case hr => exact B7x7_); intro w11 hw; replace HO_3 : Aside0 (Kd.S k82 82 w11 w.heap.size (fun k_ => k_ ≠ gb222) u3 x3_1) := ⟨(by rw [hw]; exact (by (with_reducible repeat (first | apply Kd.S_alloc | apply Kd.S_drewN | apply Kd.S_drew)); exact Kd.S_mono (Kd.S_far (p := ⟨gb222, 5, none⟩) (Kd.S_far (p := ⟨gb222, 4, none⟩) (Kd.S_far (p := ⟨gb222, 3, none⟩) (Kd.S_far (p := ⟨gb222, 2, none⟩) (Kd.S_far (p := ⟨gb222, 1, none⟩) (Kd.S_far (p := ⟨gb222, 0, none⟩) (Kd.S_mono HO_3.out (fun k_ hk => (⟨hk, hk.2⟩ : _ ∧ k_ ≠ gb222))) (fun _ hk => hk.2) (.int .i64 ((rd_T82 l0 x4_1).f0))) (fun _ hk => hk.2) (.int .i64 ((rd_T82 l0 x4_1).f1))) (fun _ hk => hk.2) (.slice A221_2 ((rd_T82 l0 x4_1).f2).length c221_2)) (fun _ hk => hk.2) (.slice A221_3 ((rd_T82 l0 x4_1).f3).length c221_3)) (fun _ hk => hk.2) (.int .i64 ((rd_T82 l0 x4_1).f4))) (fun _ hk => hk.2) (.int .i64 ((rd_T82 l0 x4_1).f5))) (fun _ hk => hk.1.2)))⟩; replace BK222 : Aside0 (w11.heap[gb222]? = some (.cells #[.int .i64 ((rd_T82 l0 x4_1).f0), .int .i64 ((rd_T82 l0 x4_1).f1), .slice A221_2 ((rd_T82 l0 x4_1).f2).length c221_2, .slice A221_3 ((rd_T82 l0 x4_1).f3).length c221_3, .int .i64 ((rd_T82 l0 x4_1).f4), .int .i64 ((rd_T82 l0 x4_1).f5)] 82 (0, 0))) := ⟨(by rw [hw]; exact B7x4_)⟩; replace HB : Aside0 (Below w.heap.size w w11) := ⟨(by rw [hw]; exact B7x0_)⟩; clear hw) | ((with_reducible refine gate_dst (N := 17) rfl ?_); refine Kd.R_lit Kd.string _ 9 ?hg (N := 17) ?hd (xs := ([] : List ByteArray)) (inner := []) (ok := fun _ => True) (okp := fun _ => True) ?hr ?hp (fun _ hk => hk) trivial (Below.refl _ _) (Nat.le_refl _) (by simp) ?_; (case hd => rfl); (case hg => rfl); (case hr => exact B7x7_); (case hp => exact (Reps.none _ _)); intro v224 w12 ho13 hb hg_ hnew_; clear hg_ hnew_; (first | rw [← Ny223.out] at ho13 | (simp only [Int.reduceToNat] at ho13; rw [← Ny223.out] at ho13)); replace HO_3 := Aside0.mk (Kd.S_elder' B7x8_ (Kd.R_base ho13) hb); have HO225 := Aside0.mk (Kd.R_lower ho13 (below_size B7x0_)); replace BK222 := Aside0.mk (bb BK222.out hb); replace HB := Aside0.mk (below_step B7x0_ hb); clear hb ho13; obtain ⟨hcz14_0, hcz14_1, hcz14_2, hcz14_3, hcz14_4, hcz14_5⟩ := cl6 BK222.out; obtain ⟨hfz14_0, hfz14_1, hfz14_2, hfz14_3, hfz14_4, hfz14_5⟩ := fr6 BK222.out) | ((with_reducible refine gate_builtin (b := .append) (xs := #[.tmp 17, .tmp 19]) rfl ?_); at_builtin; refine Kd.R_append_rows Kd.string (w0 := w) w.heap.size rfl (.tmp 17) (.tmp 19) 25 9 (.string ⟨#[]⟩) 16 rfl Try.underlying25 info9 rfl (by decide) (by omega) v224 y223 ((rd_T82 l0 x4_1).f2) _ _ _ (fun _ => True) (fun _ => False) rfl rfl ?aO ?aR (fun _ _ h => h) (fun _ h => h.elim) ?aF ?aB ?aS ?aL ?_; (case aR => repeat (first | exact (Kd.C_below HR221_2.out HB.out) | (with_reducible refine Kd.C_alloc ?_ _) | (with_reducible refine Kd.C_drewN ?_ _) | (with_reducible refine Kd.C_drew ?_))); (case aB => exact B7x0_); (case aF => exact (fun _ _ => trivial)); (case aO => (with_reducible repeat (first | apply Kd.R_alloc | apply Kd.R_drewN | apply Kd.R_drew)); exact HO225.out); (case aS => exact B7x13_); (case aL => have := LMc6.out; omega); intro v227 w15 ho hb hg hat; rw [← Ny226.out] at ho; replace HO_3 := Aside0.mk (Kd.S_after (ok := (fun k_ => k_ ≠ gb222)) B7x8_ hg hat); replace BK222 := Aside0.mk (blk_grown (g := gb222) (o := .cells #[.int .i64 ((rd_T82 l0 x4_1).f0), .int .i64 ((rd_T82 l0 x4_1).f1), .slice A221_2 ((rd_T82 l0 x4_1).f2).length c221_2, .slice A221_3 ((rd_T82 l0 x4_1).f3).length c221_3, .int .i64 ((rd_T82 l0 x4_1).f4), .int .i64 ((rd_T82 l0 x4_1).f5)] 82 (0, 0)) B7x6_ hg (Kd.R_ne HO225.out BK222.out (by decide))); replace HB := Aside0.mk (hb); have HO228 := Aside0.mk (ho); clear HO225; clear ho hb hg hat; obtain ⟨Ao16, co16, eo16⟩ := Kd.R_slice HO228.out; subst eo16; obtain ⟨hcz17_0, hcz17_1, hcz17_2, hcz17_3, hcz17_4, hcz17_5⟩ := cl6 BK222.out; obtain ⟨hfz17_0, hfz17_1, hfz17_2, hfz17_3, hfz17_4, hfz17_5⟩ := fr6 BK222.out) | ((with_reducible refine gate_dst (N := 22) rfl ?_); refine Kd.R_lit (Kd.int .i64) _ 3 ?hg (N := 22) ?hd (xs := ([] : List Int)) (inner := []) (ok := fun _ => True) (okp := fun _ => True) ?hr ?hp (fun _ hk => hk) trivial (Below.refl _ _) (Nat.le_refl _) (by simp) ?_; (case hd => rfl); (case hg => rfl); (case hr => exact B7x7_); (case hp => exact (Reps.none _ _)); intro v230 w18 ho19 hb hg_ hnew_; clear hg_ hnew_; (first | rw [← Ny229.out] at ho19 | (simp only [Int.reduceToNat] at ho19; rw [← Ny229.out] at ho19)); replace HO_3 := Aside0.mk (Kd.S_elder' (by (with_reducible repeat (first | apply Kd.S_alloc | apply Kd.S_drewN | apply Kd.S_drew)); exact (Kd.S_mono (Kd.S_far (p := ⟨gb222, 2, none⟩) (Kd.S_mono HO_3.out (fun k_ hk => (⟨hk, hk.1⟩ : _ ∧ k_ ≠ gb222))) (fun _ hk => hk.2) (.slice Ao16 y226.length co16)) (fun _ h_ => h_.1))) (Kd.R_base ho19) hb); replace HO228 := Aside0.mk (Kd.R_below (by (with_reducible repeat (first | apply Kd.R_alloc | apply Kd.R_drewN | apply Kd.R_drew)); exact (Kd.R_mono (Kd.R_far (p := ⟨gb222, 2, none⟩) (Kd.R_types HO228.out BK222.out (by decide)) (fun _ hk => hk.2) (.slice Ao16 y226.length co16)) (fun _ h_ => h_.1))) hb); have HO231 := Aside0.mk (Kd.R_lower ho19 (below_size B7x0_)); replace BK222 := Aside0.mk (blk_below (g := gb222) (o := .cells #[.int .i64 ((rd_T82 l0 x4_1).f0), .int .i64 ((rd_T82 l0 x4_1).f1), .slice Ao16 y226.length co16, .slice A221_3 ((rd_T82 l0 x4_1).f3).length c221_3, .int .i64 ((rd_T82 l0 x4_1).f4), .int .i64 ((rd_T82 l0 x4_1).f5)] 82 (0, 0)) B7x4_ hb); replace HB := Aside0.mk (below_step B7x0_ hb); clear hb ho19; obtain ⟨hcz20_0, hcz20_1, hcz20_2, hcz20_3, hcz20_4, hcz20_5⟩ := cl6 BK222.out; obtain ⟨hfz20_0, hfz20_1, hfz20_2, hfz20_3, hfz20_4, hfz20_5⟩ := fr6 BK222.out) | ((with_reducible refine gate_builtin (b := .append) (xs := #[.tmp 22, .tmp 24]) rfl ?_); at_builtin; refine Kd.R_append_rows (Kd.int .i64) (w0 := w) w.heap.size rfl (.tmp 22) (.tmp 24) 51 3 (.int .i64 0) 8 rfl Try.underlying51 info3 rfl (by decide) (by omega) v230 y229 ((rd_T82 l0 x4_1).f3) _ _ _ (fun _ => True) (fun _ => False) rfl rfl ?aO ?aR (fun _ _ h => h) (fun _ h => h.elim) ?aF ?aB ?aS ?aL ?_; (case aR => repeat (first | exact (Kd.C_below HR221_3.out HB.out) | (with_reducible refine Kd.C_alloc ?_ _) | (with_reducible refine Kd.C_drewN ?_ _) | (with_reducible refine Kd.C_drew ?_))); (case aB => exact B7x0_); (case aF => exact (fun _ _ => trivial)); (case aO => exact B7x10_); (case aS => exact B7x13_); (case aL => have := LMc7.out; omega); intro v233 w21 ho hb hg hat; rw [← Ny232.out] at ho; replace HO_3 := Aside0.mk (Kd.S_after (ok := (fun k_ => some k_ ≠ (.slice Ao16 y226.length co16 : Value).ownBlock ∧ k_ ≠ gb222)) (by (with_reducible repeat (first | apply Kd.S_alloc | apply Kd.S_drewN | apply Kd.S_drew)); exact Kd.S_mono HO_3.out (fun _ hk => ⟨⟨hk.1.2, hk.1.1⟩, hk.2⟩)) hg hat); replace BK222 := Aside0.mk (blk_grown (g := gb222) (o := .cells #[.int .i64 ((rd_T82 l0 x4_1).f0), .int .i64 ((rd_T82 l0 x4_1).f1), .slice Ao16 y226.length co16, .slice A221_3 ((rd_T82 l0 x4_1).f3).length c221_3, .int .i64 ((rd_T82 l0 x4_1).f4), .int .i64 ((rd_T82 l0 x4_1).f5)] 82 (0, 0)) B7x6_ hg (Kd.R_ne HO231.out BK222.out (by decide))); replace HO228 := Aside0.mk (Kd.R_over' (by (with_reducible repeat (first | apply Kd.R_alloc | apply Kd.R_drewN | apply Kd.R_drew)); exact HO228.out) (Kd.R_typed B7x10_) (by decide) hg); replace HB := Aside0.mk (hb); have HO234 := Aside0.mk (ho); clear HO231; clear ho hb hg hat; obtain ⟨Ao22, co22, eo22⟩ := Kd.R_slice HO234.out; subst eo22; obtain ⟨hcz23_0, hcz23_1, hcz23_2, hcz23_3, hcz23_4, hcz23_5⟩ := cl6 BK222.out; obtain ⟨hfz23_0, hfz23_1, hfz23_2, hfz23_3, hfz23_4, hfz23_5⟩ := fr6 BK222.out) | ((with_reducible refine gate_store (t := 51) (p := 26) rfl ?_); refine store_event (t := 51) (p := 26) (v := ?vo_w24) (w1 := (w21.setCell ⟨gb222, 3, none⟩ (.slice Ao22 y232.length co22))) ?hg ?ho ?hn ?hr ?_; (case ho => rfl); (case hg => rfl); (case hn => rfl); (case hr => exact B7x7_); intro w24 hw; replace HO_3 : Aside0 (Kd.S k82 82 w24 w.heap.size (fun k_ => some k_ ≠ (.slice Ao16 y226.length co16 : Value).ownBlock ∧ some k_ ≠ (.slice Ao22 y232.length co22 : Value).ownBlock ∧ k_ ≠ gb222) u3 x3_1) := ⟨(by rw [hw]; exact (by (with_reducible repeat (first | apply Kd.S_alloc | apply Kd.S_drewN | apply Kd.S_drew)); exact Kd.S_mono (Kd.S_far (p := ⟨gb222, 3, none⟩) (Kd.S_mono HO_3.out (fun k_ hk => (⟨hk, hk.1.2⟩ : _ ∧ k_ ≠ gb222))) (fun _ hk => hk.2) (.slice Ao22 y232.length co22)) (fun _ hk => ⟨hk.1.1.1, ⟨hk.1.2, hk.1.1.2⟩⟩)))⟩; replace HO228 : Aside0 (Kd.R Kd.string 9 w24 w.heap.size (fun _ => True) (.slice Ao16 y226.length co16) y226) := ⟨(by rw [hw]; exact (by (with_reducible repeat (first | apply Kd.R_alloc | apply Kd.R_drewN | apply Kd.R_drew)); exact Kd.R_mono (Kd.R_far (p := ⟨gb222, 3, none⟩) (Kd.R_types HO228.out BK222.out (by decide)) (fun _ hk => hk.2) (.slice Ao22 y232.length co22)) (fun _ hk => trivial)))⟩; replace HO234 : Aside0 (Kd.R (Kd.int .i64) 3 w24 w.heap.size (fun _ => True) (.slice Ao22 y232.length co22) y232) := ⟨(by rw [hw]; exact (by (with_reducible repeat (first | apply Kd.R_alloc | apply Kd.R_drewN | apply Kd.R_drew)); exact Kd.R_mono (Kd.R_far (p := ⟨gb222, 3, none⟩) (Kd.R_types HO234.out BK222.out (by decide)) (fun _ hk => hk.2) (.slice Ao22 y232.length co22)) (fun _ hk => trivial)))⟩; replace BK222 : Aside0 (w24.heap[gb222]? = some (.cells #[.int .i64 ((rd_T82 l0 x4_1).f0), .int .i64 ((rd_T82 l0 x4_1).f1), .slice Ao16 y226.length co16, .slice Ao22 y232.length co22, .int .i64 ((rd_T82 l0 x4_1).f4), .int .i64 ((rd_T82 l0 x4_1).f5)] 82 (0, 0))) := ⟨(by rw [hw]; exact B7x4_)⟩; replace HB : Aside0 (Below w.heap.size w w24) := ⟨(by rw [hw]; exact B7x0_)⟩; clear hw; obtain ⟨hcz25_0, hcz25_1, hcz25_2, hcz25_3, hcz25_4, hcz25_5⟩ := cl6 BK222.out; obtain ⟨hfz25_0, hfz25_1, hfz25_2, hfz25_3, hfz25_4, hfz25_5⟩ := fr6 BK222.out) | ((with_reducible refine gate_builtin (b := .append) (xs := #[.tmp 27, .tmp 29]) rfl ?_); at_builtin; refine Kd.S_append k82 (w0 := w) w.heap.size rfl (.tmp 27) (.tmp 29) 68 82 (.agg #[(.int .i64 0), (.int .i64 0), (.slice none 0 0), (.slice none 0 0), (.int .i64 0), (.int .i64 0)]) 80 rfl Try.underlying68 info82 rfl (by decide) (by omega) u3 x3_1 (⟨(rd_T82 l0 x4_1).f0, (rd_T82 l0 x4_1).f1, y226, y232, (rd_T82 l0 x4_1).f4, (rd_T82 l0 x4_1).f5⟩ : S82) [.int .i64 ((rd_T82 l0 x4_1).f0), .int .i64 ((rd_T82 l0 x4_1).f1), .slice Ao16 y226.length co16, .slice Ao22 y232.length co22, .int .i64 ((rd_T82 l0 x4_1).f4), .int .i64 ((rd_T82 l0 x4_1).f5)] (fun k_ => k_ ≠ gb222) (fun k_ => some k_ = (.slice Ao16 y226.length co16 : Value).ownBlock ∨ some k_ = (.slice Ao22 y232.length co22 : Value).ownBlock) rfl rfl ?aP (fun k_ hk_ => hk_.elim (fun h_ => ((Kd.R_mono (ok' := fun k_ => ((fun k_ => k_ ≠ gb222)) k_ ∧ some k_ ≠ (u3 : Value).ownBlock) (Kd.R_types (Kd.R_apart' (HO228.out) (Kd.S_typed HO_3.out) (by decide)) BK222.out (by decide)) (fun k_ hk => ⟨hk.2, hk.1.2⟩))).1 k_ h_.symm) (fun h_ => ((Kd.R_mono (ok' := fun k_ => ((fun k_ => k_ ≠ gb222)) k_ ∧ some k_ ≠ (u3 : Value).ownBlock) (Kd.R_types (Kd.R_apart' (HO234.out) (Kd.S_typed HO_3.out) (by decide)) BK222.out (by decide)) (fun k_ hk => ⟨hk.2, hk.1.2⟩))).1 k_ h_.symm)) ?aF ?aO ?aB ?aS ?aL ?_; (case aP => exact k82_mkM _ _ _ (⟨(rd_T82 l0 x4_1).f0, (rd_T82 l0 x4_1).f1, y226, y232, (rd_T82 l0 x4_1).f4, (rd_T82 l0 x4_1).f5⟩ : S82) (Kd.R_mono (Kd.R_tight rfl (Kd.R_mono (ok' := fun k_ => ((fun k_ => k_ ≠ gb222)) k_ ∧ some k_ ≠ (u3 : Value).ownBlock) (Kd.R_types (Kd.R_apart' (HO228.out) (Kd.S_typed HO_3.out) (by decide)) BK222.out (by decide)) (fun k_ hk => ⟨hk.2, hk.1.2⟩))) (fun _ h_ => Or.inl h_)) (Kd.R_mono (Kd.R_tight rfl (Kd.R_mono (ok' := fun k_ => ((fun k_ => k_ ≠ gb222)) k_ ∧ some k_ ≠ (u3 : Value).ownBlock) (Kd.R_types (Kd.R_apart' (HO234.out) (Kd.S_typed HO_3.out) (by decide)) BK222.out (by decide)) (fun k_ hk => ⟨hk.2, hk.1.2⟩))) (fun _ h_ => Or.inr (h_)))); (case aB => exact B7x0_); (case aF => exact (fun k_ hk => Kd.freshB (g := gb222) (o := .cells #[.int .i64 ((rd_T82 l0 x4_1).f0), .int .i64 ((rd_T82 l0 x4_1).f1), .slice Ao16 y226.length co16, .slice Ao22 y232.length co22, .int .i64 ((rd_T82 l0 x4_1).f4), .int .i64 ((rd_T82 l0 x4_1).f5)] 82 (0, 0)) B7x6_ k_ hk)); (case aO => (with_reducible repeat (first | apply Kd.S_alloc | apply Kd.S_drewN | apply Kd.S_drew)); exact Kd.S_mono HO_3.out (fun k_ hk => ⟨hk.2.2, fun e_ => e_.elim (fun h_ => hk.1 h_) (fun h_ => hk.2.1 h_)⟩)); (case aS => exact B7x13_); (case aL => have := LMc8.out; omega); intro v236 w26 ho hb hg hat; rw [← Ny235.out] at ho; replace BK222 := Aside0.mk (blk_grown (g := gb222) (o := .cells #[.int .i64 ((rd_T82 l0 x4_1).f0), .int .i64 ((rd_T82 l0 x4_1).f1), .slice Ao16 y226.length co16, .slice Ao22 y232.length co22, .int .i64 ((rd_T82 l0 x4_1).f4), .int .i64 ((rd_T82 l0 x4_1).f5)] 82 (0, 0)) B7x6_ hg (Kd.S_away HO_3.out (fun _ hk => hk.2.2))); replace HB := Aside0.mk (hb); have HO237 := Aside0.mk (ho); clear HO_3; clear HO228; clear HO234; clear ho hb hg hat))
    go_roundg k1
    case measure => have := HK1.out; omega
    case rel => exact ⟨(y235), (wrap64 (x4_1 + 1)), (be_), H', ⟨(by have := HK1.out; omega)⟩, ⟨(by (with_reducible repeat (first | apply Kd.S_alloc | apply Kd.S_drewN | apply Kd.S_drew)); exact Kd.S_mono HO237.out (fun _ hk => trivial))⟩, ⟨B7x0_⟩⟩
   ·rw [if_neg c4] at H
    have c4b0 : decide (x4_1 < (l0.length : Int)) = false := decide_eq_false c4
    clear c4
    obtain rfl := Option.some.inj H
    go_wp2
    go_ret
    exact ⟨_, by first | rfl | (simp [errW_none, errW_some] <;> rfl) | (simp [*, errW_none, errW_some] <;> rfl), by (with_reducible repeat (first | apply Kd.S_alloc | apply Kd.S_drewN | apply Kd.S_drew)); exact HO_3.out, by repeat (first | (with_reducible first | exact HB.out | apply below_alloc | apply pw_below_drewN | apply below_drew1) | exact HB.out)⟩

/-! ### spec_l11Whole: function 113 -/
mutual
def spec_l11Whole.l0 : Nat → ByteArray → Int → Int → Int → List ByteArray → List Int → Int → Int → Option (ByteArray × Bool)
 | 0, _, _, _, _, _, _, _, _ => none
 | k + 1, x4, x5, x239000, x239001, x239002, x239003, x239004, x239005 => if x5 ≤ (x239003.length : Int) then (spec_l11Whole.j1 k x4 x5 (decide ((x4.size : Int) < x239004)) x239000 x239001 x239002 x239003 x239004 x239005) else (spec_l11Whole.j1 k x4 x5 false x239000 x239001 x239002 x239003 x239004 x239005)
def spec_l11Whole.j1 : Nat → ByteArray → Int → Bool → Int → Int → List ByteArray → List Int → Int → Int → Option (ByteArray × Bool)
 | 0, _, _, _, _, _, _, _, _, _ => none
 | k + 1, x4, x5, x18, x239000, x239001, x239002, x239003, x239004, x239005 => if x18 = true then (spec_l11Whole.l1 k x4 x5 0 x239000 x239001 x239002 x239003 x239004 x239005) else (if x239004 > 0 then (some (x4, ((x4.size : Int) == x239004))) else (some (x4, false)))
def spec_l11Whole.l1 : Nat → ByteArray → Int → Int → Int → Int → List ByteArray → List Int → Int → Int → Option (ByteArray × Bool)
 | 0, _, _, _, _, _, _, _, _, _ => none
 | k + 1, x4, x5, x6, x239000, x239001, x239002, x239003, x239004, x239005 => if x6 < (x239003.length : Int) then (if 0 ≤ x6 then (if (rd x239003 x6) = (x4.size : Int) then (if x6 < (x239002.length : Int) then (if x4.size + (rdOf ByteArray.empty x239002 x6).size ≤ 9223372036854775807 then (spec_l11Whole.l1 k (x4 ++ (rdOf ByteArray.empty x239002 x6)) x5 (wrap64 ((x239003.length : Int) + 1)) x239000 x239001 x239002 x239003 x239004 x239005) else (none)) else (spec_l11Whole.l1 k x4 x5 (wrap64 (x6 + 1)) x239000 x239001 x239002 x239003 x239004 x239005)) else (spec_l11Whole.l1 k x4 x5 (wrap64 (x6 + 1)) x239000 x239001 x239002 x239003 x239004 x239005)) else (none)) else (spec_l11Whole.l0 k x4 (wrap64 (x5 + 1)) x239000 x239001 x239002 x239003 x239004 x239005)
end
def spec_l11Whole.f (k : Nat) (a0_0 : Int) (a0_1 : Int) (l0_2 : List ByteArray) (l0_3 : List Int) (a0_4 : Int) (a0_5 : Int) : Option (ByteArray × Bool) := spec_l11Whole.l0 k (⟨#[]⟩ : ByteArray) 0 a0_0 a0_1 l0_2 l0_3 a0_4 a0_5
theorem spec_l11Whole.mono_l : ∀ k, (∀ y0 y1 y2 y3 y4 y5 y6 y7, LeO (spec_l11Whole.l0 k y0 y1 y2 y3 y4 y5 y6 y7) (spec_l11Whole.l0 (k + 1) y0 y1 y2 y3 y4 y5 y6 y7)) ∧ (∀ y0 y1 y2 y3 y4 y5 y6 y7 y8, LeO (spec_l11Whole.j1 k y0 y1 y2 y3 y4 y5 y6 y7 y8) (spec_l11Whole.j1 (k + 1) y0 y1 y2 y3 y4 y5 y6 y7 y8)) ∧ (∀ y0 y1 y2 y3 y4 y5 y6 y7 y8, LeO (spec_l11Whole.l1 k y0 y1 y2 y3 y4 y5 y6 y7 y8) (spec_l11Whole.l1 (k + 1) y0 y1 y2 y3 y4 y5 y6 y7 y8))
 | 0 => ⟨fun _ _ _ _ _ _ _ _ r h => by simp [spec_l11Whole.l0] at h, fun _ _ _ _ _ _ _ _ _ r h => by simp [spec_l11Whole.j1] at h, fun _ _ _ _ _ _ _ _ _ r h => by simp [spec_l11Whole.l1] at h⟩
 | k + 1 => by
  obtain ⟨ih0, ih1, ih2⟩ := spec_l11Whole.mono_l k
  refine ⟨?_, ?_, ?_⟩
  ·intro y0 y1 y2 y3 y4 y5 y6 y7
   unfold spec_l11Whole.l0
   repeat' first
   | (with_reducible exact ih0 _ _ _ _ _ _ _ _)
   | (with_reducible exact ih1 _ _ _ _ _ _ _ _ _)
   | (with_reducible exact ih2 _ _ _ _ _ _ _ _ _)
   | (with_reducible first | exact LeO.refl _ | exact LeO.none _ | refine LeO.ite ?_ ?_ | refine LeO.bind ?_ (fun _ => ?_))
   | exact ih0 _ _ _ _ _ _ _ _
   | exact ih1 _ _ _ _ _ _ _ _ _
   | exact ih2 _ _ _ _ _ _ _ _ _
  ·intro y0 y1 y2 y3 y4 y5 y6 y7 y8
   unfold spec_l11Whole.j1
   repeat' first
   | (with_reducible exact ih0 _ _ _ _ _ _ _ _)
   | (with_reducible exact ih1 _ _ _ _ _ _ _ _ _)
   | (with_reducible exact ih2 _ _ _ _ _ _ _ _ _)
   | (with_reducible first | exact LeO.refl _ | exact LeO.none _ | refine LeO.ite ?_ ?_ | refine LeO.bind ?_ (fun _ => ?_))
   | exact ih0 _ _ _ _ _ _ _ _
   | exact ih1 _ _ _ _ _ _ _ _ _
   | exact ih2 _ _ _ _ _ _ _ _ _
  ·intro y0 y1 y2 y3 y4 y5 y6 y7 y8
   unfold spec_l11Whole.l1
   repeat' first
   | (with_reducible exact ih0 _ _ _ _ _ _ _ _)
   | (with_reducible exact ih1 _ _ _ _ _ _ _ _ _)
   | (with_reducible exact ih2 _ _ _ _ _ _ _ _ _)
   | (with_reducible first | exact LeO.refl _ | exact LeO.none _ | refine LeO.ite ?_ ?_ | refine LeO.bind ?_ (fun _ => ?_))
   | exact ih0 _ _ _ _ _ _ _ _
   | exact ih1 _ _ _ _ _ _ _ _ _
   | exact ih2 _ _ _ _ _ _ _ _ _
theorem spec_l11Whole.mono : ∀ a0 a1 a2 a3 a4 a5 k, LeO (spec_l11Whole.f k a0 a1 a2 a3 a4 a5) (spec_l11Whole.f (k + 1) a0 a1 a2 a3 a4 a5) := by
 intro a0 a1 a2 a3 a4 a5 k
 obtain ⟨ih0, ih1, ih2⟩ := spec_l11Whole.mono_l k
 unfold spec_l11Whole.f
 repeat' first
   | (with_reducible exact ih0 _ _ _ _ _ _ _ _)
   | (with_reducible exact ih1 _ _ _ _ _ _ _ _ _)
   | (with_reducible exact ih2 _ _ _ _ _ _ _ _ _)
   | (with_reducible first | exact LeO.refl _ | exact LeO.none _ | refine LeO.ite ?_ ?_ | refine LeO.bind ?_ (fun _ => ?_))
   | exact ih0 _ _ _ _ _ _ _ _
   | exact ih1 _ _ _ _ _ _ _ _ _
   | exact ih2 _ _ _ _ _ _ _ _ _
set_option maxHeartbeats 8000000 in
set_option maxRecDepth 100000 in
theorem spec_l11Whole.calls (k : Nat) (a0_0 : Int) (a0_1 : Int) (A0_2 : Option Addr) (c0_2 : Nat) (l0_2 : List ByteArray) (A0_3 : Option Addr) (c0_3 : Nat) (l0_3 : List Int) (a0_4 : Int) (a0_5 : Int) (r1 : ByteArray) (r2 : Bool) (w : World) (hr0_2 : Kd.C Kd.string w A0_2 l0_2.length l0_2) (hc0_2 : l0_2.length ≤ c0_2) (hr0_3 : Kd.C (Kd.int .i64) w A0_3 l0_3.length l0_3) (hc0_3 : l0_3.length ≤ c0_3) (h : spec_l11Whole.f k a0_0 a0_1 l0_2 l0_3 a0_4 a0_5 = some (r1, r2)) :
  Calls Try.prog 113 #[.agg #[.int .i64 a0_0, .int .i64 a0_1, .slice A0_2 l0_2.length c0_2, .slice A0_3 l0_3.length c0_3, .int .i64 a0_4, .int .i64 a0_5]] w fun e w' => e = .returned (.tuple #[.string r1, .bool r2]) ∧ Below w.heap.size w w' := by
 have hu82 := Try.underlying82
 have HR0_2 := Aside0.mk hr0_2
 have HC0_2 := Aside0.mk hc0_2
 clear hr0_2 hc0_2
 have HR0_3 := Aside0.mk hr0_3
 have HC0_3 := Aside0.mk hc0_3
 clear hr0_3 hc0_3
 have HB := Aside0.mk (Below.refl w.heap.size w)
 have H : (spec_l11Whole.l0 k (⟨#[]⟩ : ByteArray) 0 a0_0 a0_1 l0_2 l0_3 a0_4 a0_5) = some (r1, r2) := h
 clear h
 have H' := Aside0.mk H
 clear H
 go_enter Try.func113, Try.ntmps113
 go_wp2_with (first | ((with_reducible refine gate_dst (N := 1) rfl ?_); (try (refine gate_guard (by rfl) ?_; dsimp only)); refine box_event ?hg (N := 1) ?hd (cs := #[.int .i64 a0_0, .int .i64 a0_1, .slice A0_2 l0_2.length c0_2, .slice A0_3 l0_3.length c0_3, .int .i64 a0_4, .int .i64 a0_5]) (t := 82) ?hr ?_; (case hd => rfl); (case hg => rfl); (case hr => exact B7x7_); intro gb238 hg w2 hbox hb; have BK238 := Aside0.mk (hbox); have GW238 := Aside0.mk ((bs hg (below_size HB.out))); have GE238 := Aside0.mk ((bs hg (below_size HB.out))); replace HB := Aside0.mk (below_step B7x3_ hb); clear hb hbox hg))
 repeat (go_quiet (first | ((with_reducible refine gate_dst (N := 1) rfl ?_); (try (refine gate_guard (by rfl) ?_; dsimp only)); refine box_event ?hg (N := 1) ?hd (cs := #[.int .i64 a0_0, .int .i64 a0_1, .slice A0_2 l0_2.length c0_2, .slice A0_3 l0_3.length c0_3, .int .i64 a0_4, .int .i64 a0_5]) (t := 82) ?hr ?_; (case hd => rfl); (case hg => rfl); (case hr => exact B7x7_); intro gb238 hg w2 hbox hb; have BK238 := Aside0.mk (hbox); have GW238 := Aside0.mk ((bs hg (below_size HB.out))); have GE238 := Aside0.mk ((bs hg (below_size HB.out))); replace HB := Aside0.mk (below_step B7x3_ hb); clear hb hbox hg)); try go_wp2_with (first | ((with_reducible refine gate_dst (N := 1) rfl ?_); (try (refine gate_guard (by rfl) ?_; dsimp only)); refine box_event ?hg (N := 1) ?hd (cs := #[.int .i64 a0_0, .int .i64 a0_1, .slice A0_2 l0_2.length c0_2, .slice A0_3 l0_3.length c0_3, .int .i64 a0_4, .int .i64 a0_5]) (t := 82) ?hr ?_; (case hd => rfl); (case hg => rfl); (case hr => exact B7x7_); intro gb238 hg w2 hbox hb; have BK238 := Aside0.mk (hbox); have GW238 := Aside0.mk ((bs hg (below_size HB.out))); have GE238 := Aside0.mk ((bs hg (below_size HB.out))); replace HB := Aside0.mk (below_step B7x3_ hb); clear hb hbox hg)))
 go_loopg [4, 5] k (fun kq v4 v5 w' => ∃ (x4_1 : ByteArray) (x5_1 : Int), v4 = .string x4_1 ∧ v5 = .int .i64 x5_1 ∧ Aside0 (spec_l11Whole.l0 kq x4_1 x5_1 a0_0 a0_1 l0_2 l0_3 a0_4 a0_5 = some (r1, r2)) ∧ Aside0 (kq ≤ k) ∧ Aside0 (w'.heap[gb238]? = some (.cells #[.int .i64 a0_0, .int .i64 a0_1, (.slice A0_2 l0_2.length c0_2), (.slice A0_3 l0_3.length c0_3), .int .i64 a0_4, .int .i64 a0_5] 82 (0, 0))) ∧ Aside0 (Below w.heap.size w w'))
 case atStart => exact ⟨((⟨#[]⟩ : ByteArray)), (0), (be_), (be_), H', ⟨Nat.le_refl _⟩, ⟨B7x2_⟩, ⟨B7x1_⟩⟩
 case round =>
  clear H'
  obtain ⟨x4_1, x5_1, rfl, rfl, HA, HK1, BK238, HB⟩ := hrel
  cases gk with
  | zero => exact absurd HA.out (by simp [spec_l11Whole.l0])
  | succ k1 =>
   have H := HA.out
   clear HA
   simp only [spec_l11Whole.l0] at H
   have HC3 := Aside0.mk H
   clear H
   go_upto_region 3 with (fail)
   repeat (go_quiet (fail); go_upto_region 3 with (fail))
   go_cut [18] (fun v18 wc => ∃ (kq : Nat) (x18_2 : Bool), v18 = .bool x18_2 ∧ Aside0 (spec_l11Whole.j1 kq x4_1 x5_1 x18_2 a0_0 a0_1 l0_2 l0_3 a0_4 a0_5 = some (r1, r2)) ∧ Aside0 (kq ≤ k1) ∧ Aside0 (wc.heap[gb238]? = some (.cells #[.int .i64 a0_0, .int .i64 a0_1, (.slice A0_2 l0_2.length c0_2), (.slice A0_3 l0_3.length c0_3), .int .i64 a0_4, .int .i64 a0_5] 82 (0, 0))) ∧ Aside0 (Below w.heap.size w wc))
   case first =>
    have H := HC3.out
    clear HC3
    by_cases c4 : x5_1 ≤ (l0_3.length : Int)
    ·rw [if_pos c4] at H
     have c4b0 : decide (x5_1 ≤ (l0_3.length : Int)) = true := decide_eq_true c4
     clear c4
     (first | rw [c4b0] | (simp only [i64_w, i32_w]; rw [c4b0]) | skip)
     have H' := Aside0.mk H
     clear H
     obtain ⟨hcz5_0, hcz5_1, hcz5_2, hcz5_3, hcz5_4, hcz5_5⟩ := cl6 BK238.out
     obtain ⟨hfz5_0, hfz5_1, hfz5_2, hfz5_3, hfz5_4, hfz5_5⟩ := fr6 BK238.out
     go_wp2
     repeat (go_quiet (fail); try go_wp2)
     go_meet
     case rel => exact ⟨_, (decide ((x4_1.size : Int) < a0_4)), (be_), H', ⟨B7x12_⟩, ⟨B7x2_⟩, ⟨B7x1_⟩⟩
    ·rw [if_neg c4] at H
     have c4b0 : decide (x5_1 ≤ (l0_3.length : Int)) = false := decide_eq_false c4
     clear c4
     (first | rw [c4b0] | (simp only [i64_w, i32_w]; rw [c4b0]) | skip)
     have H' := Aside0.mk H
     clear H
     obtain ⟨hcz6_0, hcz6_1, hcz6_2, hcz6_3, hcz6_4, hcz6_5⟩ := cl6 BK238.out
     obtain ⟨hfz6_0, hfz6_1, hfz6_2, hfz6_3, hfz6_4, hfz6_5⟩ := fr6 BK238.out
     go_wp2
     repeat (go_quiet (fail); try go_wp2)
     go_meet
     case rel => exact ⟨_, (false), (be_), H', ⟨B7x12_⟩, ⟨B7x2_⟩, ⟨B7x1_⟩⟩
   case rest =>
    clear HC3
    obtain ⟨kq, x18_2, rfl, HA, HJ2, BK238, HB⟩ := hcut
    cases kq with
    | zero => exact absurd HA.out (by simp [spec_l11Whole.j1])
    | succ kj2 =>
     have H := HA.out
     clear HA
     simp only [spec_l11Whole.j1] at H
     by_cases c7 : x18_2 = true
     ·subst c7
      rw [if_pos rfl] at H
      have H' := Aside0.mk H
      clear H
      go_wp2
      repeat (go_quiet (fail); try go_wp2)
      go_loopg [4, 6] kj2 (fun kq v4 v6 w' => ∃ (x4_3 : ByteArray) (x6_3 : Int), v4 = .string x4_3 ∧ v6 = .int .i64 x6_3 ∧ Aside0 (spec_l11Whole.l1 kq x4_3 x5_1 x6_3 a0_0 a0_1 l0_2 l0_3 a0_4 a0_5 = some (r1, r2)) ∧ Aside0 (kq ≤ kj2) ∧ Aside0 (w'.heap[gb238]? = some (.cells #[.int .i64 a0_0, .int .i64 a0_1, (.slice A0_2 l0_2.length c0_2), (.slice A0_3 l0_3.length c0_3), .int .i64 a0_4, .int .i64 a0_5] 82 (0, 0))) ∧ Aside0 (Below w.heap.size w w'))
      case atStart => exact ⟨(x4_1), (0), (be_), (be_), H', ⟨Nat.le_refl _⟩, ⟨B7x2_⟩, ⟨B7x1_⟩⟩
      case round =>
       clear H'
       try clear c7
       obtain ⟨x4_3, x6_3, rfl, rfl, HA, HK3, BK238, HB⟩ := hrel
       cases gk with
       | zero => exact absurd HA.out (by simp [spec_l11Whole.l1])
       | succ k3 =>
        have H := HA.out
        clear HA
        simp only [spec_l11Whole.l1] at H
        by_cases c8 : x6_3 < (l0_3.length : Int)
        ·rw [if_pos c8] at H
         have c8b0 : decide (x6_3 < (l0_3.length : Int)) = true := decide_eq_true c8
         clear c8
         by_cases c9 : 0 ≤ x6_3
         rotate_left
         ·rw [if_neg c9] at H
          exact absurd H (by simp)
         rw [if_pos c9] at H
         have c9b0 : decide (0 ≤ x6_3) = true := decide_eq_true c9
         clear c9
         by_cases c10 : (rd l0_3 x6_3) = (x4_3.size : Int)
         ·rw [if_pos c10] at H
          have c10b0 := beq_iff_eq.mpr c10
          have c10b1 := bne_eq_false_iff_eq.mpr c10
          clear c10
          by_cases c11 : x6_3 < (l0_2.length : Int)
          ·rw [if_pos c11] at H
           have c11b0 : decide (x6_3 < (l0_2.length : Int)) = true := decide_eq_true c11
           clear c11
           by_cases c12 : x4_3.size + (rdOf ByteArray.empty l0_2 x6_3).size ≤ 9223372036854775807
           rotate_left
           ·rw [if_neg c12] at H
            exact absurd H (by simp)
           rw [if_pos c12] at H
           have c12b0 := eq_true c12
           have c12b1 : decide (x4_3.size + (rdOf ByteArray.empty l0_2 x6_3).size ≤ 9223372036854775807) = true := decide_eq_true c12
           try have c12b2 : (9223372036854775807 < x4_3.size + (rdOf ByteArray.empty l0_2 x6_3).size) = False := eq_false (Nat.not_lt.2 c12)
           try (have c12b9 := c12b2; simp only [ByteArray.size_append] at c12b9)
           have H' := Aside0.mk H
           clear H
           obtain ⟨hcz13_0, hcz13_1, hcz13_2, hcz13_3, hcz13_4, hcz13_5⟩ := cl6 BK238.out
           obtain ⟨hfz13_0, hfz13_1, hfz13_2, hfz13_3, hfz13_4, hfz13_5⟩ := fr6 BK238.out
           have p239 : 0 ≤ (x6_3 : Int) := of_decide_eq_true B7x5_
           have q239 : x6_3 < (l0_3.length : Int) := of_decide_eq_true B7x5_
           obtain ⟨ad239, e239, hx239_0⟩ := Kd.at_int HR0_3.out x6_3 p239 q239
           cases e239
           replace hx239_0 := (HB.out.cell (World.block_lt_of_cell? w _ hx239_0)).trans hx239_0
           replace p239 := eq_true p239
           replace q239 := eq_true q239
           have p240 : 0 ≤ (x6_3 : Int) := of_decide_eq_true B7x5_
           have q240 : x6_3 < (l0_2.length : Int) := of_decide_eq_true B7x5_
           obtain ⟨ad240, e240, hx240_0⟩ := Kd.at_string HR0_2.out x6_3 p240 q240
           cases e240
           replace hx240_0 := (HB.out.cell (World.block_lt_of_cell? w _ hx240_0)).trans hx240_0
           replace p240 := eq_true p240
           replace q240 := eq_true q240
           go_wp2
           repeat (go_quiet (fail); try go_wp2)
           go_roundg k3
           case measure => have := HK1.out; have := HJ2.out; have := HK3.out; omega
           case rel => exact ⟨(x4_3 ++ (rdOf ByteArray.empty l0_2 x6_3)), (wrap64 ((l0_3.length : Int) + 1)), (be_), (be_), H', ⟨B7x9_⟩, ⟨B7x2_⟩, ⟨B7x1_⟩⟩
          ·rw [if_neg c11] at H
           have c11b0 : decide (x6_3 < (l0_2.length : Int)) = false := decide_eq_false c11
           clear c11
           have H' := Aside0.mk H
           clear H
           obtain ⟨hcz14_0, hcz14_1, hcz14_2, hcz14_3, hcz14_4, hcz14_5⟩ := cl6 BK238.out
           obtain ⟨hfz14_0, hfz14_1, hfz14_2, hfz14_3, hfz14_4, hfz14_5⟩ := fr6 BK238.out
           have p239 : 0 ≤ (x6_3 : Int) := of_decide_eq_true B7x5_
           have q239 : x6_3 < (l0_3.length : Int) := of_decide_eq_true B7x5_
           obtain ⟨ad239, e239, hx239_0⟩ := Kd.at_int HR0_3.out x6_3 p239 q239
           cases e239
           replace hx239_0 := (HB.out.cell (World.block_lt_of_cell? w _ hx239_0)).trans hx239_0
           replace p239 := eq_true p239
           replace q239 := eq_true q239
           go_wp2
           repeat (go_quiet (fail); try go_wp2)
           go_roundg k3
           case measure => have := HK1.out; have := HJ2.out; have := HK3.out; omega
           case rel => exact ⟨(x4_3), (wrap64 (x6_3 + 1)), (be_), (be_), H', ⟨B7x9_⟩, ⟨B7x2_⟩, ⟨B7x1_⟩⟩
         ·rw [if_neg c10] at H
          have c10b0 := beq_eq_false_iff_ne.mpr c10
          have c10b1 := bne_iff_ne.mpr c10
          have H' := Aside0.mk H
          clear H
          obtain ⟨hcz15_0, hcz15_1, hcz15_2, hcz15_3, hcz15_4, hcz15_5⟩ := cl6 BK238.out
          obtain ⟨hfz15_0, hfz15_1, hfz15_2, hfz15_3, hfz15_4, hfz15_5⟩ := fr6 BK238.out
          have p239 : 0 ≤ (x6_3 : Int) := of_decide_eq_true B7x5_
          have q239 : x6_3 < (l0_3.length : Int) := of_decide_eq_true B7x5_
          obtain ⟨ad239, e239, hx239_0⟩ := Kd.at_int HR0_3.out x6_3 p239 q239
          cases e239
          replace hx239_0 := (HB.out.cell (World.block_lt_of_cell? w _ hx239_0)).trans hx239_0
          replace p239 := eq_true p239
          replace q239 := eq_true q239
          go_wp2
          repeat (go_quiet (fail); try go_wp2)
          go_roundg k3
          case measure => have := HK1.out; have := HJ2.out; have := HK3.out; omega
          case rel => exact ⟨(x4_3), (wrap64 (x6_3 + 1)), (be_), (be_), H', ⟨B7x9_⟩, ⟨B7x2_⟩, ⟨B7x1_⟩⟩
        ·rw [if_neg c8] at H
         have c8b0 : decide (x6_3 < (l0_3.length : Int)) = false := decide_eq_false c8
         clear c8
         have H' := Aside0.mk H
         clear H
         obtain ⟨hcz16_0, hcz16_1, hcz16_2, hcz16_3, hcz16_4, hcz16_5⟩ := cl6 BK238.out
         obtain ⟨hfz16_0, hfz16_1, hfz16_2, hfz16_3, hfz16_4, hfz16_5⟩ := fr6 BK238.out
         go_wp2
         repeat (go_quiet (fail); try go_wp2)
         go_roundg k3
         case measure => have := HK1.out; have := HJ2.out; have := HK3.out; omega
         case rel => exact ⟨(x4_3), (wrap64 (x5_1 + 1)), (be_), (be_), H', ⟨B7x9_⟩, ⟨B7x2_⟩, ⟨B7x1_⟩⟩
     ·replace c7 := Bool.eq_false_iff.mpr c7
      subst c7
      rw [if_neg (show ¬ (false = true) by decide)] at H
      by_cases c17 : a0_4 > 0
      ·rw [if_pos c17] at H
       have c17b0 : decide (0 < a0_4) = true := decide_eq_true c17
       clear c17
       simp only [Option.some.injEq, Prod.mk.injEq] at H
       obtain ⟨rfl, rfl⟩ := H
       obtain ⟨hcz18_0, hcz18_1, hcz18_2, hcz18_3, hcz18_4, hcz18_5⟩ := cl6 BK238.out
       obtain ⟨hfz18_0, hfz18_1, hfz18_2, hfz18_3, hfz18_4, hfz18_5⟩ := fr6 BK238.out
       go_wp2
       repeat (go_quiet (fail); try go_wp2)
       go_ret2
       exact ⟨B7x11_, B7x1_⟩
      ·rw [if_neg c17] at H
       have c17b0 : decide (0 < a0_4) = false := decide_eq_false c17
       clear c17
       simp only [Option.some.injEq, Prod.mk.injEq] at H
       obtain ⟨rfl, rfl⟩ := H
       obtain ⟨hcz19_0, hcz19_1, hcz19_2, hcz19_3, hcz19_4, hcz19_5⟩ := cl6 BK238.out
       obtain ⟨hfz19_0, hfz19_1, hfz19_2, hfz19_3, hfz19_4, hfz19_5⟩ := fr6 BK238.out
       go_wp2
       repeat (go_quiet (fail); try go_wp2)
       go_ret2
       exact ⟨B7x11_, B7x1_⟩

end Go.Proofs.Ytmknnoeggkgkgaa.QFnExactJoinBits
