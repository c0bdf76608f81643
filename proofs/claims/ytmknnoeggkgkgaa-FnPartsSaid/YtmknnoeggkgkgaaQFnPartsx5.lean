/- Functions that a law reaches, as functions of Lean, and the walks that show that the calls come to their answers: written by a program of this project out of the translation. No condition. -/
import Derived.Test.YtmknnoeggkgkgaaQFnPartsx0
import Derived.Test.YtmknnoeggkgkgaaQFnPartsx4
import Derived.Test.YtmknnoeggkgkgaaShort4
import Derived.Test.YtmknnoeggkgkgaaShort3
import Derived.Test.YtmknnoeggkgkgaaShort2
import Derived.Test.YtmknnoeggkgkgaaShort
import Derived.Test.YtmknnoeggkgkgaaShort5
namespace Go.Proofs.Ytmknnoeggkgkgaa.QFnParts
open Go.RowKit Go.Proofs.YtmknnoeggkgkgaaW.PrintWords Go.Proofs.YtmknnoeggkgkgaaW.PrintLast Go.Proofs.YtmknnoeggkgkgaaW.PrintMore Go.Proofs.Ytmknnoeggkgkgaa.Short
attribute [local go_sem] max2_int min2_int max_two min_two max_three min_three max_four min_four   -- for this text's walks alone
set_option linter.unusedVariables false
set_option linter.unusedSimpArgs false

theorem B5x7_ {p : Prop} (h : p := by rw [hw]; exact (by (with_reducible repeat (first | apply Kd.R_alloc | apply Kd.R_drewN | apply Kd.R_drew)); exact Kd.R_mono (Kd.R_far (p := ⟨gb238, 5, none⟩) (Kd.R_far (p := ⟨gb238, 4, none⟩) (Kd.R_far (p := ⟨gb238, 3, none⟩) (Kd.R_far (p := ⟨gb238, 2, none⟩) (Kd.R_far (p := ⟨gb238, 1, none⟩) (Kd.R_far (p := ⟨gb238, 0, none⟩) (Kd.R_mono HO_6.out (fun k_ hk => (⟨hk, hk.2⟩ : _ ∧ k_ ≠ gb238))) (fun _ hk => hk.2) (.int .i64 a0_0)) (fun _ hk => hk.2) (.int .i64 a0_1)) (fun _ hk => hk.2) (.int .i64 a0_2)) (fun _ hk => hk.2) (.int .i64 a0_3)) (fun _ hk => hk.2) (.bool a0_4)) (fun _ hk => hk.2) (.string a0_5)) (fun _ hk => ⟨hk.1.1, hk.1.2⟩))) : p := h
theorem B5x10_ {p : Prop} (h : p := by first | rfl | (simp [errW_none, errW_some] <;> rfl) | (simp [*, errW_none, errW_some] <;> rfl)) : p := h
/-! ### spec_CutDgram: function 37 -/
mutual
def spec_CutDgram.j0 : Nat → Int → Bool → Int → Int → Int → Int → Bool → ByteArray → Option ((List (S62)) × Bool)
 | 0, _, _, _, _, _, _, _, _ => none
 | k + 1, x1, x17, x230000, x230001, x230002, x230003, x230004, x230005 => if x17 = true then (some ((([] : List (S62))), false)) else (spec_CutDgram.l0 k (wrap64 ((wrap64 (Int.tdiv x1 8)) * 8)) (([] : List (S62))) 0 x230000 x230001 x230002 x230003 x230004 x230005)
def spec_CutDgram.l0 : Nat → Int → List (S62) → Int → Int → Int → Int → Int → Bool → ByteArray → Option ((List (S62)) × Bool)
 | 0, _, _, _, _, _, _, _, _, _ => none
 | k + 1, x1, x6, x7, x230000, x230001, x230002, x230003, x230004, x230005 => if x7 < (x230005.size : Int) then (if (wrap64 (x7 + x1)) ≥ (x230005.size : Int) then (if 0 ≤ x7 then (if x7 ≤ (x230005.size : Int) then (if (x230005.size : Int) ≤ (x230005.size : Int) then (if x6.length < 2513169434916 then (spec_CutDgram.l0 k x1 (x6 ++ [(⟨x230000, x230001, x230002, wrap64 (x230003 + x7), x230004, x230005.extract (x7 : Int).toNat ((x230005.size : Int) : Int).toNat⟩ : S62)]) (wrap64 (x7 + x1)) x230000 x230001 x230002 x230003 x230004 x230005) else (none)) else (none)) else (none)) else (none)) else (if 0 ≤ x7 then (if x7 ≤ (wrap64 (x7 + x1)) then (if (wrap64 (x7 + x1)) ≤ (x230005.size : Int) then (if x6.length < 2513169434916 then (spec_CutDgram.l0 k x1 (x6 ++ [(⟨x230000, x230001, x230002, wrap64 (x230003 + x7), true, x230005.extract (x7 : Int).toNat ((wrap64 (x7 + x1)) : Int).toNat⟩ : S62)]) (wrap64 (x7 + x1)) x230000 x230001 x230002 x230003 x230004 x230005) else (none)) else (none)) else (none)) else (none))) else (some (x6, true))
end
def spec_CutDgram.f (k : Nat) (a0_0 : Int) (a0_1 : Int) (a0_2 : Int) (a0_3 : Int) (a0_4 : Bool) (a0_5 : ByteArray) (a1 : Int) : Option ((List (S62)) × Bool) := (spec_DgramOk.f a0_0 a0_1 a0_2 a0_3 a0_4 a0_5).bind fun t230 => (if t230 = true then ((spec_l01In.f a1 8 160).bind fun t231 => (spec_CutDgram.j0 k a1 (!t231) a0_0 a0_1 a0_2 a0_3 a0_4 a0_5)) else (spec_CutDgram.j0 k a1 true a0_0 a0_1 a0_2 a0_3 a0_4 a0_5))
theorem spec_CutDgram.mono_l : ∀ k, (∀ y0 y1 y2 y3 y4 y5 y6 y7, LeO (spec_CutDgram.j0 k y0 y1 y2 y3 y4 y5 y6 y7) (spec_CutDgram.j0 (k + 1) y0 y1 y2 y3 y4 y5 y6 y7)) ∧ (∀ y0 y1 y2 y3 y4 y5 y6 y7 y8, LeO (spec_CutDgram.l0 k y0 y1 y2 y3 y4 y5 y6 y7 y8) (spec_CutDgram.l0 (k + 1) y0 y1 y2 y3 y4 y5 y6 y7 y8))
 | 0 => ⟨fun _ _ _ _ _ _ _ _ r h => by simp [spec_CutDgram.j0] at h, fun _ _ _ _ _ _ _ _ _ r h => by simp [spec_CutDgram.l0] at h⟩
 | k + 1 => by
  obtain ⟨ih0, ih1⟩ := spec_CutDgram.mono_l k
  refine ⟨?_, ?_⟩ <;> intros <;> (first | unfold spec_CutDgram.j0 | unfold spec_CutDgram.l0) <;> repeat' (with_reducible first | exact ih0 .. | exact ih1 .. | exact LeO.refl _ | exact LeO.none _ | refine LeO.ite ?_ ?_ | refine LeO.bind ?_ (fun _ => ?_))
theorem spec_CutDgram.mono : ∀ a0 a1 a2 a3 a4 a5 a6 k, LeO (spec_CutDgram.f k a0 a1 a2 a3 a4 a5 a6) (spec_CutDgram.f (k + 1) a0 a1 a2 a3 a4 a5 a6) := by
 intro a0 a1 a2 a3 a4 a5 a6 k
 obtain ⟨ih0, ih1⟩ := spec_CutDgram.mono_l k
 unfold spec_CutDgram.f
 repeat' (with_reducible first | exact ih0 .. | exact ih1 .. | exact LeO.refl _ | exact LeO.none _ | refine LeO.ite ?_ ?_ | refine LeO.bind ?_ (fun _ => ?_))
set_option maxHeartbeats 8000000 in
set_option maxRecDepth 100000 in
theorem spec_CutDgram.calls (k : Nat) (a0_0 : Int) (a0_1 : Int) (a0_2 : Int) (a0_3 : Int) (a0_4 : Bool) (a0_5 : ByteArray) (a1 : Int) (r1 : List (S62)) (r2 : Bool) (w : World) (h : spec_CutDgram.f k a0_0 a0_1 a0_2 a0_3 a0_4 a0_5 a1 = some (r1, r2)) :
  Calls Try.prog 37 #[.agg #[.int .i64 a0_0, .int .i64 a0_1, .int .i64 a0_2, .int .i64 a0_3, .bool a0_4, .string a0_5], .int .i64 a1] w fun e w' => ∃ v0_ : Value, e = .returned (.tuple #[v0_, .bool r2]) ∧ Kd.R k62 62 w' w.heap.size (fun _ => True) v0_ r1 ∧ Below w.heap.size w w' := by
 have hu62 := Try.underlying62
 have HB := am (Below.refl w.heap.size w)
 have H : ((spec_DgramOk.f a0_0 a0_1 a0_2 a0_3 a0_4 a0_5).bind fun t230 => (if t230 = true then ((spec_l01In.f a1 8 160).bind fun t231 => (spec_CutDgram.j0 k a1 (!t231) a0_0 a0_1 a0_2 a0_3 a0_4 a0_5)) else (spec_CutDgram.j0 k a1 true a0_0 a0_1 a0_2 a0_3 a0_4 a0_5))) = some (r1, r2) := h
 clear h
 have HC3 := am H
 clear H
 go_enter Try.func37, Try.ntmps37
 go_upto_region 1 with (first | ((with_reducible refine gate_dst (N := 2) rfl ?_); refine bx (N := 2) (cs := #[.int .i64 a0_0, .int .i64 a0_1, .int .i64 a0_2, .int .i64 a0_3, .bool a0_4, .string a0_5]) (t := 62) ?_; intro gb229 hg w4 hbox hb; have BK229 := am (hbox); have GW229 := am ((bs hg (below_size HB.out))); have GE229 := am ((bs hg (below_size HB.out))); replace HB := am (below_step (te0 HB.out) hb); clear hb hbox hg))
 (try simp only [Act.put, List.setIfInBounds_toArray, List.set_cons_zero, List.set_cons_succ])
 go_cut [17] (fun v17 wc => ∃ (kq : Nat) (x17_2 : Bool), v17 = .bool x17_2 ∧ Aside0 (spec_CutDgram.j0 kq a1 x17_2 a0_0 a0_1 a0_2 a0_3 a0_4 a0_5 = some (r1, r2)) ∧ Aside0 (kq ≤ k) ∧ Aside0 (wc.heap[gb229]? = some (.cells #[.int .i64 a0_0, .int .i64 a0_1, .int .i64 a0_2, .int .i64 a0_3, .bool a0_4, .string a0_5] 62 (0, 0))) ∧ Aside0 (Below w.heap.size w wc))
 case first =>
  have H := HC3.out; clear HC3; replace H := bsi H; obtain ⟨t230, A5, H⟩ := H; (try dsimp only at H)
  by_cases c6 : t230 = true
  ·subst c6; rw [if_pos rfl] at H; replace H := bsi H; obtain ⟨t231, A7, H⟩ := H; (try dsimp only at H)
   have H' := am H
   clear H; obtain ⟨hcz8_0, hcz8_1, hcz8_2, hcz8_3, hcz8_4, hcz8_5⟩ := cl6 BK229.out; obtain ⟨hfz8_0, hfz8_1, hfz8_2, hfz8_3, hfz8_4, hfz8_5⟩ := fr6 BK229.out
   go_wp2_with (first | ((with_reducible refine gate_callee (f := 95) rfl ?_); refine goesL_ (some 11) rfl rfl Try.func95 gk_ rfl #[.agg #[.int .i64 a0_0, .int .i64 a0_1, .int .i64 a0_2, .int .i64 a0_3, .bool a0_4, .string a0_5]] rfl gm_ ?_; (with_reducible refine (spec_DgramOk.calls a0_0 a0_1 a0_2 a0_3 a0_4 a0_5 true _ A5.out).mono ?_); rintro e w9 ⟨rfl, hb⟩; refine ⟨_, rfl, ?_⟩; replace BK229 := am (bb BK229.out hb); replace HB := am (below_step (te1 HB.out GE229.out) hb); (try clear hb); (try clear hl)) | (go_at_call 69; (with_reducible refine (spec_l01In.calls a1 8 160 t231 _ A7.out).mono ?_); rintro e w' ⟨rfl, ⟨nd, rfl⟩⟩))
   go_meet
   case rel => exact ⟨_, (!t231), (be_), H', ⟨gl_⟩, ⟨(tb BK229.out)⟩, ⟨(te1 HB.out GE229.out)⟩⟩
  ·replace c6 := Bool.eq_false_iff.mpr c6; subst c6; rw [if_neg (show ¬ (false = true) by decide)] at H
   have H' := am H
   clear H; obtain ⟨hcz10_0, hcz10_1, hcz10_2, hcz10_3, hcz10_4, hcz10_5⟩ := cl6 BK229.out; obtain ⟨hfz10_0, hfz10_1, hfz10_2, hfz10_3, hfz10_4, hfz10_5⟩ := fr6 BK229.out
   go_wp2_with (first | ((with_reducible refine gate_callee (f := 95) rfl ?_); refine goesL_ (some 11) rfl rfl Try.func95 gk_ rfl #[.agg #[.int .i64 a0_0, .int .i64 a0_1, .int .i64 a0_2, .int .i64 a0_3, .bool a0_4, .string a0_5]] rfl gm_ ?_; (with_reducible refine (spec_DgramOk.calls a0_0 a0_1 a0_2 a0_3 a0_4 a0_5 false _ A5.out).mono ?_); rintro e w11 ⟨rfl, hb⟩; refine ⟨_, rfl, ?_⟩; replace BK229 := am (bb BK229.out hb); replace HB := am (below_step (te1 HB.out GE229.out) hb); (try clear hb); (try clear hl)))
   go_meet
   case rel => exact ⟨_, (true), (be_), H', ⟨gl_⟩, ⟨(tb BK229.out)⟩, ⟨(te1 HB.out GE229.out)⟩⟩
 case rest =>
  clear HC3; obtain ⟨kq, x17_2, rfl, HA, HJ2, BK229, HB⟩ := hcut
  cases kq with
  | zero => exact absurd HA.out (by simp [spec_CutDgram.j0])
  | succ kj2 =>
   have H := HA.out; clear HA; simp only [spec_CutDgram.j0] at H
   by_cases c12 : x17_2 = true
   ·subst c12; rw [if_pos rfl] at H; obtain ⟨y232, hy232⟩ : ∃ y_ : List (S62), y_ = (([] : List (S62))) := ⟨_, rfl⟩
    replace H : (some (y232, false)) = some (r1, r2) := by first | (rw [hy232]; with_reducible exact H) | (have H2_ := (Option.bind_some _ _).symm.trans H; rw [hy232]; with_reducible exact H2_) | (have H2_ := (Option.bind_some _ _).symm.trans H; with_reducible exact H2_) | with_reducible exact H | (rw [hy232]; exact H) | exact H
    have Ny232 := am hy232; clear hy232; simp only [Option.some.injEq, Prod.mk.injEq] at H; obtain ⟨rfl, rfl⟩ := H
    go_wp2_with (first | ((with_reducible refine gate_dst (N := 18) rfl ?_); refine Kd.R_lit k62 _ 62 ?hg (N := 18) ?hd (xs := ([] : List (S62))) (inner := []) (ok := fun _ => True) (okp := fun _ => True) ?hr ?hp (fun _ hk => hk) trivial (Below.refl _ _) (Nat.le_refl _) (by simp) ?_; (case hd => rfl); (case hg => rfl); (case hr => exact gs_); (case hp => exact (Reps.none _ _)); intro v233 w13 ho14 hb hg_ hnew_; clear hg_ hnew_; (first | rw [← Ny232.out] at ho14 | (simp only [Int.reduceToNat] at ho14; rw [← Ny232.out] at ho14)); have HO234 := am (Kd.R_lower (Kd.R_newB ho14 (g := gb229) (o := .cells #[.int .i64 a0_0, .int .i64 a0_1, .int .i64 a0_2, .int .i64 a0_3, .bool a0_4, .string a0_5] 62 (0, 0)) (tb BK229.out)) (below_size (te1 HB.out GE229.out))); replace BK229 := am (bb BK229.out hb); replace HB := am (below_step (te1 HB.out GE229.out) hb); clear hb ho14))
    go_ret2
    exact ⟨_, B5x10_, (by (with_reducible repeat (first | apply Kd.R_alloc | apply Kd.R_drewN | apply Kd.R_drew)); exact Kd.R_mono HO234.out (fun _ hk => trivial)), (te1 HB.out GE229.out)⟩
   ·replace c12 := Bool.eq_false_iff.mpr c12; subst c12; rw [if_neg (show ¬ (false = true) by decide)] at H; obtain ⟨y235, hy235⟩ : ∃ y_ : List (S62), y_ = (([] : List (S62))) := ⟨_, rfl⟩
    replace H : (spec_CutDgram.l0 kj2 (wrap64 ((wrap64 (Int.tdiv a1 8)) * 8)) y235 0 a0_0 a0_1 a0_2 a0_3 a0_4 a0_5) = some (r1, r2) := by first | (rw [hy235]; with_reducible exact H) | (have H2_ := (Option.bind_some _ _).symm.trans H; rw [hy235]; with_reducible exact H2_) | (have H2_ := (Option.bind_some _ _).symm.trans H; with_reducible exact H2_) | with_reducible exact H | (rw [hy235]; exact H) | exact H
    have Ny235 := am hy235; clear hy235
    have H' := am H
    clear H
    go_wp2_with (first | ((with_reducible refine gate_dst (N := 22) rfl ?_); refine Kd.R_lit k62 _ 62 ?hg (N := 22) ?hd (xs := ([] : List (S62))) (inner := []) (ok := fun _ => True) (okp := fun _ => True) ?hr ?hp (fun _ hk => hk) trivial (Below.refl _ _) (Nat.le_refl _) (by simp) ?_; (case hd => rfl); (case hg => rfl); (case hr => exact gs_); (case hp => exact (Reps.none _ _)); intro v236 w15 ho16 hb hg_ hnew_; clear hg_ hnew_; (first | rw [← Ny235.out] at ho16 | (simp only [Int.reduceToNat] at ho16; rw [← Ny235.out] at ho16)); have HO237 := am (Kd.R_lower (Kd.R_newB ho16 (g := gb229) (o := .cells #[.int .i64 a0_0, .int .i64 a0_1, .int .i64 a0_2, .int .i64 a0_3, .bool a0_4, .string a0_5] 62 (0, 0)) (tb BK229.out)) (below_size (te1 HB.out GE229.out))); replace BK229 := am (bb BK229.out hb); replace HB := am (below_step (te1 HB.out GE229.out) hb); clear hb ho16))
    go_loopg [6, 7] kj2 (fun kq v6 v7 w' => ∃ (x6_2 : List (S62)) (x7_2 : Int), v7 = .int .i64 x7_2 ∧ Aside0 (spec_CutDgram.l0 kq (wrap64 ((wrap64 (Int.tdiv a1 8)) * 8)) x6_2 x7_2 a0_0 a0_1 a0_2 a0_3 a0_4 a0_5 = some (r1, r2)) ∧ Aside0 (kq ≤ kj2) ∧ Aside0 (Kd.R k62 62 w' w.heap.size (fun k_ => k_ ≠ gb229) v6 x6_2) ∧ Aside0 (w'.heap[gb229]? = some (.cells #[.int .i64 a0_0, .int .i64 a0_1, .int .i64 a0_2, .int .i64 a0_3, .bool a0_4, .string a0_5] 62 (0, 0))) ∧ Aside0 (Below w.heap.size w w'))
    case atStart => exact ⟨(y235), (0), (be_), H', ⟨Nat.le_refl _⟩, ⟨(by (with_reducible repeat (first | apply Kd.R_alloc | apply Kd.R_drewN | apply Kd.R_drew)); exact Kd.R_mono HO237.out (fun _ hk => hk.2))⟩, ⟨(tb BK229.out)⟩, ⟨(te1 HB.out GE229.out)⟩⟩
    case round =>
     clear H'
     try clear c12
     obtain ⟨x6_2, x7_2, rfl, HA, HK2, HO_6, BK229, HB⟩ := hrel
     cases gk with
     | zero => exact absurd HA.out (by simp [spec_CutDgram.l0])
     | succ k2 =>
      have H := HA.out; clear HA; simp only [spec_CutDgram.l0] at H
      by_cases c17 : x7_2 < (a0_5.size : Int)
      ·rw [if_pos c17] at H
       have c17b0 : decide (x7_2 < (a0_5.size : Int)) = true := decide_eq_true c17
       clear c17
       by_cases c18 : (wrap64 (x7_2 + (wrap64 ((wrap64 (Int.tdiv a1 8)) * 8)))) ≥ (a0_5.size : Int)
       ·rw [if_pos c18] at H
        have c18b0 : decide ((a0_5.size : Int) ≤ (wrap64 (x7_2 + (wrap64 ((wrap64 (Int.tdiv a1 8)) * 8))))) = true := decide_eq_true c18
        clear c18
        by_cases c19 : 0 ≤ x7_2
        rotate_left
        ·rw [if_neg c19] at H; exact absurd H (by simp)
        rw [if_pos c19] at H; have c19b0 := eq_true c19
        have c19b1 : decide (0 ≤ x7_2) = true := decide_eq_true c19
        clear c19
        by_cases c20 : x7_2 ≤ (a0_5.size : Int)
        rotate_left
        ·rw [if_neg c20] at H; exact absurd H (by simp)
        rw [if_pos c20] at H; have c20b0 := eq_true c20
        have c20b1 : decide (x7_2 ≤ (a0_5.size : Int)) = true := decide_eq_true c20
        clear c20
        by_cases c21 : (a0_5.size : Int) ≤ (a0_5.size : Int)
        rotate_left
        ·rw [if_neg c21] at H; exact absurd H (by simp)
        rw [if_pos c21] at H; have c21b0 := eq_true c21
        have c21b1 : decide ((a0_5.size : Int) ≤ (a0_5.size : Int)) = true := decide_eq_true c21
        clear c21
        by_cases c22 : x6_2.length < 2513169434916
        rotate_left
        ·rw [if_neg c22] at H; exact absurd H (by simp)
        rw [if_pos c22] at H; have LMc22 := am c22; clear c22; obtain ⟨y239, hy239⟩ : ∃ y_ : List (S62), y_ = (x6_2 ++ [(⟨a0_0, a0_1, a0_2, wrap64 (a0_3 + x7_2), a0_4, a0_5.extract (x7_2 : Int).toNat ((a0_5.size : Int) : Int).toNat⟩ : S62)]) := ⟨_, rfl⟩
        replace H : (spec_CutDgram.l0 k2 (wrap64 ((wrap64 (Int.tdiv a1 8)) * 8)) y239 (wrap64 (x7_2 + (wrap64 ((wrap64 (Int.tdiv a1 8)) * 8)))) a0_0 a0_1 a0_2 a0_3 a0_4 a0_5) = some (r1, r2) := by first | (rw [hy239]; with_reducible exact H) | (have H2_ := (Option.bind_some _ _).symm.trans H; rw [hy239]; with_reducible exact H2_) | (have H2_ := (Option.bind_some _ _).symm.trans H; with_reducible exact H2_) | with_reducible exact H | (rw [hy239]; exact H) | exact H
        have Ny239 := am hy239; clear hy239
        have H' := am H
        clear H; obtain ⟨hcz23_0, hcz23_1, hcz23_2, hcz23_3, hcz23_4, hcz23_5⟩ := cl6 BK229.out; obtain ⟨hfz23_0, hfz23_1, hfz23_2, hfz23_3, hfz23_4, hfz23_5⟩ := fr6 BK229.out
        go_wp2_with (first | ((with_reducible refine gate_dst (N := 8) rfl ?_); refine bx (N := 8) (cs := #[.int .i64 0, .int .i64 0, .int .i64 0, .int .i64 0, .bool false, .string (⟨#[]⟩ : ByteArray)]) (t := 62) ?_; intro gb238 hg w24 hbox hb; replace HO_6 := am (Kd.R_below (Kd.R_elderB (tr HO_6.out) gb238 (Nat.le_of_eq hg.symm)) hb); have BK238 := am (hbox); have GW238 := am ((bs hg (below_size HB.out))); have GE238 := am ((bs hg (below_size HB.out))); replace HB := am (below_step (te1 HB.out GE229.out) hb); have NB229_238 := am ((nl hg (blk_lt BK229.out))); have NB238_229 := am ((ng hg (blk_lt BK229.out))); replace BK229 := am (bb BK229.out hb); clear hb hbox hg; have hnb25 := NB238_229.out; have hnc25 := NB229_238.out; obtain ⟨hcz26_0, hcz26_1, hcz26_2, hcz26_3, hcz26_4, hcz26_5⟩ := cl6 BK238.out; obtain ⟨hfz26_0, hfz26_1, hfz26_2, hfz26_3, hfz26_4, hfz26_5⟩ := fr6 BK238.out) | ((with_reducible refine gate_store (t := 62) (p := 8) rfl ?_); refine store_event (t := 62) (p := 8) (v := ?vo_w27) (w1 := ((((((w24.setCell ⟨gb238, 0, none⟩ (.int .i64 a0_0)).setCell ⟨gb238, 1, none⟩ (.int .i64 a0_1)).setCell ⟨gb238, 2, none⟩ (.int .i64 a0_2)).setCell ⟨gb238, 3, none⟩ (.int .i64 a0_3)).setCell ⟨gb238, 4, none⟩ (.bool a0_4)).setCell ⟨gb238, 5, none⟩ (.string a0_5))) ?hg ?ho ?hn ?hr ?_; (case ho => rfl); (case hg => rfl); (case hn => rfl); (case hr => exact gs_); intro w27 hw; replace HO_6 : Aside0 (Kd.R k62 62 w27 w.heap.size (fun k_ => k_ ≠ gb229 ∧ k_ ≠ gb238) u6 x6_2) := ⟨B5x7_⟩; replace BK229 : Aside0 (w27.heap[gb229]? = some (.cells #[.int .i64 a0_0, .int .i64 a0_1, .int .i64 a0_2, .int .i64 a0_3, .bool a0_4, .string a0_5] 62 (0, 0))) := ⟨(by rw [hw]; exact (tp1 BK229.out NB229_238.out))⟩; replace BK238 : Aside0 (w27.heap[gb238]? = some (.cells #[.int .i64 a0_0, .int .i64 a0_1, .int .i64 a0_2, .int .i64 a0_3, .bool a0_4, .string a0_5] 62 (0, 0))) := ⟨(by rw [hw]; exact (tp0 BK238.out))⟩; replace HB : Aside0 (Below w.heap.size w w27) := ⟨(by rw [hw]; exact (te2 HB.out GE229.out GE238.out))⟩; clear hw; obtain ⟨hcz28_0, hcz28_1, hcz28_2, hcz28_3, hcz28_4, hcz28_5⟩ := cl6 BK238.out; obtain ⟨hfz28_0, hfz28_1, hfz28_2, hfz28_3, hfz28_4, hfz28_5⟩ := fr6 BK238.out; obtain ⟨hcz29_0, hcz29_1, hcz29_2, hcz29_3, hcz29_4, hcz29_5⟩ := cl6 BK229.out; obtain ⟨hfz29_0, hfz29_1, hfz29_2, hfz29_3, hfz29_4, hfz29_5⟩ := fr6 BK229.out) | ((with_reducible refine gate_builtin (b := .append) (xs := #[.tmp 58, .tmp 60]) rfl ?_); at_builtin; refine Kd.R_append k62 (w0 := w) w.heap.size rfl (.tmp 58) (.tmp 60) 65 62 (.agg #[(.int .i64 0), (.int .i64 0), (.int .i64 0), (.int .i64 0), (.bool false), (.string ⟨#[]⟩)]) 56 rfl Try.underlying65 info62 rfl (by decide) (by omega) u6 x6_2 (⟨a0_0, a0_1, a0_2, wrap64 (a0_3 + x7_2), a0_4, a0_5.extract (x7_2 : Int).toNat ((a0_5.size : Int) : Int).toNat⟩ : S62) [.int .i64 a0_0, .int .i64 a0_1, .int .i64 a0_2, .int .i64 (wrap64 (a0_3 + x7_2)), .bool a0_4, .string (a0_5.extract (x7_2 : Int).toNat ((a0_5.size : Int) : Int).toNat)] (fun k_ => k_ ≠ gb229 ∧ k_ ≠ gb238) (fun _ => False) rfl gs_ ?aP (fun _ hk => hk.elim) ?aF ?aO ?aB ?aS ?aL ?_; (case aP => exact k62_mkM _ _ _ (⟨a0_0, a0_1, a0_2, wrap64 (a0_3 + x7_2), a0_4, a0_5.extract (x7_2 : Int).toNat ((a0_5.size : Int) : Int).toNat⟩ : S62)); (case aB => exact (te2 HB.out GE229.out GE238.out)); (case aF => exact (fun k_ hk => ⟨Kd.freshB (g := gb229) (o := .cells #[.int .i64 a0_0, .int .i64 a0_1, .int .i64 a0_2, .int .i64 a0_3, .bool a0_4, .string a0_5] 62 (0, 0)) (tp1 BK229.out NB229_238.out) k_ hk, Kd.freshB (g := gb238) (o := .cells #[.int .i64 a0_0, .int .i64 a0_1, .int .i64 a0_2, .int .i64 (wrap64 (a0_3 + x7_2)), .bool a0_4, .string (a0_5.extract (x7_2 : Int).toNat ((a0_5.size : Int) : Int).toNat)] 62 (0, 0)) (tp0 BK238.out) k_ hk⟩)); (case aO => (with_reducible repeat (first | apply Kd.R_alloc | apply Kd.R_drewN | apply Kd.R_drew)); exact Kd.R_mono (Kd.R_far (p := ⟨gb238, 5, none⟩) (Kd.R_far (p := ⟨gb238, 3, none⟩) (Kd.R_far (p := ⟨gb238, 4, none⟩) (Kd.R_far (p := ⟨gb238, 4, none⟩) (Kd.R_mono HO_6.out (fun k_ hk => (⟨hk, hk.2⟩ : _ ∧ k_ ≠ gb238))) (fun _ hk => hk.2) (.bool true)) (fun _ hk => hk.2) (.bool a0_4)) (fun _ hk => hk.2) (.int .i64 (wrap64 (a0_3 + x7_2)))) (fun _ hk => hk.2) (.string (a0_5.extract (x7_2 : Int).toNat ((a0_5.size : Int) : Int).toNat))) (fun _ hk => ⟨hk.1.1, hk.1.2⟩)); (case aS => exact (below_size (te2 HB.out GE229.out GE238.out))); (case aL => have := LMc22.out; omega); intro v240 w30 ho hb hg hat; rw [← Ny239.out] at ho; replace BK229 := am (blk_grown (g := gb229) (o := .cells #[.int .i64 a0_0, .int .i64 a0_1, .int .i64 a0_2, .int .i64 a0_3, .bool a0_4, .string a0_5] 62 (0, 0)) (tp1 BK229.out NB229_238.out) hg (Kd.R_away HO_6.out (fun _ hk => hk.1))); replace BK238 := am (blk_grown (g := gb238) (o := .cells #[.int .i64 a0_0, .int .i64 a0_1, .int .i64 a0_2, .int .i64 (wrap64 (a0_3 + x7_2)), .bool a0_4, .string (a0_5.extract (x7_2 : Int).toNat ((a0_5.size : Int) : Int).toNat)] 62 (0, 0)) (tp0 BK238.out) hg (Kd.R_away HO_6.out (fun _ hk => hk.2))); replace HB := am (hb); have HO241 := am (ho); clear HO_6; clear ho hb hg hat))
        go_roundg k2
        case measure => have := HJ2.out; have := HK2.out; omega
        case rel => exact ⟨(y239), (wrap64 (x7_2 + (wrap64 ((wrap64 (Int.tdiv a1 8)) * 8)))), (be_), H', ⟨(by have := HJ2.out; have := HK2.out; omega)⟩, ⟨(by (with_reducible repeat (first | apply Kd.R_alloc | apply Kd.R_drewN | apply Kd.R_drew)); exact Kd.R_mono HO241.out (fun _ hk => hk.1))⟩, ⟨(tb BK229.out)⟩, ⟨(te2 HB.out GE229.out GE238.out)⟩⟩
       ·rw [if_neg c18] at H
        have c18b0 : decide ((a0_5.size : Int) ≤ (wrap64 (x7_2 + (wrap64 ((wrap64 (Int.tdiv a1 8)) * 8))))) = false := decide_eq_false c18
        clear c18
        by_cases c31 : 0 ≤ x7_2
        rotate_left
        ·rw [if_neg c31] at H; exact absurd H (by simp)
        rw [if_pos c31] at H; have c31b0 := eq_true c31
        have c31b1 : decide (0 ≤ x7_2) = true := decide_eq_true c31
        clear c31
        by_cases c32 : x7_2 ≤ (wrap64 (x7_2 + (wrap64 ((wrap64 (Int.tdiv a1 8)) * 8))))
        rotate_left
        ·rw [if_neg c32] at H; exact absurd H (by simp)
        rw [if_pos c32] at H; have c32b0 := eq_true c32
        have c32b1 : decide (x7_2 ≤ (wrap64 (x7_2 + (wrap64 ((wrap64 (Int.tdiv a1 8)) * 8))))) = true := decide_eq_true c32
        by_cases c33 : (wrap64 (x7_2 + (wrap64 ((wrap64 (Int.tdiv a1 8)) * 8)))) ≤ (a0_5.size : Int)
        rotate_left
        ·rw [if_neg c33] at H; exact absurd H (by simp)
        rw [if_pos c33] at H; have c33b0 := eq_true c33
        have c33b1 : decide ((wrap64 (x7_2 + (wrap64 ((wrap64 (Int.tdiv a1 8)) * 8)))) ≤ (a0_5.size : Int)) = true := decide_eq_true c33
        by_cases c34 : x6_2.length < 2513169434916
        rotate_left
        ·rw [if_neg c34] at H; exact absurd H (by simp)
        rw [if_pos c34] at H; have LMc34 := am c34; clear c34; obtain ⟨y242, hy242⟩ : ∃ y_ : List (S62), y_ = (x6_2 ++ [(⟨a0_0, a0_1, a0_2, wrap64 (a0_3 + x7_2), true, a0_5.extract (x7_2 : Int).toNat ((wrap64 (x7_2 + (wrap64 ((wrap64 (Int.tdiv a1 8)) * 8)))) : Int).toNat⟩ : S62)]) := ⟨_, rfl⟩
        replace H : (spec_CutDgram.l0 k2 (wrap64 ((wrap64 (Int.tdiv a1 8)) * 8)) y242 (wrap64 (x7_2 + (wrap64 ((wrap64 (Int.tdiv a1 8)) * 8)))) a0_0 a0_1 a0_2 a0_3 a0_4 a0_5) = some (r1, r2) := by first | (rw [hy242]; with_reducible exact H) | (have H2_ := (Option.bind_some _ _).symm.trans H; rw [hy242]; with_reducible exact H2_) | (have H2_ := (Option.bind_some _ _).symm.trans H; with_reducible exact H2_) | with_reducible exact H | (rw [hy242]; exact H) | exact H
        have Ny242 := am hy242; clear hy242
        have H' := am H
        clear H; obtain ⟨hcz35_0, hcz35_1, hcz35_2, hcz35_3, hcz35_4, hcz35_5⟩ := cl6 BK229.out; obtain ⟨hfz35_0, hfz35_1, hfz35_2, hfz35_3, hfz35_4, hfz35_5⟩ := fr6 BK229.out
        go_wp2_with (first | ((with_reducible refine gate_dst (N := 8) rfl ?_); refine bx (N := 8) (cs := #[.int .i64 0, .int .i64 0, .int .i64 0, .int .i64 0, .bool false, .string (⟨#[]⟩ : ByteArray)]) (t := 62) ?_; intro gb238 hg w36 hbox hb; replace HO_6 := am (Kd.R_below (Kd.R_elderB (tr HO_6.out) gb238 (Nat.le_of_eq hg.symm)) hb); have BK238 := am (hbox); have GW238 := am ((bs hg (below_size HB.out))); have GE238 := am ((bs hg (below_size HB.out))); replace HB := am (below_step (te1 HB.out GE229.out) hb); have NB229_238 := am ((nl hg (blk_lt BK229.out))); have NB238_229 := am ((ng hg (blk_lt BK229.out))); replace BK229 := am (bb BK229.out hb); clear hb hbox hg; have hnb37 := NB238_229.out; have hnc37 := NB229_238.out; obtain ⟨hcz38_0, hcz38_1, hcz38_2, hcz38_3, hcz38_4, hcz38_5⟩ := cl6 BK238.out; obtain ⟨hfz38_0, hfz38_1, hfz38_2, hfz38_3, hfz38_4, hfz38_5⟩ := fr6 BK238.out) | ((with_reducible refine gate_store (t := 62) (p := 8) rfl ?_); refine store_event (t := 62) (p := 8) (v := ?vo_w39) (w1 := ((((((w36.setCell ⟨gb238, 0, none⟩ (.int .i64 a0_0)).setCell ⟨gb238, 1, none⟩ (.int .i64 a0_1)).setCell ⟨gb238, 2, none⟩ (.int .i64 a0_2)).setCell ⟨gb238, 3, none⟩ (.int .i64 a0_3)).setCell ⟨gb238, 4, none⟩ (.bool a0_4)).setCell ⟨gb238, 5, none⟩ (.string a0_5))) ?hg ?ho ?hn ?hr ?_; (case ho => rfl); (case hg => rfl); (case hn => rfl); (case hr => exact gs_); intro w39 hw; replace HO_6 : Aside0 (Kd.R k62 62 w39 w.heap.size (fun k_ => k_ ≠ gb229 ∧ k_ ≠ gb238) u6 x6_2) := ⟨B5x7_⟩; replace BK229 : Aside0 (w39.heap[gb229]? = some (.cells #[.int .i64 a0_0, .int .i64 a0_1, .int .i64 a0_2, .int .i64 a0_3, .bool a0_4, .string a0_5] 62 (0, 0))) := ⟨(by rw [hw]; exact (tp1 BK229.out NB229_238.out))⟩; replace BK238 : Aside0 (w39.heap[gb238]? = some (.cells #[.int .i64 a0_0, .int .i64 a0_1, .int .i64 a0_2, .int .i64 a0_3, .bool a0_4, .string a0_5] 62 (0, 0))) := ⟨(by rw [hw]; exact (tp0 BK238.out))⟩; replace HB : Aside0 (Below w.heap.size w w39) := ⟨(by rw [hw]; exact (te2 HB.out GE229.out GE238.out))⟩; clear hw; obtain ⟨hcz40_0, hcz40_1, hcz40_2, hcz40_3, hcz40_4, hcz40_5⟩ := cl6 BK238.out; obtain ⟨hfz40_0, hfz40_1, hfz40_2, hfz40_3, hfz40_4, hfz40_5⟩ := fr6 BK238.out; obtain ⟨hcz41_0, hcz41_1, hcz41_2, hcz41_3, hcz41_4, hcz41_5⟩ := cl6 BK229.out; obtain ⟨hfz41_0, hfz41_1, hfz41_2, hfz41_3, hfz41_4, hfz41_5⟩ := fr6 BK229.out) | ((with_reducible refine gate_builtin (b := .append) (xs := #[.tmp 58, .tmp 60]) rfl ?_); at_builtin; refine Kd.R_append k62 (w0 := w) w.heap.size rfl (.tmp 58) (.tmp 60) 65 62 (.agg #[(.int .i64 0), (.int .i64 0), (.int .i64 0), (.int .i64 0), (.bool false), (.string ⟨#[]⟩)]) 56 rfl Try.underlying65 info62 rfl (by decide) (by omega) u6 x6_2 (⟨a0_0, a0_1, a0_2, wrap64 (a0_3 + x7_2), true, a0_5.extract (x7_2 : Int).toNat ((wrap64 (x7_2 + (wrap64 ((wrap64 (Int.tdiv a1 8)) * 8)))) : Int).toNat⟩ : S62) [.int .i64 a0_0, .int .i64 a0_1, .int .i64 a0_2, .int .i64 (wrap64 (a0_3 + x7_2)), .bool true, .string (a0_5.extract (x7_2 : Int).toNat ((wrap64 (x7_2 + (wrap64 ((wrap64 (Int.tdiv a1 8)) * 8)))) : Int).toNat)] (fun k_ => k_ ≠ gb229 ∧ k_ ≠ gb238) (fun _ => False) rfl gs_ ?aP (fun _ hk => hk.elim) ?aF ?aO ?aB ?aS ?aL ?_; (case aP => exact k62_mkM _ _ _ (⟨a0_0, a0_1, a0_2, wrap64 (a0_3 + x7_2), true, a0_5.extract (x7_2 : Int).toNat ((wrap64 (x7_2 + (wrap64 ((wrap64 (Int.tdiv a1 8)) * 8)))) : Int).toNat⟩ : S62)); (case aB => exact (te2 HB.out GE229.out GE238.out)); (case aF => exact (fun k_ hk => ⟨Kd.freshB (g := gb229) (o := .cells #[.int .i64 a0_0, .int .i64 a0_1, .int .i64 a0_2, .int .i64 a0_3, .bool a0_4, .string a0_5] 62 (0, 0)) (tp1 BK229.out NB229_238.out) k_ hk, Kd.freshB (g := gb238) (o := .cells #[.int .i64 a0_0, .int .i64 a0_1, .int .i64 a0_2, .int .i64 (wrap64 (a0_3 + x7_2)), .bool true, .string (a0_5.extract (x7_2 : Int).toNat ((wrap64 (x7_2 + (wrap64 ((wrap64 (Int.tdiv a1 8)) * 8)))) : Int).toNat)] 62 (0, 0)) (tp0 BK238.out) k_ hk⟩)); (case aO => (with_reducible repeat (first | apply Kd.R_alloc | apply Kd.R_drewN | apply Kd.R_drew)); exact Kd.R_mono (Kd.R_far (p := ⟨gb238, 5, none⟩) (Kd.R_far (p := ⟨gb238, 3, none⟩) (Kd.R_far (p := ⟨gb238, 4, none⟩) (Kd.R_mono HO_6.out (fun k_ hk => (⟨hk, hk.2⟩ : _ ∧ k_ ≠ gb238))) (fun _ hk => hk.2) (.bool true)) (fun _ hk => hk.2) (.int .i64 (wrap64 (a0_3 + x7_2)))) (fun _ hk => hk.2) (.string (a0_5.extract (x7_2 : Int).toNat ((wrap64 (x7_2 + (wrap64 ((wrap64 (Int.tdiv a1 8)) * 8)))) : Int).toNat))) (fun _ hk => ⟨hk.1.1, hk.1.2⟩)); (case aS => exact (below_size (te2 HB.out GE229.out GE238.out))); (case aL => have := LMc34.out; omega); intro v243 w42 ho hb hg hat; rw [← Ny242.out] at ho; replace BK229 := am (blk_grown (g := gb229) (o := .cells #[.int .i64 a0_0, .int .i64 a0_1, .int .i64 a0_2, .int .i64 a0_3, .bool a0_4, .string a0_5] 62 (0, 0)) (tp1 BK229.out NB229_238.out) hg (Kd.R_away HO_6.out (fun _ hk => hk.1))); replace BK238 := am (blk_grown (g := gb238) (o := .cells #[.int .i64 a0_0, .int .i64 a0_1, .int .i64 a0_2, .int .i64 (wrap64 (a0_3 + x7_2)), .bool true, .string (a0_5.extract (x7_2 : Int).toNat ((wrap64 (x7_2 + (wrap64 ((wrap64 (Int.tdiv a1 8)) * 8)))) : Int).toNat)] 62 (0, 0)) (tp0 BK238.out) hg (Kd.R_away HO_6.out (fun _ hk => hk.2))); replace HB := am (hb); have HO244 := am (ho); clear HO_6; clear ho hb hg hat))
        go_roundg k2
        case measure => have := HJ2.out; have := HK2.out; omega
        case rel => exact ⟨(y242), (wrap64 (x7_2 + (wrap64 ((wrap64 (Int.tdiv a1 8)) * 8)))), (be_), H', ⟨(by have := HJ2.out; have := HK2.out; omega)⟩, ⟨(by (with_reducible repeat (first | apply Kd.R_alloc | apply Kd.R_drewN | apply Kd.R_drew)); exact Kd.R_mono HO244.out (fun _ hk => hk.1))⟩, ⟨(tb BK229.out)⟩, ⟨(te2 HB.out GE229.out GE238.out)⟩⟩
      ·rw [if_neg c17] at H
       have c17b0 : decide (x7_2 < (a0_5.size : Int)) = false := decide_eq_false c17
       clear c17; simp only [Option.some.injEq, Prod.mk.injEq] at H; obtain ⟨rfl, rfl⟩ := H; obtain ⟨hcz43_0, hcz43_1, hcz43_2, hcz43_3, hcz43_4, hcz43_5⟩ := cl6 BK229.out; obtain ⟨hfz43_0, hfz43_1, hfz43_2, hfz43_3, hfz43_4, hfz43_5⟩ := fr6 BK229.out
       go_wp2
       go_ret2
       exact ⟨_, B5x10_, (by (with_reducible repeat (first | apply Kd.R_alloc | apply Kd.R_drewN | apply Kd.R_drew)); exact Kd.R_mono HO_6.out (fun _ hk => trivial)), (te1 HB.out GE229.out)⟩

/-! ### impl_copyInts: function 138 -/
def impl_copyInts.f (l0 : List Int) : Option (List Int) := (some (([] : List Int) : List Int)).bind fun y245 => (if y245.length + l0.length < 17592186044416 then (some (y245 ++ l0)) else (none))
set_option maxHeartbeats 8000000 in
set_option maxRecDepth 100000 in
theorem impl_copyInts.calls (A0 : Option Addr) (c0 : Nat) (l0 : List Int) (r : List Int) (w : World) (hr0 : Kd.C (Kd.int .i64) w A0 l0.length l0) (hc0 : l0.length ≤ c0) (h : impl_copyInts.f l0 = some r) :
  Calls Try.prog 138 #[.slice A0 l0.length c0] w fun e w' => ∃ v0_ : Value, e = .returned (v0_) ∧ Kd.R (Kd.int .i64) 3 w' w.heap.size (fun _ => True) v0_ r ∧ Below w.heap.size w w' := by
 have HR0 := am hr0
 have HC0 := am hc0
 clear hr0 hc0
 have HB := am (Below.refl w.heap.size w)
 have H : ((some (([] : List Int) : List Int)).bind fun y245 => (if y245.length + l0.length < 17592186044416 then (some (y245 ++ l0)) else (none))) = some r := h
 clear h
 obtain ⟨y245, hy245⟩ : ∃ y_ : List Int, y_ = (([] : List Int)) := ⟨_, rfl⟩
 replace H : (if y245.length + l0.length < 17592186044416 then (some (y245 ++ l0)) else (none)) = some r := by first | (rw [hy245]; with_reducible exact H) | (have H2_ := (Option.bind_some _ _).symm.trans H; rw [hy245]; with_reducible exact H2_) | (have H2_ := (Option.bind_some _ _).symm.trans H; with_reducible exact H2_) | with_reducible exact H | (rw [hy245]; exact H) | exact H
 have Ny245 := am hy245
 clear hy245
 by_cases c2 : y245.length + l0.length < 17592186044416
 rotate_left
 ·rw [if_neg c2] at H; exact absurd H (by simp)
 rw [if_pos c2] at H
 have LMc2 := am c2
 clear c2
 obtain ⟨y248, hy248⟩ : ∃ y_ : List Int, y_ = (y245 ++ l0) := ⟨_, rfl⟩
 replace H : (some y248) = some r := by first | (rw [hy248]; with_reducible exact H) | (have H2_ := (Option.bind_some _ _).symm.trans H; rw [hy248]; with_reducible exact H2_) | (have H2_ := (Option.bind_some _ _).symm.trans H; with_reducible exact H2_) | with_reducible exact H | (rw [hy248]; exact H) | exact H
 have Ny248 := am hy248
 clear hy248
 obtain rfl := Option.some.inj H
 go_enter Try.func138, Try.ntmps138
 go_wp2_with (first | ((with_reducible refine gate_dst (N := 3) rfl ?_); refine Kd.R_lit (Kd.int .i64) _ 3 ?hg (N := 3) ?hd (xs := ([] : List Int)) (inner := []) (ok := fun _ => True) (okp := fun _ => True) ?hr ?hp (fun _ hk => hk) trivial (Below.refl _ _) (Nat.le_refl _) (by simp) ?_; (case hd => rfl); (case hg => rfl); (case hr => exact gs_); (case hp => exact (Reps.none _ _)); intro v246 w3 ho4 hb hg_ hnew_; clear hg_ hnew_; (first | rw [← Ny245.out] at ho4 | (simp only [Int.reduceToNat] at ho4; rw [← Ny245.out] at ho4)); have HO247 := am (Kd.R_lower ho4 (below_size (te0 HB.out))); replace HB := am (below_step (te0 HB.out) hb); clear hb ho4) | ((with_reducible refine gate_builtin (b := .append) (xs := #[.tmp 3, .tmp 4]) rfl ?_); at_builtin; refine Kd.R_append_rows (Kd.int .i64) (w0 := w) w.heap.size rfl (.tmp 3) (.tmp 4) 51 3 (.int .i64 0) 8 rfl Try.underlying51 info3 rfl (by decide) (by omega) v246 y245 l0 _ _ _ (fun _ => True) (fun _ => False) rfl rfl ?aO ?aR (fun _ _ h => h) (fun _ h => h.elim) ?aF ?aB ?aS ?aL ?_; (case aR => repeat (first | exact (Kd.C_below HR0.out HB.out) | (with_reducible refine Kd.C_alloc ?_ _) | (with_reducible refine Kd.C_drewN ?_ _) | (with_reducible refine Kd.C_drew ?_))); (case aB => exact (te0 HB.out)); (case aF => exact (fun _ _ => trivial)); (case aO => (with_reducible repeat (first | apply Kd.R_alloc | apply Kd.R_drewN | apply Kd.R_drew)); exact HO247.out); (case aS => exact (below_size (te0 HB.out))); (case aL => have := LMc2.out; omega); intro v249 w5 ho hb hg hat; rw [← Ny248.out] at ho; replace HB := am (hb); have HO250 := am (ho); clear HO247; clear ho hb hg hat))
 go_ret
 exact ⟨_, B5x10_, (tr HO250.out), (te0 HB.out)⟩

/-! ### impl_copyBits: function 98 -/
def impl_copyBits.l0 : Nat → List (S82) → List (S82) → Int → Int → Option ((List (S82)))
 | 0, _, _, _, _ => none
 | k + 1, x3, x7, x8, x9 => if x9 < x8 then (if 0 ≤ x9 then (if x9 < (x7.length : Int) then ((some (([] : List ByteArray) : List ByteArray)).bind fun y256 => (if y256.length + ((rd_T82 x7 x9).f2).length < 8796093022208 then ((impl_copyInts.f ((rd_T82 x7 x9).f3)).bind fun t262 => (if x3.length < 1759218604441 then (impl_copyBits.l0 k (x3 ++ [(⟨(rd_T82 x7 x9).f0, (rd_T82 x7 x9).f1, (y256 ++ ((rd_T82 x7 x9).f2)), t262, (rd_T82 x7 x9).f4, (rd_T82 x7 x9).f5⟩ : S82)]) x7 x8 (wrap64 (x9 + 1))) else (none))) else (none))) else (none)) else (none)) else (some x3)
def impl_copyBits.f (k : Nat) (l0 : List (S82)) : Option ((List (S82))) := impl_copyBits.l0 k (([] : List (S82))) l0 (l0.length : Int) 0
theorem impl_copyBits.mono_l : ∀ k, (∀ y0 y1 y2 y3, LeO (impl_copyBits.l0 k y0 y1 y2 y3) (impl_copyBits.l0 (k + 1) y0 y1 y2 y3))
 | 0 => fun _ _ _ _ r h => by simp [impl_copyBits.l0] at h
 | k + 1 => by
  have ih0 := impl_copyBits.mono_l k
  ·intro y0 y1 y2 y3
   unfold impl_copyBits.l0
   repeat' (with_reducible first | exact ih0 .. | exact LeO.refl _ | exact LeO.none _ | refine LeO.ite ?_ ?_ | refine LeO.bind ?_ (fun _ => ?_))
theorem impl_copyBits.mono : ∀ a0 k, LeO (impl_copyBits.f k a0) (impl_copyBits.f (k + 1) a0) := by
 intro a0 k
 have ih0 := impl_copyBits.mono_l k
 unfold impl_copyBits.f
 repeat' (with_reducible first | exact ih0 .. | exact LeO.refl _ | exact LeO.none _ | refine LeO.ite ?_ ?_ | refine LeO.bind ?_ (fun _ => ?_))
def impl_copyBits.T5 : Bool × List (List Nat × List Nat) := (true, [([], []), ([], []), ([1], [1]), ([0, 2], [0, 2]), ([], []), ([4], [4]), ([5, 3], [5]), ([0, 1, 2, 3, 4, 5], []), ([7, 3, 6, 0, 1, 2, 3, 4, 5], [3, 7]), ([0, 1, 2, 3, 4, 5, 6, 7, 8], []), ([9, 6, 8, 0, 1, 2, 3, 4, 5, 6, 7, 8], [6, 9])])
def impl_copyBits.B5 : List Nat := [0, 0, 2, 7, 0, 16, 63, 63, 255, 511, 1023]
theorem impl_copyBits.tab5 : rtab .any (opsOf Try.f98 5) = impl_copyBits.T5 := by kernel_rfl
theorem impl_copyBits.bits5 : waitsOk impl_copyBits.T5.2 impl_copyBits.B5 = true := by kernel_rfl
set_option maxHeartbeats 8000000 in
set_option maxRecDepth 100000 in
theorem impl_copyBits.calls (k : Nat) (A0 : Option Addr) (c0 : Nat) (l0 : List (S82)) (r : List (S82)) (w : World) (hr0 : Kd.C k82 w A0 l0.length l0) (hc0 : l0.length ≤ c0) (h : impl_copyBits.f k l0 = some r) :
  Calls Try.prog 98 #[.slice A0 l0.length c0] w fun e w' => ∃ v0_ : Value, e = .returned (v0_) ∧ Kd.S k82 82 w' w.heap.size (fun _ => True) v0_ r ∧ Below w.heap.size w w' := by
 have hu82 := Try.underlying82
 have HR0 := am hr0
 have HC0 := am hc0
 clear hr0 hc0
 have HB := am (Below.refl w.heap.size w)
 have H : (impl_copyBits.l0 k (([] : List (S82))) l0 (l0.length : Int) 0) = some r := h
 clear h
 obtain ⟨y251, hy251⟩ : ∃ y_ : List (S82), y_ = (([] : List (S82))) := ⟨_, rfl⟩
 replace H : (impl_copyBits.l0 k y251 l0 (l0.length : Int) 0) = some r := by first | (rw [hy251]; with_reducible exact H) | (have H2_ := (Option.bind_some _ _).symm.trans H; rw [hy251]; with_reducible exact H2_) | (have H2_ := (Option.bind_some _ _).symm.trans H; with_reducible exact H2_) | with_reducible exact H | (rw [hy251]; exact H) | exact H
 have Ny251 := am hy251
 clear hy251
 have H' := am H
 clear H
 go_enter Try.func98, Try.ntmps98
 go_wp2_with (first | ((with_reducible refine gate_dst (N := 6) rfl ?_); refine Kd.S_lit k82 _ 82 ?hg (N := 6) ?hd (xs := ([] : List (S82))) (inner := []) (ok := fun _ => True) (okp := fun _ => True) ?hr ?hp (fun _ hk => hk) trivial (Below.refl _ _) (Nat.le_refl _) (by simp) ?_; (case hd => rfl); (case hg => rfl); (case hr => exact gs_); (case hp => exact (Reps.none _ _)); intro v252 w2 ho3 hb hg_ hnew_; clear hg_ hnew_; (first | rw [← Ny251.out] at ho3 | (simp only [Int.reduceToNat] at ho3; rw [← Ny251.out] at ho3)); have HO253 := am (Kd.S_lower ho3 (below_size (te0 HB.out))); replace HB := am (below_step (te0 HB.out) hb); clear hb ho3))
 go_loopg [3, 9] k (fun kq v3 v9 w' => ∃ (x3_1 : List (S82)) (x9_1 : Int), v9 = .int .i64 x9_1 ∧ Aside0 (impl_copyBits.l0 kq x3_1 l0 (l0.length : Int) x9_1 = some r) ∧ Aside0 (kq ≤ k) ∧ Aside0 (Kd.S k82 82 w' w.heap.size (fun _ => True) v3 x3_1) ∧ Aside0 (Below w.heap.size w w'))
 case atStart => exact ⟨(y251), (0), (be_), H', ⟨Nat.le_refl _⟩, ⟨(ts HO253.out)⟩, ⟨(te0 HB.out)⟩⟩
 case round =>
  clear H'; obtain ⟨x3_1, x9_1, rfl, HA, HK1, HO_3, HB⟩ := hrel
  cases gk with
  | zero => exact absurd HA.out (by simp [impl_copyBits.l0])
  | succ k1 =>
   have H := HA.out; clear HA; simp only [impl_copyBits.l0] at H
   by_cases c4 : x9_1 < (l0.length : Int)
   ·rw [if_pos c4] at H
    have c4b0 : decide (x9_1 < (l0.length : Int)) = true := decide_eq_true c4
    clear c4
    by_cases c5 : 0 ≤ x9_1
    rotate_left
    ·rw [if_neg c5] at H; exact absurd H (by simp)
    rw [if_pos c5] at H
    have c5b0 : decide (0 ≤ x9_1) = true := decide_eq_true c5
    clear c5
    by_cases c6 : x9_1 < (l0.length : Int)
    rotate_left
    ·rw [if_neg c6] at H; exact absurd H (by simp)
    rw [if_pos c6] at H
    have c6b0 : decide (x9_1 < (l0.length : Int)) = true := decide_eq_true c6
    clear c6; obtain ⟨y256, hy256⟩ : ∃ y_ : List ByteArray, y_ = (([] : List ByteArray)) := ⟨_, rfl⟩
    replace H : (if y256.length + ((rd_T82 l0 x9_1).f2).length < 8796093022208 then ((impl_copyInts.f ((rd_T82 l0 x9_1).f3)).bind fun t262 => (if x3_1.length < 1759218604441 then (impl_copyBits.l0 k1 (x3_1 ++ [(⟨(rd_T82 l0 x9_1).f0, (rd_T82 l0 x9_1).f1, (y256 ++ ((rd_T82 l0 x9_1).f2)), t262, (rd_T82 l0 x9_1).f4, (rd_T82 l0 x9_1).f5⟩ : S82)]) l0 (l0.length : Int) (wrap64 (x9_1 + 1))) else (none))) else (none)) = some r := by first | (rw [hy256]; with_reducible exact H) | (have H2_ := (Option.bind_some _ _).symm.trans H; rw [hy256]; with_reducible exact H2_) | (have H2_ := (Option.bind_some _ _).symm.trans H; with_reducible exact H2_) | with_reducible exact H | (rw [hy256]; exact H) | exact H
    have Ny256 := am hy256; clear hy256
    by_cases c7 : y256.length + ((rd_T82 l0 x9_1).f2).length < 8796093022208
    rotate_left
    ·rw [if_neg c7] at H; exact absurd H (by simp)
    rw [if_pos c7] at H; have LMc7 := am c7; clear c7; obtain ⟨y259, hy259⟩ : ∃ y_ : List ByteArray, y_ = (y256 ++ ((rd_T82 l0 x9_1).f2)) := ⟨_, rfl⟩
    replace H : ((impl_copyInts.f ((rd_T82 l0 x9_1).f3)).bind fun t262 => (if x3_1.length < 1759218604441 then (impl_copyBits.l0 k1 (x3_1 ++ [(⟨(rd_T82 l0 x9_1).f0, (rd_T82 l0 x9_1).f1, y259, t262, (rd_T82 l0 x9_1).f4, (rd_T82 l0 x9_1).f5⟩ : S82)]) l0 (l0.length : Int) (wrap64 (x9_1 + 1))) else (none))) = some r := by first | (rw [hy259]; with_reducible exact H) | (have H2_ := (Option.bind_some _ _).symm.trans H; rw [hy259]; with_reducible exact H2_) | (have H2_ := (Option.bind_some _ _).symm.trans H; with_reducible exact H2_) | with_reducible exact H | (rw [hy259]; exact H) | exact H
    have Ny259 := am hy259; clear hy259; replace H := bsi H; obtain ⟨t262, A8, H⟩ := H; (try dsimp only at H)
    by_cases c9 : x3_1.length < 1759218604441
    rotate_left
    ·rw [if_neg c9] at H; exact absurd H (by simp)
    rw [if_pos c9] at H; have LMc9 := am c9; clear c9; obtain ⟨y265, hy265⟩ : ∃ y_ : List (S82), y_ = (x3_1 ++ [(⟨(rd_T82 l0 x9_1).f0, (rd_T82 l0 x9_1).f1, y259, t262, (rd_T82 l0 x9_1).f4, (rd_T82 l0 x9_1).f5⟩ : S82)]) := ⟨_, rfl⟩
    replace H : (impl_copyBits.l0 k1 y265 l0 (l0.length : Int) (wrap64 (x9_1 + 1))) = some r := by first | (rw [hy265]; with_reducible exact H) | (have H2_ := (Option.bind_some _ _).symm.trans H; rw [hy265]; with_reducible exact H2_) | (have H2_ := (Option.bind_some _ _).symm.trans H; with_reducible exact H2_) | with_reducible exact H | (rw [hy265]; exact H) | exact H
    have Ny265 := am hy265; clear hy265
    have H' := am H
    clear H
    have p254 : 0 ≤ (x9_1 : Int) := dga
    have q254 : x9_1 < (l0.length : Int) := dga
    obtain ⟨ad254, A254_2, c254_2, A254_3, c254_3, e254, hx254_0, hx254_1, hx254_2, hx254_3, hx254_4, hx254_5, hl254_2, hi254_2, hl254_3, hi254_3⟩ := at_T82 HR0.out x9_1 p254 q254; cases e254; replace hx254_0 := (HB.out.cell (World.block_lt_of_cell? w _ hx254_0)).trans hx254_0; replace hx254_1 := (HB.out.cell (World.block_lt_of_cell? w _ hx254_1)).trans hx254_1; replace hx254_2 := (HB.out.cell (World.block_lt_of_cell? w _ hx254_2)).trans hx254_2; replace hx254_3 := (HB.out.cell (World.block_lt_of_cell? w _ hx254_3)).trans hx254_3; replace hx254_4 := (HB.out.cell (World.block_lt_of_cell? w _ hx254_4)).trans hx254_4; replace hx254_5 := (HB.out.cell (World.block_lt_of_cell? w _ hx254_5)).trans hx254_5; have HR254_2 := am hi254_2; have HC254_2 := am hl254_2; clear hi254_2 hl254_2; have HR254_3 := am hi254_3; have HC254_3 := am hl254_3; clear hi254_3 hl254_3; replace p254 := eq_true p254; replace q254 := eq_true q254
    try go_wp2_with (first | ((with_reducible refine gate_dst (N := 5) rfl ?_); refine bx (N := 5) (cs := #[.int .i64 0, .int .i64 0, .slice none 0 0, .slice none 0 0, .int .i64 0, .int .i64 0]) (t := 82) ?_; intro gb255 hg w10 hbox hb; replace HO_3 := am (Kd.S_below (Kd.S_elderB (ts HO_3.out) gb255 (Nat.le_of_eq hg.symm)) hb); have BK255 := am (hbox); have GW255 := am ((bs hg (below_size HB.out))); have GE255 := am ((bs hg (below_size HB.out))); replace HB := am (below_step (te0 HB.out) hb); clear hb hbox hg; obtain ⟨hcz11_0, hcz11_1, hcz11_2, hcz11_3, hcz11_4, hcz11_5⟩ := cl6 BK255.out; obtain ⟨hfz11_0, hfz11_1, hfz11_2, hfz11_3, hfz11_4, hfz11_5⟩ := fr6 BK255.out) | ((with_reducible refine gate_store (t := 82) (p := 5) rfl ?_); refine store_event (t := 82) (p := 5) (v := ?vo_w12) (w1 := ((((((w10.setCell ⟨gb255, 0, none⟩ (.int .i64 ((rd_T82 l0 x9_1).f0))).setCell ⟨gb255, 1, none⟩ (.int .i64 ((rd_T82 l0 x9_1).f1))).setCell ⟨gb255, 2, none⟩ (.slice A254_2 ((rd_T82 l0 x9_1).f2).length c254_2)).setCell ⟨gb255, 3, none⟩ (.slice A254_3 ((rd_T82 l0 x9_1).f3).length c254_3)).setCell ⟨gb255, 4, none⟩ (.int .i64 ((rd_T82 l0 x9_1).f4))).setCell ⟨gb255, 5, none⟩ (.int .i64 ((rd_T82 l0 x9_1).f5)))) ?hg ?ho ?hn ?hr ?_; (case ho => rfl); (case hg => rfl); (case hn => rfl); (case hr => exact gs_); intro w12 hw; replace HO_3 : Aside0 (Kd.S k82 82 w12 w.heap.size (fun k_ => k_ ≠ gb255) u3 x3_1) := ⟨(by rw [hw]; exact (by (with_reducible repeat (first | apply Kd.S_alloc | apply Kd.S_drewN | apply Kd.S_drew)); exact Kd.S_mono (Kd.S_far (p := ⟨gb255, 5, none⟩) (Kd.S_far (p := ⟨gb255, 4, none⟩) (Kd.S_far (p := ⟨gb255, 3, none⟩) (Kd.S_far (p := ⟨gb255, 2, none⟩) (Kd.S_far (p := ⟨gb255, 1, none⟩) (Kd.S_far (p := ⟨gb255, 0, none⟩) (Kd.S_mono HO_3.out (fun k_ hk => (⟨hk, hk.2⟩ : _ ∧ k_ ≠ gb255))) (fun _ hk => hk.2) (.int .i64 ((rd_T82 l0 x9_1).f0))) (fun _ hk => hk.2) (.int .i64 ((rd_T82 l0 x9_1).f1))) (fun _ hk => hk.2) (.slice A254_2 ((rd_T82 l0 x9_1).f2).length c254_2)) (fun _ hk => hk.2) (.slice A254_3 ((rd_T82 l0 x9_1).f3).length c254_3)) (fun _ hk => hk.2) (.int .i64 ((rd_T82 l0 x9_1).f4))) (fun _ hk => hk.2) (.int .i64 ((rd_T82 l0 x9_1).f5))) (fun _ hk => hk.1.2)))⟩; replace BK255 : Aside0 (w12.heap[gb255]? = some (.cells #[.int .i64 ((rd_T82 l0 x9_1).f0), .int .i64 ((rd_T82 l0 x9_1).f1), .slice A254_2 ((rd_T82 l0 x9_1).f2).length c254_2, .slice A254_3 ((rd_T82 l0 x9_1).f3).length c254_3, .int .i64 ((rd_T82 l0 x9_1).f4), .int .i64 ((rd_T82 l0 x9_1).f5)] 82 (0, 0))) := ⟨(by rw [hw]; exact (tp0 BK255.out))⟩; replace HB : Aside0 (Below w.heap.size w w12) := ⟨(by rw [hw]; exact (te1 HB.out GE255.out))⟩; clear hw))
    replace HO_3 := am (Kd.S_drew HO_3.out); replace BK255 := am (blk_drew BK255.out); replace HB := am (below_drew1 HB.out); refine start_ (n := 11) (S := fun w' => w'.cell? ⟨gb255, 0, none⟩ = some (.int .i64 ((rd_T82 l0 x9_1).f0)) ∧ w'.cell? ⟨gb255, 1, none⟩ = some (.int .i64 ((rd_T82 l0 x9_1).f1)) ∧ w'.cell? ⟨gb255, 2, none⟩ = some (.slice A254_2 ((rd_T82 l0 x9_1).f2).length c254_2) ∧ w'.cell? ⟨gb255, 3, none⟩ = some (.slice A254_3 ((rd_T82 l0 x9_1).f3).length c254_3) ∧ w'.cell? ⟨gb255, 4, none⟩ = some (.int .i64 ((rd_T82 l0 x9_1).f4)) ∧ w'.cell? ⟨gb255, 5, none⟩ = some (.int .i64 ((rd_T82 l0 x9_1).f5))) (ds := [8, 10]) #[false, false, false, false, false, false, false, false, false, false, false] gk_ rfl rfl ⟨(blk_cell BK255.out 0).trans rfl, (blk_cell BK255.out 1).trans rfl, (blk_cell BK255.out 2).trans rfl, (blk_cell BK255.out 3).trans rfl, (blk_cell BK255.out 4).trans rfl, (blk_cell BK255.out 5).trans rfl⟩ (fun hHeld => ?_); refine with_tabW impl_copyBits.tab5 impl_copyBits.bits5 (fun HT_ HW_ => ?_); generalize w12.drew = w13 at HO_3 BK255 HB hHeld ⊢; refine pu_ 1 14 HT_ ?_; refine pu_ 4 17 HT_ ?_; refine ta_ 2 15 HT_ HW_ hHeld ?_; refine ta_ 5 18 HT_ HW_ hHeld ?_; refine one_ (i := 0) (N := some 13) #[true, true, true, false, true, true, false, false, false, false, false] rfl rfl (one_of HT_.out gk_) (by decide) (fun K hK => ?_); refine Kd.R_lit_step Kd.string _ 9 ?hg (N := 13) ?hd (xs := ([] : List ByteArray)) (inner := []) (ok := fun _ => True) (okp := fun _ => True) ?hr ?hp (fun _ hk => hk) trivial (Below.refl _ _) (Nat.le_refl _) (by simp) ?_; (case hd => rfl); (case hg => rfl); (case hr => exact gs_); (case hp => exact (Reps.none _ _)); intro v257 w14 ho15 hb hg_ hnew_; clear hg_ hnew_
    (first | rw [← Ny256.out] at ho15 | (simp only [Int.reduceToNat] at ho15; rw [← Ny256.out] at ho15))
    replace HO_3 := am (Kd.S_elder' (ts HO_3.out) (Kd.R_base ho15) hb); have HO258 := am (Kd.R_lower ho15 (below_size (te1 HB.out GE255.out))); replace BK255 := am (bb BK255.out hb); replace HB := am (below_step (te1 HB.out GE255.out) hb); clear hb ho15; refine hK.out _ _ ⟨(blk_cell BK255.out 0).trans rfl, (blk_cell BK255.out 1).trans rfl, (blk_cell BK255.out 2).trans rfl, (blk_cell BK255.out 3).trans rfl, (blk_cell BK255.out 4).trans rfl, (blk_cell BK255.out 5).trans rfl⟩ (fun hHeld => ?_); clear hK K; refine norm_ (a' := ?_) ?_ ?_; rotate_left
    ·show Act.put _ (some 13) _ = _; simp only [Act.put, List.setIfInBounds_toArray, List.set_cons_zero, List.set_cons_succ, i64_w, i32_w]; rfl
    refine one_ (i := 3) (N := some 16) #[true, true, true, true, true, true, false, false, false, false, false] rfl rfl (one_of HT_.out gk_) (by decide) (fun K hK => ?_); refine Kd.R_append_rows_step Kd.string (w0 := w) w.heap.size (by rfl) (.tmp 13) (.tmp 15) 25 9 (.string ⟨#[]⟩) 16 rfl Try.underlying25 info9 rfl (by decide) (by omega) v257 y256 ((rd_T82 l0 x9_1).f2) _ _ _ (fun _ => True) (fun _ => False) rfl rfl ?aO ?aR (fun _ _ h => h) (fun _ h => h.elim) ?aF ?aB ?aS ?aL ?_
    (case aR => repeat (first | exact (Kd.C_below HR254_2.out HB.out) | (with_reducible refine Kd.C_alloc ?_ _) | (with_reducible refine Kd.C_drewN ?_ _) | (with_reducible refine Kd.C_drew ?_)))
    (case aB => exact (te1 HB.out GE255.out))
    (case aF => exact (fun _ _ => trivial))
    (case aO => (with_reducible repeat (first | apply Kd.R_alloc | apply Kd.R_drewN | apply Kd.R_drew)); exact HO258.out)
    (case aS => exact (below_size (te1 HB.out GE255.out)))
    (case aL => have := LMc7.out; omega)
    intro v260 w16 ho hb hg hat; rw [← Ny259.out] at ho; replace HO_3 := am (Kd.S_after (ok := (fun k_ => k_ ≠ gb255)) (ts HO_3.out) hg hat); replace BK255 := am (blk_grown (g := gb255) (o := .cells #[.int .i64 ((rd_T82 l0 x9_1).f0), .int .i64 ((rd_T82 l0 x9_1).f1), .slice A254_2 ((rd_T82 l0 x9_1).f2).length c254_2, .slice A254_3 ((rd_T82 l0 x9_1).f3).length c254_3, .int .i64 ((rd_T82 l0 x9_1).f4), .int .i64 ((rd_T82 l0 x9_1).f5)] 82 (0, 0)) (tb BK255.out) hg (Kd.R_ne HO258.out BK255.out (by decide))); replace HB := am (hb); have HO261 := am (ho); clear HO258; clear ho hb hg hat; refine hK.out _ _ ⟨(blk_cell BK255.out 0).trans rfl, (blk_cell BK255.out 1).trans rfl, (blk_cell BK255.out 2).trans rfl, (blk_cell BK255.out 3).trans rfl, (blk_cell BK255.out 4).trans rfl, (blk_cell BK255.out 5).trans rfl⟩ (fun hHeld => ?_); clear hK K; refine norm_ (a' := ?_) ?_ ?_; rotate_left
    ·show Act.put _ (some 16) _ = _; simp only [Act.put, List.setIfInBounds_toArray, List.set_cons_zero, List.set_cons_succ, i64_w, i32_w]; rfl
    refine pu_ 7 20 HT_ ?_; refine one_ (i := 6) (N := some 19) #[true, true, true, true, true, true, true, true, false, false, false] rfl rfl (one_of HT_.out gk_) (by decide) (fun K hK => ?_); refine goes_ Try.func138 gk_ rfl #[.slice A254_3 ((rd_T82 l0 x9_1).f3).length c254_3] (by rfl) rfl rfl gm_ ?_
    with_reducible refine (impl_copyInts.calls _ _ ((rd_T82 l0 x9_1).f3) t262 _ ?side1 ?side2 A8.out).mono ?_
    (case side1 => repeat (first | exact (Kd.C_below HR254_3.out HB.out) | (with_reducible refine Kd.C_alloc ?_ _) | (with_reducible refine Kd.C_drewN ?_ _) | (with_reducible refine Kd.C_drew ?_)))
    (case side2 => exact HC254_3.out)
    rintro e w17 ⟨v263, rfl, ho0, hb⟩; refine ⟨_, rfl, ?_⟩; replace HO_3 := am (Kd.S_elder' (ts HO_3.out) (Kd.R_base ho0) hb); replace HO261 := am (Kd.R_below (tr HO261.out) hb); have HO264 := am (Kd.R_lower ho0 (below_size (te1 HB.out GE255.out))); replace BK255 := am (bb BK255.out hb); replace HB := am (below_step (te1 HB.out GE255.out) hb); (try clear hb); (try clear hb2); (try clear hk); (try clear hi); (try clear hl); (try clear ho0); obtain ⟨Ao18, co18, eo18⟩ := Kd.R_slice HO261.out
    (first | subst eo18 | (injection eo18 with f1_ f2_ f3_; have f4_ := f1_.symm; have f5_ := f3_.symm; clear f1_ f2_ f3_; subst f4_; subst f5_))
    obtain ⟨Ao20, co20, eo20⟩ := Kd.R_slice HO264.out
    (first | subst eo20 | (injection eo20 with f1_ f2_ f3_; have f4_ := f1_.symm; have f5_ := f3_.symm; clear f1_ f2_ f3_; subst f4_; subst f5_))
    refine hK.out _ _ ⟨(blk_cell BK255.out 0).trans rfl, (blk_cell BK255.out 1).trans rfl, (blk_cell BK255.out 2).trans rfl, (blk_cell BK255.out 3).trans rfl, (blk_cell BK255.out 4).trans rfl, (blk_cell BK255.out 5).trans rfl⟩ (fun hHeld => ?_); clear hK K; refine norm_ (a' := ?_) ?_ ?_; rotate_left
    ·show Act.put _ (some 19) _ = _; simp only [Act.put, List.setIfInBounds_toArray, List.set_cons_zero, List.set_cons_succ, i64_w, i32_w]; rfl
    refine last_ (i := 8) (N := none) #[true, true, true, true, true, true, true, true, true, false, false] rfl rfl (one_of HT_.out gk_) (by decide) (fun K hK => ?_)
    have hs19 : w17.cell? ⟨gb255, 2, none⟩ = some (.slice A254_2 ((rd_T82 l0 x9_1).f2).length c254_2) := (blk_cell BK255.out 2).trans rfl
    have hfs19 := blk_frozen BK255.out 2; refine skip_ (w1 := ?_) (by rfl) rfl ?_ ?_; rotate_left
    ·go_simp; rfl
    refine hK.out _ _ ?_; clear hK K; refine pu_ 9 21 HT_ ?_; refine last_ (i := 10) (N := none) #[true, true, true, true, true, true, true, true, true, true, true] rfl rfl (one_of HT_.out gk_) (by decide) (fun K hK => ?_)
    have hs21 : w17.cell? ⟨gb255, 3, none⟩ = some (.slice A254_3 ((rd_T82 l0 x9_1).f3).length c254_3) := (blk_cell BK255.out 3).trans rfl
    have hfs21 := blk_frozen BK255.out 3; refine skip_ (w1 := ?_) (by rfl) rfl ?_ ?_; rotate_left
    ·go_simp; rfl
    refine hK.out _ _ ?_; clear hK K; refine done_ (done_of HT_.out gk_) ?_
    have n0_ : Aside0 (Kd.S k82 82 ((w17.setCell ⟨gb255, 2, none⟩ (.slice Ao18 y259.length co18)).setCell ⟨gb255, 3, none⟩ (.slice Ao20 t262.length co20)) w.heap.size (fun k_ => some k_ ≠ (.slice Ao18 y259.length co18 : Value).ownBlock ∧ some k_ ≠ (.slice Ao20 t262.length co20 : Value).ownBlock ∧ k_ ≠ gb255) u3 x3_1) := ⟨(by (with_reducible repeat (first | apply Kd.S_alloc | apply Kd.S_drewN | apply Kd.S_drew)); exact Kd.S_mono (Kd.S_far (p := ⟨gb255, 3, none⟩) (Kd.S_far (p := ⟨gb255, 2, none⟩) (Kd.S_mono HO_3.out (fun k_ hk => (⟨hk, hk.1.1⟩ : _ ∧ k_ ≠ gb255))) (fun _ hk => hk.2) (.slice Ao18 y259.length co18)) (fun _ hk => hk.2) (.slice Ao20 t262.length co20)) (fun _ hk => ⟨hk.1.1.2, ⟨hk.1.2, hk.1.1.1⟩⟩))⟩
    have n1_ : Aside0 (Kd.R Kd.string 9 ((w17.setCell ⟨gb255, 2, none⟩ (.slice Ao18 y259.length co18)).setCell ⟨gb255, 3, none⟩ (.slice Ao20 t262.length co20)) w.heap.size (fun _ => True) (.slice Ao18 y259.length co18) y259) := ⟨(by (with_reducible repeat (first | apply Kd.R_alloc | apply Kd.R_drewN | apply Kd.R_drew)); exact Kd.R_mono (Kd.R_far (p := ⟨gb255, 3, none⟩) (Kd.R_far (p := ⟨gb255, 2, none⟩) (Kd.R_types HO261.out BK255.out (by decide)) (fun _ hk => hk.2) (.slice Ao18 y259.length co18)) (fun _ hk => hk.2) (.slice Ao20 t262.length co20)) (fun _ hk => trivial))⟩
    have n2_ : Aside0 (Kd.R (Kd.int .i64) 3 ((w17.setCell ⟨gb255, 2, none⟩ (.slice Ao18 y259.length co18)).setCell ⟨gb255, 3, none⟩ (.slice Ao20 t262.length co20)) w.heap.size (fun _ => True) (.slice Ao20 t262.length co20) t262) := ⟨(by (with_reducible repeat (first | apply Kd.R_alloc | apply Kd.R_drewN | apply Kd.R_drew)); exact Kd.R_mono (Kd.R_far (p := ⟨gb255, 3, none⟩) (Kd.R_far (p := ⟨gb255, 2, none⟩) (Kd.R_types HO264.out BK255.out (by decide)) (fun _ hk => hk.2) (.slice Ao18 y259.length co18)) (fun _ hk => hk.2) (.slice Ao20 t262.length co20)) (fun _ hk => trivial))⟩
    have n3_ : Aside0 (((w17.setCell ⟨gb255, 2, none⟩ (.slice Ao18 y259.length co18)).setCell ⟨gb255, 3, none⟩ (.slice Ao20 t262.length co20)).heap[gb255]? = some (.cells #[.int .i64 ((rd_T82 l0 x9_1).f0), .int .i64 ((rd_T82 l0 x9_1).f1), .slice Ao18 y259.length co18, .slice Ao20 t262.length co20, .int .i64 ((rd_T82 l0 x9_1).f4), .int .i64 ((rd_T82 l0 x9_1).f5)] 82 (0, 0))) := ⟨(tp0 BK255.out)⟩
    have n4_ : Aside0 (Below w.heap.size w ((w17.setCell ⟨gb255, 2, none⟩ (.slice Ao18 y259.length co18)).setCell ⟨gb255, 3, none⟩ (.slice Ao20 t262.length co20))) := ⟨(te1 HB.out GE255.out)⟩
    (try clear HO_3); (try clear HO261); (try clear HO264); (try clear BK255); (try clear HB); generalize ((w17.setCell ⟨gb255, 2, none⟩ (.slice Ao18 y259.length co18)).setCell ⟨gb255, 3, none⟩ (.slice Ao20 t262.length co20)) = w22 at n0_ n1_ n2_ n3_ n4_ ⊢; have HO_3 := n0_; have HO261 := n1_; have HO264 := n2_; have BK255 := n3_; have HB := n4_; clear n0_ n1_ n2_ n3_ n4_; obtain ⟨hcz23_0, hcz23_1, hcz23_2, hcz23_3, hcz23_4, hcz23_5⟩ := cl6 BK255.out; obtain ⟨hfz23_0, hfz23_1, hfz23_2, hfz23_3, hfz23_4, hfz23_5⟩ := fr6 BK255.out
    try go_wp2_with (first | ((with_reducible refine gate_builtin (b := .append) (xs := #[.tmp 22, .tmp 24]) rfl ?_); at_builtin; refine Kd.S_append k82 (w0 := w) w.heap.size rfl (.tmp 22) (.tmp 24) 68 82 (.agg #[(.int .i64 0), (.int .i64 0), (.slice none 0 0), (.slice none 0 0), (.int .i64 0), (.int .i64 0)]) 80 rfl Try.underlying68 info82 rfl (by decide) (by omega) u3 x3_1 (⟨(rd_T82 l0 x9_1).f0, (rd_T82 l0 x9_1).f1, y259, t262, (rd_T82 l0 x9_1).f4, (rd_T82 l0 x9_1).f5⟩ : S82) [.int .i64 ((rd_T82 l0 x9_1).f0), .int .i64 ((rd_T82 l0 x9_1).f1), .slice Ao18 y259.length co18, .slice Ao20 t262.length co20, .int .i64 ((rd_T82 l0 x9_1).f4), .int .i64 ((rd_T82 l0 x9_1).f5)] (fun k_ => k_ ≠ gb255) (fun k_ => some k_ = (.slice Ao18 y259.length co18 : Value).ownBlock ∨ some k_ = (.slice Ao20 t262.length co20 : Value).ownBlock) rfl rfl ?aP (fun k_ hk_ => hk_.elim (fun h_ => ((Kd.R_mono (ok' := fun k_ => ((fun k_ => k_ ≠ gb255)) k_ ∧ some k_ ≠ (u3 : Value).ownBlock) (Kd.R_types (Kd.R_apart' (HO261.out) (Kd.S_typed HO_3.out) (by decide)) BK255.out (by decide)) (fun k_ hk => ⟨hk.2, hk.1.2⟩))).1 k_ h_.symm) (fun h_ => ((Kd.R_mono (ok' := fun k_ => ((fun k_ => k_ ≠ gb255)) k_ ∧ some k_ ≠ (u3 : Value).ownBlock) (Kd.R_types (Kd.R_apart' (HO264.out) (Kd.S_typed HO_3.out) (by decide)) BK255.out (by decide)) (fun k_ hk => ⟨hk.2, hk.1.2⟩))).1 k_ h_.symm)) ?aF ?aO ?aB ?aS ?aL ?_; (case aP => exact k82_mkM _ _ _ (⟨(rd_T82 l0 x9_1).f0, (rd_T82 l0 x9_1).f1, y259, t262, (rd_T82 l0 x9_1).f4, (rd_T82 l0 x9_1).f5⟩ : S82) (Kd.R_mono (Kd.R_tight rfl (Kd.R_mono (ok' := fun k_ => ((fun k_ => k_ ≠ gb255)) k_ ∧ some k_ ≠ (u3 : Value).ownBlock) (Kd.R_types (Kd.R_apart' (HO261.out) (Kd.S_typed HO_3.out) (by decide)) BK255.out (by decide)) (fun k_ hk => ⟨hk.2, hk.1.2⟩))) (fun _ h_ => Or.inl h_)) (Kd.R_mono (Kd.R_tight rfl (Kd.R_mono (ok' := fun k_ => ((fun k_ => k_ ≠ gb255)) k_ ∧ some k_ ≠ (u3 : Value).ownBlock) (Kd.R_types (Kd.R_apart' (HO264.out) (Kd.S_typed HO_3.out) (by decide)) BK255.out (by decide)) (fun k_ hk => ⟨hk.2, hk.1.2⟩))) (fun _ h_ => Or.inr (h_)))); (case aB => exact (te1 HB.out GE255.out)); (case aF => exact (fun k_ hk => Kd.freshB (g := gb255) (o := .cells #[.int .i64 ((rd_T82 l0 x9_1).f0), .int .i64 ((rd_T82 l0 x9_1).f1), .slice Ao18 y259.length co18, .slice Ao20 t262.length co20, .int .i64 ((rd_T82 l0 x9_1).f4), .int .i64 ((rd_T82 l0 x9_1).f5)] 82 (0, 0)) (tb BK255.out) k_ hk)); (case aO => (with_reducible repeat (first | apply Kd.S_alloc | apply Kd.S_drewN | apply Kd.S_drew)); exact Kd.S_mono HO_3.out (fun k_ hk => ⟨hk.2.2, fun e_ => e_.elim (fun h_ => hk.1 h_) (fun h_ => hk.2.1 h_)⟩)); (case aS => exact (below_size (te1 HB.out GE255.out))); (case aL => have := LMc9.out; omega); intro v266 w24 ho hb hg hat; rw [← Ny265.out] at ho; replace BK255 := am (blk_grown (g := gb255) (o := .cells #[.int .i64 ((rd_T82 l0 x9_1).f0), .int .i64 ((rd_T82 l0 x9_1).f1), .slice Ao18 y259.length co18, .slice Ao20 t262.length co20, .int .i64 ((rd_T82 l0 x9_1).f4), .int .i64 ((rd_T82 l0 x9_1).f5)] 82 (0, 0)) (tb BK255.out) hg (Kd.S_away HO_3.out (fun _ hk => hk.2.2))); replace HB := am (hb); have HO267 := am (ho); clear HO_3; clear HO261; clear HO264; clear ho hb hg hat))
    go_roundg k1
    case measure => have := HK1.out; omega
    case rel => exact ⟨(y265), (wrap64 (x9_1 + 1)), (be_), H', ⟨(by have := HK1.out; omega)⟩, ⟨(by (with_reducible repeat (first | apply Kd.S_alloc | apply Kd.S_drewN | apply Kd.S_drew)); exact Kd.S_mono HO267.out (fun _ hk => trivial))⟩, ⟨(te1 HB.out GE255.out)⟩⟩
   ·rw [if_neg c4] at H
    have c4b0 : decide (x9_1 < (l0.length : Int)) = false := decide_eq_false c4
    clear c4; obtain rfl := Option.some.inj H
    go_wp2
    go_ret; exact ⟨_, B5x10_, (ts HO_3.out), (te0 HB.out)⟩

/-! ### impl_Bits: function 99 -/
def impl_Bits.l0 : Nat → List S82 → Int → Int → Int → Int → Bool → ByteArray → Int → Option (Int)
 | 0, _, _, _, _, _, _, _, _ => none
 | k + 1, l, d0, d1, d2, d3, d4, d5, j => if j < (l.length : Int) then (if 0 ≤ j then (if ((rd_T82 l j).f0 == d0 && (rd_T82 l j).f1 == d2) = true then (some j) else (impl_Bits.l0 k l d0 d1 d2 d3 d4 d5 (wrap64 (j + 1)))) else (none)) else (some (-1))
def impl_Bits.f (k : Nat) (l0 : List S82) (d0 d1 d2 d3 : Int) (d4 : Bool) (d5 : ByteArray) : Option (Int) := impl_Bits.l0 k l0 d0 d1 d2 d3 d4 d5 0
theorem impl_Bits.mono_l : ∀ k, (∀ y0 y1 y2 y3 y4 y5 y6 y7, LeO (impl_Bits.l0 k y0 y1 y2 y3 y4 y5 y6 y7) (impl_Bits.l0 (k + 1) y0 y1 y2 y3 y4 y5 y6 y7))
 | 0 => fun _ _ _ _ _ _ _ _ r h => by simp [impl_Bits.l0] at h
 | k + 1 => by
  have ih0 := impl_Bits.mono_l k; intro y0 y1 y2 y3 y4 y5 y6 y7
  unfold impl_Bits.l0
  repeat' first
  | (with_reducible exact ih0 _ _ _ _ _ _ _ _)
  | (with_reducible exact LeO.refl _)
  | (with_reducible exact LeO.none _)
  | (with_reducible refine LeO.ite ?_ ?_)
  | exact ih0 _ _ _ _ _ _ _ _
  | exact LeO.none _
  | refine LeO.ite ?_ ?_
theorem impl_Bits.mono : ∀ a0 a1 a2 a3 a4 a5 a6 k, LeO (impl_Bits.f k a0 a1 a2 a3 a4 a5 a6) (impl_Bits.f (k + 1) a0 a1 a2 a3 a4 a5 a6) := by
 intro a0 a1 a2 a3 a4 a5 a6 k
 exact impl_Bits.mono_l k _ _ _ _ _ _ _ _
set_option maxHeartbeats 8000000 in
set_option maxRecDepth 100000 in
theorem impl_Bits.asked (g : Nat) (d0 d1 d2 d3 : Int) (d4 : Bool) (d5 : ByteArray) (x0 x1 x4 x5 : Int) (A2 A3 : Option Addr) (n2 n3 c2 c3 : Nat) (w : World) (hb : w.heap[g]? = some (.cells #[.int .i64 d0, .int .i64 d1, .int .i64 d2, .int .i64 d3, .bool d4, .string d5] 62 (0, 0))) :
  Calls Try.prog 100 (#[.agg #[.int .i64 x0, .int .i64 x1, .slice A2 n2 c2, .slice A3 n3 c3, .int .i64 x4, .int .i64 x5]] ++ #[.pointer (some ⟨g, 0, none⟩)]) w fun e w' => e = .returned (.bool (x0 == d0 && x1 == d2)) ∧ Below w.heap.size w w' := by
 have hu82 := Try.underlying82
 have hu62 := Try.underlying62
 have BK := am hb
 clear hb
 cases h0 : (x0 == d0) with
 | false =>
  go_enter Try.func100, Try.ntmps100
  go_wp2_with (first | ((with_reducible refine gate_dst (N := 2) rfl ?_); refine bx (N := 2) (cs := #[.int .i64 x0, .int .i64 x1, .slice A2 n2 c2, .slice A3 n3 c3, .int .i64 x4, .int .i64 x5]) (t := 82) ?_; intro gb hg w2 hbox hb; replace BK := am (blk_below BK.out hb); have BX := am hbox; have HB := am hb; clear hb hbox hg; have hc0 := (blk_cell BX.out 0).trans rfl; have hc1 := (blk_cell BX.out 1).trans rfl; have hd0 := (blk_cell BK.out 0).trans rfl; have hd2 := (blk_cell BK.out 2).trans rfl))
  go_ret; exact ⟨rfl, HB.out⟩
 | true =>
  go_enter Try.func100, Try.ntmps100
  go_wp2_with (first | ((with_reducible refine gate_dst (N := 2) rfl ?_); refine bx (N := 2) (cs := #[.int .i64 x0, .int .i64 x1, .slice A2 n2 c2, .slice A3 n3 c3, .int .i64 x4, .int .i64 x5]) (t := 82) ?_; intro gb hg w2 hbox hb; replace BK := am (blk_below BK.out hb); have BX := am hbox; have HB := am hb; clear hb hbox hg; have hc0 := (blk_cell BX.out 0).trans rfl; have hc1 := (blk_cell BX.out 1).trans rfl; have hd0 := (blk_cell BK.out 0).trans rfl; have hd2 := (blk_cell BK.out 2).trans rfl))
  go_ret; exact ⟨rfl, HB.out⟩
set_option maxHeartbeats 8000000 in
set_option maxRecDepth 100000 in
theorem impl_Bits.calls (k : Nat) (A0 : Option Addr) (c0 : Nat) (l0 : List S82) (g : Nat) (d0 d1 d2 d3 : Int) (d4 : Bool) (d5 : ByteArray) (r : Int) (w : World) (hr0 : Kd.C k82 w A0 l0.length l0) (hc0 : l0.length ≤ c0) (hb : w.heap[g]? = some (.cells #[.int .i64 d0, .int .i64 d1, .int .i64 d2, .int .i64 d3, .bool d4, .string d5] 62 (0, 0))) (h : impl_Bits.f k l0 d0 d1 d2 d3 d4 d5 = some r) :
  Calls Try.prog 99 #[.slice A0 l0.length c0, .func (.func 100) #[] #[.pointer (some ⟨g, 0, none⟩)]] w fun e w' => e = .returned (.int .i64 r) ∧ Below w.heap.size w w' := by
 have hu82 := Try.underlying82
 have HR0 := am hr0
 have HC0 := am hc0
 have BK := am hb
 clear hr0 hc0 hb
 have H' := am (show impl_Bits.l0 k l0 d0 d1 d2 d3 d4 d5 0 = some r from h)
 clear h
 go_enter Try.func99, Try.ntmps99
 go_wp2
 go_loopg [8] k (fun kq v8 w' => ∃ (j : Int), v8 = .int .i64 j ∧ Aside0 (impl_Bits.l0 kq l0 d0 d1 d2 d3 d4 d5 j = some r) ∧ Aside0 (kq ≤ k) ∧ Aside0 (Below w.heap.size w w'))
 case atStart => exact ⟨0, (be_), H', ⟨Nat.le_refl _⟩, ⟨Below.refl _ _⟩⟩
 case round =>
  clear H'; obtain ⟨j, rfl, HA, HK1, HB⟩ := hrel
  cases gk with
  | zero => exact absurd HA.out (by simp [impl_Bits.l0])
  | succ k1 =>
   have H := HA.out; clear HA; simp only [impl_Bits.l0] at H
   by_cases c1 : j < (l0.length : Int)
   ·rw [if_pos c1] at H
    by_cases c2 : 0 ≤ j
    rotate_left
    ·rw [if_neg c2] at H; exact absurd H (by simp)
    rw [if_pos c2] at H; obtain ⟨ad, A2, c2', A3, c3', e1, hx0, hx1, hx2, hx3, hx4, hx5, hl2, hg2, hl3, hg3⟩ := at_T82 (Kd.C_below HR0.out HB.out) j c2 c1; clear hl2 hg2 hl3 hg3; subst e1; have c1b := eq_true c1; have c2b := eq_true c2; clear c1 c2
    by_cases c3 : ((rd_T82 l0 j).f0 == d0 && (rd_T82 l0 j).f1 == d2) = true
    ·rw [if_pos c3] at H; obtain rfl := Option.some.inj H; have hq := am c3; clear c3 H
     go_wp2_with (go_at_call 100; refine (impl_Bits.asked g d0 d1 d2 d3 d4 d5 _ _ _ _ _ _ _ _ _ _ _ (blk_below BK.out HB.out)).mono ?_; rintro e w2 ⟨rfl, hb⟩; rw [hq.out]; replace HB := am (below_step HB.out hb); clear hb)
     go_ret; exact ⟨rfl, HB.out⟩
    ·rw [if_neg c3] at H; have hq := am (Bool.eq_false_iff.mpr c3)
     have H' := am H
     clear c3 H
     go_wp2_with (go_at_call 100; refine (impl_Bits.asked g d0 d1 d2 d3 d4 d5 _ _ _ _ _ _ _ _ _ _ _ (blk_below BK.out HB.out)).mono ?_; rintro e w2 ⟨rfl, hb⟩; rw [hq.out]; replace HB := am (below_step HB.out hb); clear hb)
     go_roundg k1
     case measure => have := HK1.out; omega
     case rel => exact ⟨wrap64 (j + 1), (be_), H', ⟨(by have := HK1.out; omega)⟩, ⟨HB.out⟩⟩
   ·rw [if_neg c1] at H; obtain rfl := Option.some.inj H; have c1b := eq_false c1; clear c1 H
    go_wp2
    go_ret; exact ⟨rfl, HB.out⟩

end Go.Proofs.Ytmknnoeggkgkgaa.QFnParts
