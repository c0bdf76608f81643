/- Functions that a law reaches, as functions of Lean, and the walks that show that the calls come to their answers: written by a program of this project out of the translation. No condition. -/
import Derived.Test.YtmknnoeggkgkgaaQFnBitsx0
import Derived.Test.YtmknnoeggkgkgaaQFnBitsx3
import Derived.Test.YtmknnoeggkgkgaaVFnBitshort4
import Derived.Test.YtmknnoeggkgkgaaVFnBitshort3
import Derived.Test.YtmknnoeggkgkgaaVFnBitsShort2
import Derived.Test.YtmknnoeggkgkgaaVFnBitsShort
import Derived.Test.YtmknnoeggkgkgaaVFnBitshort8
namespace Go.Proofs.Ytmknnoeggkgkgaa.QFnBits
open Go.RowKit Go.Proofs.YtmknnoeggkgkgaaW.PrintWords Go.Proofs.YtmknnoeggkgkgaaW.PrintLast Go.Proofs.YtmknnoeggkgkgaaW.PrintMore Go.Proofs.Ytmknnoeggkgkgaa.Short
attribute [local go_sem] max2_int min2_int max_two min_two max_three min_three max_four min_four   -- for this text's walks alone
set_option linter.unusedVariables false
set_option linter.unusedSimpArgs false

theorem B4x0_ {p : Prop} (h : p := by repeat (first | (with_reducible first | exact HI0.out | apply IsS159.alloc | apply IsS159.drewN | apply IsS159.drew | apply IsS159.set_1 | apply IsS159.set_2) | exact HI0.out)) : p := h
theorem B4x8_ {p : Prop} (h : p := by first | rfl | (simp [errW_none, errW_some] <;> rfl) | (simp [*, errW_none, errW_some] <;> rfl)) : p := h
theorem B4x10_ {p : Prop} (h : p := by rw [hw]; exact (by (with_reducible repeat (first | apply Kd.R_alloc | apply Kd.R_drewN | apply Kd.R_drew)); exact Kd.R_mono (Kd.R_far (p := ⟨gb162, 5, none⟩) (Kd.R_far (p := ⟨gb162, 4, none⟩) (Kd.R_far (p := ⟨gb162, 3, none⟩) (Kd.R_far (p := ⟨gb162, 2, none⟩) (Kd.R_far (p := ⟨gb162, 1, none⟩) (Kd.R_far (p := ⟨gb162, 0, none⟩) (Kd.R_mono HO_6.out (fun k_ hk => (⟨hk, hk.2⟩ : _ ∧ k_ ≠ gb162))) (fun _ hk => hk.2) (.int .i64 a0_0)) (fun _ hk => hk.2) (.int .i64 a0_1)) (fun _ hk => hk.2) (.int .i64 a0_2)) (fun _ hk => hk.2) (.int .i64 a0_3)) (fun _ hk => hk.2) (.bool a0_4)) (fun _ hk => hk.2) (.string a0_5)) (fun _ hk => ⟨hk.1.1, hk.1.2⟩))) : p := h
/-! ### spec_CutDgram: function 37 -/
mutual
def spec_CutDgram.j0 : Nat → Int → Bool → Int → Int → Int → Int → Bool → ByteArray → Option ((List (S62)) × Bool)
 | 0, _, _, _, _, _, _, _, _ => none
 | k + 1, x1, x17, x154000, x154001, x154002, x154003, x154004, x154005 => if x17 = true then (some ((([] : List (S62))), false)) else (spec_CutDgram.l0 k (wrap64 ((wrap64 (Int.tdiv x1 8)) * 8)) (([] : List (S62))) 0 x154000 x154001 x154002 x154003 x154004 x154005)
def spec_CutDgram.l0 : Nat → Int → List (S62) → Int → Int → Int → Int → Int → Bool → ByteArray → Option ((List (S62)) × Bool)
 | 0, _, _, _, _, _, _, _, _, _ => none
 | k + 1, x1, x6, x7, x154000, x154001, x154002, x154003, x154004, x154005 => if x7 < (x154005.size : Int) then (if (wrap64 (x7 + x1)) ≥ (x154005.size : Int) then (if 0 ≤ x7 then (if x7 ≤ (x154005.size : Int) then (if (x154005.size : Int) ≤ (x154005.size : Int) then (if x6.length < 2513169434916 then (spec_CutDgram.l0 k x1 (x6 ++ [(⟨x154000, x154001, x154002, wrap64 (x154003 + x7), x154004, x154005.extract (x7 : Int).toNat ((x154005.size : Int) : Int).toNat⟩ : S62)]) (wrap64 (x7 + x1)) x154000 x154001 x154002 x154003 x154004 x154005) else (none)) else (none)) else (none)) else (none)) else (if 0 ≤ x7 then (if x7 ≤ (wrap64 (x7 + x1)) then (if (wrap64 (x7 + x1)) ≤ (x154005.size : Int) then (if x6.length < 2513169434916 then (spec_CutDgram.l0 k x1 (x6 ++ [(⟨x154000, x154001, x154002, wrap64 (x154003 + x7), true, x154005.extract (x7 : Int).toNat ((wrap64 (x7 + x1)) : Int).toNat⟩ : S62)]) (wrap64 (x7 + x1)) x154000 x154001 x154002 x154003 x154004 x154005) else (none)) else (none)) else (none)) else (none))) else (some (x6, true))
end
def spec_CutDgram.f (k : Nat) (a0_0 : Int) (a0_1 : Int) (a0_2 : Int) (a0_3 : Int) (a0_4 : Bool) (a0_5 : ByteArray) (a1 : Int) : Option ((List (S62)) × Bool) := (spec_DgramOk.f a0_0 a0_1 a0_2 a0_3 a0_4 a0_5).bind fun t154 => (if t154 = true then ((spec_l01In.f a1 8 160).bind fun t155 => (spec_CutDgram.j0 k a1 (!t155) a0_0 a0_1 a0_2 a0_3 a0_4 a0_5)) else (spec_CutDgram.j0 k a1 true a0_0 a0_1 a0_2 a0_3 a0_4 a0_5))
set_option maxHeartbeats 8000000 in
set_option maxRecDepth 100000 in
theorem spec_CutDgram.calls (k : Nat) (a0_0 : Int) (a0_1 : Int) (a0_2 : Int) (a0_3 : Int) (a0_4 : Bool) (a0_5 : ByteArray) (a1 : Int) (r1 : List (S62)) (r2 : Bool) (w : World) (h : spec_CutDgram.f k a0_0 a0_1 a0_2 a0_3 a0_4 a0_5 a1 = some (r1, r2)) :
  Calls Try.prog 37 #[.agg #[.int .i64 a0_0, .int .i64 a0_1, .int .i64 a0_2, .int .i64 a0_3, .bool a0_4, .string a0_5], .int .i64 a1] w fun e w' => ∃ v0_ : Value, e = .returned (.tuple #[v0_, .bool r2]) ∧ Kd.R k62 62 w' w.heap.size (fun _ => True) v0_ r1 ∧ Below w.heap.size w w' := by
 have hu62 := Try.underlying62
 have HB := am (Below.refl w.heap.size w)
 have HZ1 := h
 clear h
 unfold spec_CutDgram.f at HZ1
 replace HZ1 := am HZ1
 go_enter Try.func37, Try.ntmps37
 go_upto_region 1 with (first | ((with_reducible refine gate_dst (N := 2) rfl ?_); refine bx (N := 2) (cs := #[.int .i64 a0_0, .int .i64 a0_1, .int .i64 a0_2, .int .i64 a0_3, .bool a0_4, .string a0_5]) (t := 62) ?_; intro gb153 hg w4 hbox hb; have BK153 := am (hbox); have GE153 := gA hg HB; replace HB := hA HB hb; clear hb hbox hg))
 (try simp only [Act.put, List.setIfInBounds_toArray, List.set_cons_zero, List.set_cons_succ])
 go_cut [17] (fun v17 wc => ∃ (kq : Nat) (x17_2 : Bool), v17 = .bool x17_2 ∧ Aside0 (spec_CutDgram.j0 kq a1 x17_2 a0_0 a0_1 a0_2 a0_3 a0_4 a0_5 = some (r1, r2)) ∧ Aside0 (kq ≤ k) ∧ Aside0 (wc.heap[gb153]? = some (.cells #[.int .i64 a0_0, .int .i64 a0_1, .int .i64 a0_2, .int .i64 a0_3, .bool a0_4, .string a0_5] 62 (0, 0))) ∧ Aside0 (Below w.heap.size w wc))
 case first =>
  replace HZ1 := HZ1.out; obtain ⟨t154, A5, HZ2⟩ := bsi HZ1; (try dsimp only at HZ2)
  obtain ⟨rfl, HZ3⟩ | ⟨rfl, HZ3⟩ := sb HZ2
  ·obtain ⟨t155, A7, HZ4⟩ := bsi HZ3; (try dsimp only at HZ4); replace HZ4 := am HZ4; clear HZ1 HZ2 HZ3; obtain ⟨zc153_0, zc153_1, zc153_2, zc153_3, zc153_4, zc153_5, zf153_0, zf153_1, zf153_2, zf153_3, zf153_4, zf153_5⟩ := cf6 BK153
   go_wp2_with (first | ((with_reducible refine gate_callee (f := 95) rfl ?_); refine gM (some 11) Try.func95 (spec_DgramOk.calls a0_0 a0_1 a0_2 a0_3 a0_4 a0_5 true _ A5.out) ?_; rintro w9 hb; replace BK153 := bA BK153 hb; replace HB := am (below_step (Ae1 HB GE153) hb); (try clear hb); (try clear hb2)) | (go_at_call 69; refine (spec_l01In.calls a1 8 160 t155 _ A7.out).mono ?_; rintro e w' ⟨rfl, ⟨nd, rfl⟩⟩))
   go_meet
   case rel => exact ⟨_, (!t155), (be_), HZ4, ⟨gl_⟩, ⟨(Ab BK153)⟩, ⟨(Ae1 HB GE153)⟩⟩
  ·replace HZ3 := am HZ3; clear HZ1 HZ2; obtain ⟨zc153_0, zc153_1, zc153_2, zc153_3, zc153_4, zc153_5, zf153_0, zf153_1, zf153_2, zf153_3, zf153_4, zf153_5⟩ := cf6 BK153
   go_wp2_with (first | ((with_reducible refine gate_callee (f := 95) rfl ?_); refine gM (some 11) Try.func95 (spec_DgramOk.calls a0_0 a0_1 a0_2 a0_3 a0_4 a0_5 false _ A5.out) ?_; rintro w11 hb; replace BK153 := bA BK153 hb; replace HB := am (below_step (Ae1 HB GE153) hb); (try clear hb); (try clear hb2)))
   go_meet
   case rel => exact ⟨_, (true), (be_), HZ3, ⟨gl_⟩, ⟨(Ab BK153)⟩, ⟨(Ae1 HB GE153)⟩⟩
 case rest =>
  clear HZ1; obtain ⟨kq, x17_2, rfl, HZ5, HJ2, BK153, HB⟩ := hcut
  cases kq with
  | zero => exact absurd HZ5.out (by simp [spec_CutDgram.j0])
  | succ kj2 => ?_
  replace HZ5 := HZ5.out; simp only [spec_CutDgram.j0] at HZ5
  obtain ⟨rfl, HZ6⟩ | ⟨rfl, HZ6⟩ := sb HZ5
  ·obtain ⟨y156, hy156⟩ : ∃ y_ : List (S62), y_ = (([] : List (S62))) := ⟨_, rfl⟩
   (first | with_reducible replace HZ6 := hq hy156 HZ6 | rw [← hy156] at HZ6 | simp only [← hy156] at HZ6)
   have Ny156 := am hy156; clear hy156; obtain ⟨rfl, rfl⟩ := s2 HZ6; clear HZ6 HZ5
   go_wp2_with (first | ((with_reducible refine gate_dst (N := 18) rfl ?_); refine Kd.R_lit k62 _ 62 ?hg (N := 18) ?hd (xs := ([] : List (S62))) (inner := []) (ok := fun _ => True) (okp := fun _ => True) ?hr ?hp (fun _ hk => hk) trivial (Below.refl _ _) (Nat.le_refl _) (by simp) ?_; (case hd => rfl); (case hg => rfl); (case hr => exact gs_); (case hp => exact (Reps.none _ _)); intro v157 w13 ho14 hb hg_ hnew_; clear hg_ hnew_; (first | rw [← Ny156.out] at ho14 | (simp only [Int.reduceToNat] at ho14; rw [← Ny156.out] at ho14)); have HO158 := am (Kd.R_lower (Kd.R_newB ho14 (g := gb153) (o := .cells #[.int .i64 a0_0, .int .i64 a0_1, .int .i64 a0_2, .int .i64 a0_3, .bool a0_4, .string a0_5] 62 (0, 0)) (Ab BK153)) (below_size (Ae1 HB GE153))); replace BK153 := bA BK153 hb; replace HB := am (below_step (Ae1 HB GE153) hb); clear hb ho14))
   go_ret2
   exact ⟨_, B4x8_, (by (with_reducible repeat (first | apply Kd.R_alloc | apply Kd.R_drewN | apply Kd.R_drew)); exact Kd.R_mono HO158.out (fun _ hk => trivial)), (Ae1 HB GE153)⟩
  ·obtain ⟨y159, hy159⟩ : ∃ y_ : List (S62), y_ = (([] : List (S62))) := ⟨_, rfl⟩
   (first | with_reducible replace HZ6 := hq hy159 HZ6 | rw [← hy159] at HZ6 | simp only [← hy159] at HZ6)
   have Ny159 := am hy159; clear hy159; replace HZ6 := am HZ6; clear HZ5
   go_wp2_with (first | ((with_reducible refine gate_dst (N := 22) rfl ?_); refine Kd.R_lit k62 _ 62 ?hg (N := 22) ?hd (xs := ([] : List (S62))) (inner := []) (ok := fun _ => True) (okp := fun _ => True) ?hr ?hp (fun _ hk => hk) trivial (Below.refl _ _) (Nat.le_refl _) (by simp) ?_; (case hd => rfl); (case hg => rfl); (case hr => exact gs_); (case hp => exact (Reps.none _ _)); intro v160 w15 ho16 hb hg_ hnew_; clear hg_ hnew_; (first | rw [← Ny159.out] at ho16 | (simp only [Int.reduceToNat] at ho16; rw [← Ny159.out] at ho16)); have HO161 := am (Kd.R_lower (Kd.R_newB ho16 (g := gb153) (o := .cells #[.int .i64 a0_0, .int .i64 a0_1, .int .i64 a0_2, .int .i64 a0_3, .bool a0_4, .string a0_5] 62 (0, 0)) (Ab BK153)) (below_size (Ae1 HB GE153))); replace BK153 := bA BK153 hb; replace HB := am (below_step (Ae1 HB GE153) hb); clear hb ho16))
   go_loopg [6, 7] kj2 (fun kq v6 v7 w' => ∃ (x6_2 : List (S62)) (x7_2 : Int), v7 = .int .i64 x7_2 ∧ Aside0 (spec_CutDgram.l0 kq (wrap64 ((wrap64 (Int.tdiv a1 8)) * 8)) x6_2 x7_2 a0_0 a0_1 a0_2 a0_3 a0_4 a0_5 = some (r1, r2)) ∧ Aside0 (kq ≤ kj2) ∧ Aside0 (Kd.R k62 62 w' w.heap.size (fun k_ => k_ ≠ gb153) v6 x6_2) ∧ Aside0 (w'.heap[gb153]? = some (.cells #[.int .i64 a0_0, .int .i64 a0_1, .int .i64 a0_2, .int .i64 a0_3, .bool a0_4, .string a0_5] 62 (0, 0))) ∧ Aside0 (Below w.heap.size w w'))
   case atStart => exact ⟨(y159), (0), (be_), HZ6, ⟨Nat.le_refl _⟩, ⟨(by (with_reducible repeat (first | apply Kd.R_alloc | apply Kd.R_drewN | apply Kd.R_drew)); exact Kd.R_mono HO161.out (fun _ hk => hk.2))⟩, ⟨(Ab BK153)⟩, ⟨(Ae1 HB GE153)⟩⟩
   case round =>
    clear HZ6
    try clear c12
    obtain ⟨x6_2, x7_2, rfl, HZ7, HK2, HO_6, BK153, HB⟩ := hrel
    cases gk with
    | zero => exact absurd HZ7.out (by simp [spec_CutDgram.l0])
    | succ k2 => ?_
    replace HZ7 := HZ7.out; simp only [spec_CutDgram.l0] at HZ7
    obtain ⟨c17b0, HZ8⟩ | ⟨c17b0, HZ8⟩ := sd HZ7
    ·obtain ⟨c18, HZ9⟩ | ⟨c18, HZ9⟩ := sp HZ8
     ·have c18b0 : decide ((a0_5.size : Int) ≤ (wrap64 (x7_2 + (wrap64 ((wrap64 (Int.tdiv a1 8)) * 8))))) = true := decide_eq_true c18
      clear c18; obtain ⟨c19b0, c19b1, HZ10⟩ := ye HZ9; obtain ⟨c20b0, c20b1, HZ11⟩ := ye HZ10; obtain ⟨c21b0, c21b1, HZ12⟩ := ye HZ11; obtain ⟨LMc22, HZ13⟩ := ya HZ12; obtain ⟨y163, hy163⟩ : ∃ y_ : List (S62), y_ = (x6_2 ++ [(⟨a0_0, a0_1, a0_2, wrap64 (a0_3 + x7_2), a0_4, a0_5.extract (x7_2 : Int).toNat ((a0_5.size : Int) : Int).toNat⟩ : S62)]) := ⟨_, rfl⟩
      (first | with_reducible replace HZ13 := hq hy163 HZ13 | rw [← hy163] at HZ13 | simp only [← hy163] at HZ13)
      have Ny163 := am hy163; clear hy163; replace HZ13 := am HZ13; clear HZ7 HZ8 HZ9 HZ10 HZ11 HZ12; obtain ⟨zc153_0, zc153_1, zc153_2, zc153_3, zc153_4, zc153_5, zf153_0, zf153_1, zf153_2, zf153_3, zf153_4, zf153_5⟩ := cf6 BK153
      go_wp2_with (first | ((with_reducible refine gate_dst (N := 8) rfl ?_); refine bx (N := 8) (cs := #[.int .i64 0, .int .i64 0, .int .i64 0, .int .i64 0, .bool false, .string (⟨#[]⟩ : ByteArray)]) (t := 62) ?_; intro gb162 hg w24 hbox hb; replace HO_6 := am (Kd.R_below (Kd.R_elderB (Ar HO_6) gb162 (Nat.le_of_eq hg.symm)) hb); have BK162 := am (hbox); have GE162 := gA hg HB; replace HB := am (below_step (Ae1 HB GE153) hb); have NB153_162 := nA hg BK153; have NB162_153 := mA hg BK153; replace BK153 := bA BK153 hb; clear hb hbox hg; have hnb25 := NB162_153.out; have hnc25 := NB153_162.out; obtain ⟨zc162_0, zc162_1, zc162_2, zc162_3, zc162_4, zc162_5, zf162_0, zf162_1, zf162_2, zf162_3, zf162_4, zf162_5⟩ := cf6 BK162) | ((with_reducible refine gate_store (t := 62) (p := 8) rfl ?_); refine store_event (t := 62) (p := 8) (v := ?vo_w27) (w1 := ((((((w24.setCell ⟨gb162, 0, none⟩ (.int .i64 a0_0)).setCell ⟨gb162, 1, none⟩ (.int .i64 a0_1)).setCell ⟨gb162, 2, none⟩ (.int .i64 a0_2)).setCell ⟨gb162, 3, none⟩ (.int .i64 a0_3)).setCell ⟨gb162, 4, none⟩ (.bool a0_4)).setCell ⟨gb162, 5, none⟩ (.string a0_5))) ?hg ?ho ?hn ?hr ?_; (case ho => rfl); (case hg => rfl); (case hn => rfl); (case hr => exact gs_); intro w27 hw; replace HO_6 : Aside0 (Kd.R k62 62 w27 w.heap.size (fun k_ => k_ ≠ gb153 ∧ k_ ≠ gb162) u6 x6_2) := ⟨B4x10_⟩; replace BK153 : Aside0 (w27.heap[gb153]? = some (.cells #[.int .i64 a0_0, .int .i64 a0_1, .int .i64 a0_2, .int .i64 a0_3, .bool a0_4, .string a0_5] 62 (0, 0))) := ⟨(wAp1 BK153 NB153_162)⟩; replace BK162 : Aside0 (w27.heap[gb162]? = some (.cells #[.int .i64 a0_0, .int .i64 a0_1, .int .i64 a0_2, .int .i64 a0_3, .bool a0_4, .string a0_5] 62 (0, 0))) := ⟨(wAp0 BK162)⟩; replace HB : Aside0 (Below w.heap.size w w27) := ⟨(wAe2 HB GE153 GE162)⟩; clear hw; obtain ⟨zc162_0, zc162_1, zc162_2, zc162_3, zc162_4, zc162_5, zf162_0, zf162_1, zf162_2, zf162_3, zf162_4, zf162_5⟩ := cf6 BK162; obtain ⟨zc153_0, zc153_1, zc153_2, zc153_3, zc153_4, zc153_5, zf153_0, zf153_1, zf153_2, zf153_3, zf153_4, zf153_5⟩ := cf6 BK153) | ((with_reducible refine gate_builtin (b := .append) (xs := #[.tmp 58, .tmp 60]) rfl ?_); at_builtin; refine Kd.R_append k62 (w0 := w) w.heap.size rfl (.tmp 58) (.tmp 60) 65 62 (.agg #[(.int .i64 0), (.int .i64 0), (.int .i64 0), (.int .i64 0), (.bool false), (.string ⟨#[]⟩)]) 56 rfl Try.underlying65 info62 rfl (by decide) (by omega) u6 x6_2 (⟨a0_0, a0_1, a0_2, wrap64 (a0_3 + x7_2), a0_4, a0_5.extract (x7_2 : Int).toNat ((a0_5.size : Int) : Int).toNat⟩ : S62) [.int .i64 a0_0, .int .i64 a0_1, .int .i64 a0_2, .int .i64 (wrap64 (a0_3 + x7_2)), .bool a0_4, .string (a0_5.extract (x7_2 : Int).toNat ((a0_5.size : Int) : Int).toNat)] (fun k_ => k_ ≠ gb153 ∧ k_ ≠ gb162) (fun _ => False) rfl gs_ ?aP (fun _ hk => hk.elim) ?aF ?aO ?aB ?aS ?aL ?_; (case aP => exact k62_mkM _ _ _ (⟨a0_0, a0_1, a0_2, wrap64 (a0_3 + x7_2), a0_4, a0_5.extract (x7_2 : Int).toNat ((a0_5.size : Int) : Int).toNat⟩ : S62)); (case aB => exact (Ae2 HB GE153 GE162)); (case aF => exact (fun k_ hk => ⟨Kd.freshB (g := gb153) (o := .cells #[.int .i64 a0_0, .int .i64 a0_1, .int .i64 a0_2, .int .i64 a0_3, .bool a0_4, .string a0_5] 62 (0, 0)) (Ap1 BK153 NB153_162) k_ hk, Kd.freshB (g := gb162) (o := .cells #[.int .i64 a0_0, .int .i64 a0_1, .int .i64 a0_2, .int .i64 (wrap64 (a0_3 + x7_2)), .bool a0_4, .string (a0_5.extract (x7_2 : Int).toNat ((a0_5.size : Int) : Int).toNat)] 62 (0, 0)) (Ap0 BK162) k_ hk⟩)); (case aO => (with_reducible repeat (first | apply Kd.R_alloc | apply Kd.R_drewN | apply Kd.R_drew)); exact Kd.R_mono (Kd.R_far (p := ⟨gb162, 5, none⟩) (Kd.R_far (p := ⟨gb162, 3, none⟩) (Kd.R_far (p := ⟨gb162, 4, none⟩) (Kd.R_far (p := ⟨gb162, 4, none⟩) (Kd.R_mono HO_6.out (fun k_ hk => (⟨hk, hk.2⟩ : _ ∧ k_ ≠ gb162))) (fun _ hk => hk.2) (.bool true)) (fun _ hk => hk.2) (.bool a0_4)) (fun _ hk => hk.2) (.int .i64 (wrap64 (a0_3 + x7_2)))) (fun _ hk => hk.2) (.string (a0_5.extract (x7_2 : Int).toNat ((a0_5.size : Int) : Int).toNat))) (fun _ hk => ⟨hk.1.1, hk.1.2⟩)); (case aS => exact (below_size (Ae2 HB GE153 GE162))); (case aL => have := LMc22.out; omega); intro v164 w30 ho hb hg hat; rw [← Ny163.out] at ho; replace BK153 := am (blk_grown (g := gb153) (o := .cells #[.int .i64 a0_0, .int .i64 a0_1, .int .i64 a0_2, .int .i64 a0_3, .bool a0_4, .string a0_5] 62 (0, 0)) (Ap1 BK153 NB153_162) hg (Kd.R_away HO_6.out (fun _ hk => hk.1))); replace BK162 := am (blk_grown (g := gb162) (o := .cells #[.int .i64 a0_0, .int .i64 a0_1, .int .i64 a0_2, .int .i64 (wrap64 (a0_3 + x7_2)), .bool a0_4, .string (a0_5.extract (x7_2 : Int).toNat ((a0_5.size : Int) : Int).toNat)] 62 (0, 0)) (Ap0 BK162) hg (Kd.R_away HO_6.out (fun _ hk => hk.2))); replace HB := am (hb); have HO165 := am (ho); clear HO_6; clear ho hb hg hat))
      go_roundg k2
      case measure => have := HJ2.out; have := HK2.out; omega
      case rel => exact ⟨(y163), (wrap64 (x7_2 + (wrap64 ((wrap64 (Int.tdiv a1 8)) * 8)))), (be_), HZ13, ⟨(by have := HJ2.out; have := HK2.out; omega)⟩, ⟨(by (with_reducible repeat (first | apply Kd.R_alloc | apply Kd.R_drewN | apply Kd.R_drew)); exact Kd.R_mono HO165.out (fun _ hk => hk.1))⟩, ⟨(Ab BK153)⟩, ⟨(Ae2 HB GE153 GE162)⟩⟩
     ·have c18b0 : decide ((a0_5.size : Int) ≤ (wrap64 (x7_2 + (wrap64 ((wrap64 (Int.tdiv a1 8)) * 8))))) = false := decide_eq_false c18
      clear c18; obtain ⟨c31b0, c31b1, HZ14⟩ := ye HZ9; obtain ⟨c32, HZ15⟩ := yn HZ14; have c32b0 := eq_true c32; have c32b1 := decide_eq_true c32; obtain ⟨c33, HZ16⟩ := yn HZ15; have c33b0 := eq_true c33; have c33b1 := decide_eq_true c33; obtain ⟨LMc34, HZ17⟩ := ya HZ16; obtain ⟨y166, hy166⟩ : ∃ y_ : List (S62), y_ = (x6_2 ++ [(⟨a0_0, a0_1, a0_2, wrap64 (a0_3 + x7_2), true, a0_5.extract (x7_2 : Int).toNat ((wrap64 (x7_2 + (wrap64 ((wrap64 (Int.tdiv a1 8)) * 8)))) : Int).toNat⟩ : S62)]) := ⟨_, rfl⟩
      (first | with_reducible replace HZ17 := hq hy166 HZ17 | rw [← hy166] at HZ17 | simp only [← hy166] at HZ17)
      have Ny166 := am hy166; clear hy166; replace HZ17 := am HZ17; clear HZ7 HZ8 HZ9 HZ14 HZ15 HZ16; obtain ⟨zc153_0, zc153_1, zc153_2, zc153_3, zc153_4, zc153_5, zf153_0, zf153_1, zf153_2, zf153_3, zf153_4, zf153_5⟩ := cf6 BK153
      go_wp2_with (first | ((with_reducible refine gate_dst (N := 8) rfl ?_); refine bx (N := 8) (cs := #[.int .i64 0, .int .i64 0, .int .i64 0, .int .i64 0, .bool false, .string (⟨#[]⟩ : ByteArray)]) (t := 62) ?_; intro gb162 hg w36 hbox hb; replace HO_6 := am (Kd.R_below (Kd.R_elderB (Ar HO_6) gb162 (Nat.le_of_eq hg.symm)) hb); have BK162 := am (hbox); have GE162 := gA hg HB; replace HB := am (below_step (Ae1 HB GE153) hb); have NB153_162 := nA hg BK153; have NB162_153 := mA hg BK153; replace BK153 := bA BK153 hb; clear hb hbox hg; have hnb37 := NB162_153.out; have hnc37 := NB153_162.out; obtain ⟨zc162_0, zc162_1, zc162_2, zc162_3, zc162_4, zc162_5, zf162_0, zf162_1, zf162_2, zf162_3, zf162_4, zf162_5⟩ := cf6 BK162) | ((with_reducible refine gate_store (t := 62) (p := 8) rfl ?_); refine store_event (t := 62) (p := 8) (v := ?vo_w39) (w1 := ((((((w36.setCell ⟨gb162, 0, none⟩ (.int .i64 a0_0)).setCell ⟨gb162, 1, none⟩ (.int .i64 a0_1)).setCell ⟨gb162, 2, none⟩ (.int .i64 a0_2)).setCell ⟨gb162, 3, none⟩ (.int .i64 a0_3)).setCell ⟨gb162, 4, none⟩ (.bool a0_4)).setCell ⟨gb162, 5, none⟩ (.string a0_5))) ?hg ?ho ?hn ?hr ?_; (case ho => rfl); (case hg => rfl); (case hn => rfl); (case hr => exact gs_); intro w39 hw; replace HO_6 : Aside0 (Kd.R k62 62 w39 w.heap.size (fun k_ => k_ ≠ gb153 ∧ k_ ≠ gb162) u6 x6_2) := ⟨B4x10_⟩; replace BK153 : Aside0 (w39.heap[gb153]? = some (.cells #[.int .i64 a0_0, .int .i64 a0_1, .int .i64 a0_2, .int .i64 a0_3, .bool a0_4, .string a0_5] 62 (0, 0))) := ⟨(wAp1 BK153 NB153_162)⟩; replace BK162 : Aside0 (w39.heap[gb162]? = some (.cells #[.int .i64 a0_0, .int .i64 a0_1, .int .i64 a0_2, .int .i64 a0_3, .bool a0_4, .string a0_5] 62 (0, 0))) := ⟨(wAp0 BK162)⟩; replace HB : Aside0 (Below w.heap.size w w39) := ⟨(wAe2 HB GE153 GE162)⟩; clear hw; obtain ⟨zc162_0, zc162_1, zc162_2, zc162_3, zc162_4, zc162_5, zf162_0, zf162_1, zf162_2, zf162_3, zf162_4, zf162_5⟩ := cf6 BK162; obtain ⟨zc153_0, zc153_1, zc153_2, zc153_3, zc153_4, zc153_5, zf153_0, zf153_1, zf153_2, zf153_3, zf153_4, zf153_5⟩ := cf6 BK153) | ((with_reducible refine gate_builtin (b := .append) (xs := #[.tmp 58, .tmp 60]) rfl ?_); at_builtin; refine Kd.R_append k62 (w0 := w) w.heap.size rfl (.tmp 58) (.tmp 60) 65 62 (.agg #[(.int .i64 0), (.int .i64 0), (.int .i64 0), (.int .i64 0), (.bool false), (.string ⟨#[]⟩)]) 56 rfl Try.underlying65 info62 rfl (by decide) (by omega) u6 x6_2 (⟨a0_0, a0_1, a0_2, wrap64 (a0_3 + x7_2), true, a0_5.extract (x7_2 : Int).toNat ((wrap64 (x7_2 + (wrap64 ((wrap64 (Int.tdiv a1 8)) * 8)))) : Int).toNat⟩ : S62) [.int .i64 a0_0, .int .i64 a0_1, .int .i64 a0_2, .int .i64 (wrap64 (a0_3 + x7_2)), .bool true, .string (a0_5.extract (x7_2 : Int).toNat ((wrap64 (x7_2 + (wrap64 ((wrap64 (Int.tdiv a1 8)) * 8)))) : Int).toNat)] (fun k_ => k_ ≠ gb153 ∧ k_ ≠ gb162) (fun _ => False) rfl gs_ ?aP (fun _ hk => hk.elim) ?aF ?aO ?aB ?aS ?aL ?_; (case aP => exact k62_mkM _ _ _ (⟨a0_0, a0_1, a0_2, wrap64 (a0_3 + x7_2), true, a0_5.extract (x7_2 : Int).toNat ((wrap64 (x7_2 + (wrap64 ((wrap64 (Int.tdiv a1 8)) * 8)))) : Int).toNat⟩ : S62)); (case aB => exact (Ae2 HB GE153 GE162)); (case aF => exact (fun k_ hk => ⟨Kd.freshB (g := gb153) (o := .cells #[.int .i64 a0_0, .int .i64 a0_1, .int .i64 a0_2, .int .i64 a0_3, .bool a0_4, .string a0_5] 62 (0, 0)) (Ap1 BK153 NB153_162) k_ hk, Kd.freshB (g := gb162) (o := .cells #[.int .i64 a0_0, .int .i64 a0_1, .int .i64 a0_2, .int .i64 (wrap64 (a0_3 + x7_2)), .bool true, .string (a0_5.extract (x7_2 : Int).toNat ((wrap64 (x7_2 + (wrap64 ((wrap64 (Int.tdiv a1 8)) * 8)))) : Int).toNat)] 62 (0, 0)) (Ap0 BK162) k_ hk⟩)); (case aO => (with_reducible repeat (first | apply Kd.R_alloc | apply Kd.R_drewN | apply Kd.R_drew)); exact Kd.R_mono (Kd.R_far (p := ⟨gb162, 5, none⟩) (Kd.R_far (p := ⟨gb162, 3, none⟩) (Kd.R_far (p := ⟨gb162, 4, none⟩) (Kd.R_mono HO_6.out (fun k_ hk => (⟨hk, hk.2⟩ : _ ∧ k_ ≠ gb162))) (fun _ hk => hk.2) (.bool true)) (fun _ hk => hk.2) (.int .i64 (wrap64 (a0_3 + x7_2)))) (fun _ hk => hk.2) (.string (a0_5.extract (x7_2 : Int).toNat ((wrap64 (x7_2 + (wrap64 ((wrap64 (Int.tdiv a1 8)) * 8)))) : Int).toNat))) (fun _ hk => ⟨hk.1.1, hk.1.2⟩)); (case aS => exact (below_size (Ae2 HB GE153 GE162))); (case aL => have := LMc34.out; omega); intro v167 w42 ho hb hg hat; rw [← Ny166.out] at ho; replace BK153 := am (blk_grown (g := gb153) (o := .cells #[.int .i64 a0_0, .int .i64 a0_1, .int .i64 a0_2, .int .i64 a0_3, .bool a0_4, .string a0_5] 62 (0, 0)) (Ap1 BK153 NB153_162) hg (Kd.R_away HO_6.out (fun _ hk => hk.1))); replace BK162 := am (blk_grown (g := gb162) (o := .cells #[.int .i64 a0_0, .int .i64 a0_1, .int .i64 a0_2, .int .i64 (wrap64 (a0_3 + x7_2)), .bool true, .string (a0_5.extract (x7_2 : Int).toNat ((wrap64 (x7_2 + (wrap64 ((wrap64 (Int.tdiv a1 8)) * 8)))) : Int).toNat)] 62 (0, 0)) (Ap0 BK162) hg (Kd.R_away HO_6.out (fun _ hk => hk.2))); replace HB := am (hb); have HO168 := am (ho); clear HO_6; clear ho hb hg hat))
      go_roundg k2
      case measure => have := HJ2.out; have := HK2.out; omega
      case rel => exact ⟨(y166), (wrap64 (x7_2 + (wrap64 ((wrap64 (Int.tdiv a1 8)) * 8)))), (be_), HZ17, ⟨(by have := HJ2.out; have := HK2.out; omega)⟩, ⟨(by (with_reducible repeat (first | apply Kd.R_alloc | apply Kd.R_drewN | apply Kd.R_drew)); exact Kd.R_mono HO168.out (fun _ hk => hk.1))⟩, ⟨(Ab BK153)⟩, ⟨(Ae2 HB GE153 GE162)⟩⟩
    ·obtain ⟨rfl, rfl⟩ := s2 HZ8; clear HZ8 HZ7; obtain ⟨zc153_0, zc153_1, zc153_2, zc153_3, zc153_4, zc153_5, zf153_0, zf153_1, zf153_2, zf153_3, zf153_4, zf153_5⟩ := cf6 BK153
     go_wp2
     go_ret2
     exact ⟨_, B4x8_, (by (with_reducible repeat (first | apply Kd.R_alloc | apply Kd.R_drewN | apply Kd.R_drew)); exact Kd.R_mono HO_6.out (fun _ hk => trivial)), (Ae1 HB GE153)⟩

/-- A state of type 159 at block g of W; what its slices lead to came in by w0. -/
def IsS159 (w0 W : World) (g : Nat) (f0 : List Int) (f1 : Int) (f2 : Int) : Prop := ∃ A0 c0, W.heap[g]? = some (.cells #[.slice A0 f0.length c0, .int .i64 f1, .int .i64 f2] 159 (0, 0)) ∧ w0.heap.size ≤ g ∧ Kd.C (Kd.int .u8) w0 A0 f0.length f0
theorem IsS159.grown {w0 W : World} {g : Nat} {f0 : List Int} {f1 : Int} {f2 : Int} {W1 : World} {row : Option Nat} (h : IsS159 w0 W g f0 f1 f2) (hw : W.grownBy W1 row) (hne : some g ≠ row) : IsS159 w0 W1 g f0 f1 f2 := by
 obtain ⟨A0, c0, hb, hg, hr0⟩ := h
 exact ⟨A0, c0, blk_grown hb hw hne, hg, hr0⟩
theorem IsS159.own_neN {w0 W : World} {g : Nat} {f0 : List Int} {f1 : Int} {f2 : Int} {α : Type} {d : Kd α} {e : Nat} {base : Nat} {ok : Nat → Prop} {v : Value} {xs : List α} (h : IsS159 w0 W g f0 f1 f2) (ho : Kd.N d e W base ok v xs) (ht : e ≠ 159) : some g ≠ v.ownBlock := by
 obtain ⟨A0, c0, hb, hg, hr0⟩ := h
 exact Kd.N_ne ho hb ht
theorem IsS159.fresh {w0 W : World} {g : Nat} {f0 : List Int} {f1 : Int} {f2 : Int} (h : IsS159 w0 W g f0 f1 f2) : ∀ k, W.heap.size ≤ k → k ≠ g := by
 obtain ⟨A0, c0, hb, hg, hr0⟩ := h
 exact Kd.freshB hb
theorem IsS159.kept {w0 W : World} {g : Nat} {f0 : List Int} {f1 : Int} {f2 : Int} {W1 : World} {S : Nat → Prop} (h : IsS159 w0 W g f0 f1 f2) (hk : Kept W W1 S) (hne : ¬ S g) : IsS159 w0 W1 g f0 f1 f2 := by
 obtain ⟨A0, c0, hb, hg, hr0⟩ := h
 exact ⟨A0, c0, blk_kept hb hk hne, hg, hr0⟩
theorem IsS159.below {w0 W : World} {g : Nat} {f0 : List Int} {f1 : Int} {f2 : Int} {W1 : World} (h : IsS159 w0 W g f0 f1 f2) (hw : Below W.heap.size W W1) : IsS159 w0 W1 g f0 f1 f2 := h.grown (grown_of_below hw none) (by simp)
theorem IsS159.alloc {w0 W : World} {g : Nat} {f0 : List Int} {f1 : Int} {f2 : Int} (h : IsS159 w0 W g f0 f1 f2) (o : Obj) : IsS159 w0 (W.alloc o) g f0 f1 f2 := h.below (below_alloc (Below.refl _ _) o)
theorem IsS159.drewN {w0 W : World} {g : Nat} {f0 : List Int} {f1 : Int} {f2 : Int} (h : IsS159 w0 W g f0 f1 f2) (m : Nat) : IsS159 w0 (W.drewN m) g f0 f1 f2 := h
theorem IsS159.drew {w0 W : World} {g : Nat} {f0 : List Int} {f1 : Int} {f2 : Int} (h : IsS159 w0 W g f0 f1 f2) : IsS159 w0 W.drew g f0 f1 f2 := h
theorem IsS159.at_ {w0 W : World} {g : Nat} {f0 : List Int} {f1 : Int} {f2 : Int} {w' : World} {m : Nat} (hq : W.drewN m = w') (h : IsS159 w0 W g f0 f1 f2) : IsS159 w0 w' g f0 f1 f2 := by subst hq; exact IsS159.drewN h m
theorem IsS159.apart {w0 W : World} {g : Nat} {f0 : List Int} {f1 : Int} {f2 : Int} {α : Type} {d : Kd α} {e : Nat} {base : Nat} {ok : Nat → Prop} {v : Value} {xs : List α} (h : IsS159 w0 W g f0 f1 f2) (ho : d.R e W base ok v xs) (ht : ∀ q, q ∈ e :: d.E → q ≠ 159) : d.R e W base (fun k => ok k ∧ k ≠ g) v xs := by
 obtain ⟨A0, c0, hb, hg, hr0⟩ := h
 exact Kd.R_types ho hb ht
theorem IsS159.own_ne {w0 W : World} {g : Nat} {f0 : List Int} {f1 : Int} {f2 : Int} {α : Type} {d : Kd α} {e : Nat} {base : Nat} {ok : Nat → Prop} {v : Value} {xs : List α} (h : IsS159 w0 W g f0 f1 f2) (ho : d.R e W base ok v xs) (ht : e ≠ 159) : some g ≠ v.ownBlock := by
 obtain ⟨A0, c0, hb, hg, hr0⟩ := h
 exact Kd.R_ne ho hb ht
theorem IsS159.apartQ {w0 W : World} {g : Nat} {f0 : List Int} {f1 : Int} {f2 : Int} {α : Type} {d : Kd α} {e : Nat} {base : Nat} {ok : Nat → Prop} {v : Value} {xs : List α} (h : IsS159 w0 W g f0 f1 f2) (ho : d.Q e W base ok v xs) (ht : ∀ q, q ∈ e :: d.E → q ≠ 159) : d.Q e W base (fun k => ok k ∧ k ≠ g) v xs := by
 obtain ⟨A0, c0, hb, hg, hr0⟩ := h
 exact Kd.Q_types ho hb ht
theorem IsS159.own_neQ {w0 W : World} {g : Nat} {f0 : List Int} {f1 : Int} {f2 : Int} {α : Type} {d : Kd α} {e : Nat} {base : Nat} {ok : Nat → Prop} {v : Value} {xs : List α} (h : IsS159 w0 W g f0 f1 f2) (ho : d.Q e W base ok v xs) (ht : e ≠ 159) : some g ≠ v.ownBlock := by
 obtain ⟨A0, c0, hb, hg, hr0⟩ := h
 exact Kd.Q_ne ho hb ht
theorem IsS159.apartS {w0 W : World} {g : Nat} {f0 : List Int} {f1 : Int} {f2 : Int} {α : Type} {d : Kd α} {e : Nat} {base : Nat} {ok : Nat → Prop} {v : Value} {xs : List α} (h : IsS159 w0 W g f0 f1 f2) (ho : d.S e W base ok v xs) (ht : ∀ q, q ∈ e :: d.E → q ≠ 159) : d.S e W base (fun k => ok k ∧ k ≠ g) v xs := by
 obtain ⟨A0, c0, hb, hg, hr0⟩ := h
 exact Kd.S_types ho hb ht
theorem IsS159.own_neS {w0 W : World} {g : Nat} {f0 : List Int} {f1 : Int} {f2 : Int} {α : Type} {d : Kd α} {e : Nat} {base : Nat} {ok : Nat → Prop} {v : Value} {xs : List α} (h : IsS159 w0 W g f0 f1 f2) (ho : d.S e W base ok v xs) (ht : e ≠ 159) : some g ≠ v.ownBlock := by
 obtain ⟨A0, c0, hb, hg, hr0⟩ := h
 exact Kd.S_ne ho hb ht
theorem IsS159.lt {w0 W : World} {g : Nat} {f0 : List Int} {f1 : Int} {f2 : Int} (h : IsS159 w0 W g f0 f1 f2) : g < W.heap.size := by
 obtain ⟨A0, c0, hb, hg, hr0⟩ := h
 exact blk_lt hb
theorem IsS159.ge {w0 W : World} {g : Nat} {f0 : List Int} {f1 : Int} {f2 : Int} (h : IsS159 w0 W g f0 f1 f2) : w0.heap.size ≤ g := by
 obtain ⟨A0, c0, hb, hg, hr0⟩ := h
 exact hg
theorem IsS159.gf {w0 W : World} {g : Nat} {f0 : List Int} {f1 : Int} {f2 : Int} (h : Aside0 (IsS159 w0 W g f0 f1 f2)) : Aside0 (w0.heap.size ≤ g) := ⟨h.out.ge⟩
theorem IsS159.ne_blk {w0 W : World} {g : Nat} {f0 : List Int} {f1 : Int} {f2 : Int} {a : Nat} {cs : Array Value} {t : TypeId} {fr : Nat × Nat} (h : IsS159 w0 W g f0 f1 f2) (hb2 : W.heap[a]? = some (.cells cs t fr)) (ht : t ≠ 159) : g ≠ a := by
 obtain ⟨A0, c0, hb, hg, hr0⟩ := h
 rintro rfl
 rw [hb] at hb2
 injection hb2 with hb2
 injection hb2 with _ ht2
 exact ht ht2.symm
theorem IsS159.far {w0 W : World} {g : Nat} {f0 : List Int} {f1 : Int} {f2 : Int} {p : Addr} (h : IsS159 w0 W g f0 f1 f2) (hne : g ≠ p.block) (u : Value) : IsS159 w0 (W.setCell p u) g f0 f1 f2 := by
 obtain ⟨A0, c0, hb, hg, hr0⟩ := h
 exact ⟨A0, c0, blk_far hb hne u, hg, hr0⟩
theorem cellS159_0 {W : World} {g : Nat} {A0 : Option Addr} {c0 : Nat} {f0 : List Int} {f1 : Int} {f2 : Int} (h : W.heap[g]? = some (.cells #[.slice A0 f0.length c0, .int .i64 f1, .int .i64 f2] 159 (0, 0))) : W.cell? ⟨g, 0, none⟩ = some (.slice A0 f0.length c0) := (blk_cell h 0).trans rfl
theorem cellS159_1 {W : World} {g : Nat} {A0 : Option Addr} {c0 : Nat} {f0 : List Int} {f1 : Int} {f2 : Int} (h : W.heap[g]? = some (.cells #[.slice A0 f0.length c0, .int .i64 f1, .int .i64 f2] 159 (0, 0))) : W.cell? ⟨g, 1, none⟩ = some (.int .i64 f1) := (blk_cell h 1).trans rfl
theorem IsS159.set_1 {w0 W : World} {g : Nat} {f0 : List Int} {f1 : Int} {f2 : Int} (h : IsS159 w0 W g f0 f1 f2) (x : Int) : IsS159 w0 (W.setCell ⟨g, 1, none⟩ (.int .i64 x)) g f0 x f2 := by
 obtain ⟨A0, c0, hb, hg, hr0⟩ := h
 exact ⟨A0, c0, (by simpa using blk_set hb 1 (.int .i64 x)), hg, hr0⟩
theorem cellS159_2 {W : World} {g : Nat} {A0 : Option Addr} {c0 : Nat} {f0 : List Int} {f1 : Int} {f2 : Int} (h : W.heap[g]? = some (.cells #[.slice A0 f0.length c0, .int .i64 f1, .int .i64 f2] 159 (0, 0))) : W.cell? ⟨g, 2, none⟩ = some (.int .i64 f2) := (blk_cell h 2).trans rfl
theorem IsS159.set_2 {w0 W : World} {g : Nat} {f0 : List Int} {f1 : Int} {f2 : Int} (h : IsS159 w0 W g f0 f1 f2) (x : Int) : IsS159 w0 (W.setCell ⟨g, 2, none⟩ (.int .i64 x)) g f0 f1 x := by
 obtain ⟨A0, c0, hb, hg, hr0⟩ := h
 exact ⟨A0, c0, (by simpa using blk_set hb 2 (.int .i64 x)), hg, hr0⟩
theorem IsS159.new (w0 W : World) (A0 : Option Addr) (c0 : Nat) (f0 : List Int) (f1 : Int) (f2 : Int) (hB : Below w0.heap.size w0 W) (hr0 : Kd.C (Kd.int .u8) w0 A0 f0.length f0) : IsS159 w0 (W.alloc (.cells #[.slice A0 f0.length c0, .int .i64 f1, .int .i64 f2] 159)) W.heap.size f0 f1 f2 := ⟨A0, c0, (by simpa using heap_alloc_new W _), hB.size, hr0⟩

/-! ### spec_l01Byte: function 93 -/
def spec_l01Byte.f (s0_0 : List Int) (s0_1 : Int) (s0_2 : Int) : Option (Int × Int × Int) := if s0_1 < (s0_0.length : Int) then (if 0 ≤ s0_1 then (some (Go.bits .and .i64 (wrap64 ((Go.bits .and .i64 (Go.bits .xor .i64 ((wrap64 ((wrap64 (s0_2 * 6364136223846793005)) + 1442695040888963407)) / 8589934592) ((wrap64 ((wrap64 (s0_2 * 6364136223846793005)) + 1442695040888963407)) / 35184372088832)) 255) + (wrap64 (rd s0_0 s0_1)))) 255, wrap64 (s0_1 + 1), wrap64 ((wrap64 (s0_2 * 6364136223846793005)) + 1442695040888963407))) else (none)) else (some (Go.bits .and .i64 (Go.bits .xor .i64 ((wrap64 ((wrap64 (s0_2 * 6364136223846793005)) + 1442695040888963407)) / 8589934592) ((wrap64 ((wrap64 (s0_2 * 6364136223846793005)) + 1442695040888963407)) / 35184372088832)) 255, s0_1, wrap64 ((wrap64 (s0_2 * 6364136223846793005)) + 1442695040888963407)))
set_option maxHeartbeats 8000000 in
set_option maxRecDepth 100000 in
theorem spec_l01Byte.calls (g : Nat) (s0_0 : List Int) (s0_1 : Int) (s0_2 : Int) (r1 : Int) (r2 : Int) (r3 : Int) (w0 w : World) (hI : IsS159 w0 w g s0_0 s0_1 s0_2) (hB : Below w0.heap.size w0 w) (h : spec_l01Byte.f s0_0 s0_1 s0_2 = some (r1, r2, r3)) :
  Calls Try.prog 93 #[.pointer (some ⟨g, 0, none⟩)] w fun e w' => e = .returned (.int .i64 r1) ∧ IsS159 w0 w' g s0_0 r2 r3 ∧ Below w0.heap.size w0 w' ∧ KeepBut w w' g none := by
 have HI0 := am hI
 have HK := am (KeepBut.refl w g none)
 have HL := am hB.size
 clear hI
 have HW0 := am hB.size
 have HB := am hB
 clear hB
 have HZ1 := h
 clear h
 unfold spec_l01Byte.f at HZ1
 obtain ⟨c2b0, HZ2⟩ | ⟨c2b0, HZ2⟩ := sd HZ1
 ·obtain ⟨c3b0, HZ3⟩ := yd HZ2; obtain ⟨rfl, rfl, rfl⟩ := s3 HZ3; clear HZ3 HZ1 HZ2; obtain ⟨ASz4_0, cSz4_0, HGz4, hgz4, HSz4_0⟩ := HI0.out; have zc4_0 := cellS159_0 HGz4; have zc4_1 := cellS159_1 HGz4; have zc4_2 := cellS159_2 HGz4; have zf4_1 := blk_frozen HGz4 1; have zf4_2 := blk_frozen HGz4 2; clear HGz4 hgz4
  have p169 : 0 ≤ (s0_1 : Int) := dga
  have q169 : s0_1 < (s0_0.length : Int) := dga
  obtain ⟨ad169, e169, hx169_0⟩ := Kd.at_int HSz4_0 s0_1 p169 q169; cases e169
  have hn169_0 : ad169.block ≠ g := Nat.ne_of_lt (Nat.lt_of_lt_of_le (by have := World.block_lt_of_cell? _ _ hx169_0; first | rwa [add_block] at this | exact this) (IsS159.ge HI0.out))
  replace hx169_0 := pw_cell_below HB.out hx169_0; replace hx169_0 := (cell_far (p := ⟨g, 2, none⟩) (by first | (rw [add_block]; exact hn169_0) | (show (Addr.add _ _).block ≠ _; rw [add_block]; exact hn169_0) | exact hn169_0) (.int .i64 (wrap64 ((wrap64 (s0_2 * 6364136223846793005)) + 1442695040888963407)))).trans hx169_0; (try have hy169_0 := fun (n_ : Nat) => (show (((w.drewN n_).setCell ⟨g, 2, none⟩ (.int .i64 (wrap64 ((wrap64 (s0_2 * 6364136223846793005)) + 1442695040888963407))))).cell? _ = some _ from hx169_0)); clear hn169_0; replace p169 := eq_true p169; replace q169 := eq_true q169; go_enter Try.func93, Try.ntmps93
  go_wp2
  repeat (go_quiet (fail); try go_wp2)
  go_ret; exact ⟨B4x8_, B4x0_, (Ae1 HB (IsS159.gf HI0)), (Ak0 HK)⟩
 ·obtain ⟨rfl, rfl, rfl⟩ := s3 HZ2; clear HZ2 HZ1; obtain ⟨ASz5_0, cSz5_0, HGz5, hgz5, HSz5_0⟩ := HI0.out; have zc5_0 := cellS159_0 HGz5; have zc5_1 := cellS159_1 HGz5; have zc5_2 := cellS159_2 HGz5; have zf5_1 := blk_frozen HGz5 1; have zf5_2 := blk_frozen HGz5 2; clear HGz5 hgz5; go_enter Try.func93, Try.ntmps93
  go_wp2
  repeat (go_quiet (fail); try go_wp2)
  go_ret; exact ⟨B4x8_, B4x0_, (Ae1 HB (IsS159.gf HI0)), (Ak0 HK)⟩

/-! ### spec_l01Below: function 94 -/
def spec_l01Below.f (s0_0 : List Int) (s0_1 : Int) (s0_2 : Int) (a1 : Int) : Option (Int × Int × Int) := if a1 ≤ 0 then (some (0, s0_1, s0_2)) else (if a1 ≤ 256 then ((spec_l01Byte.f s0_0 s0_1 s0_2).bind fun bt170 => (if a1 = 0 then (none) else (some (Int.tmod bt170.1 a1, bt170.2.1, bt170.2.2)))) else ((spec_l01Byte.f s0_0 s0_1 s0_2).bind fun bt173 => ((spec_l01Byte.f s0_0 bt173.2.1 bt173.2.2).bind fun bt176 => ((spec_l01Byte.f s0_0 bt176.2.1 bt176.2.2).bind fun bt179 => ((spec_l01Byte.f s0_0 bt179.2.1 bt179.2.2).bind fun bt182 => (if a1 = 0 then (none) else (some (Int.tmod (wrap64 ((wrap64 ((wrap64 ((wrap64 (bt173.1 * 16777216)) + (wrap64 (bt176.1 * 65536)))) + (wrap64 (bt179.1 * 256)))) + bt182.1)) a1, bt182.2.1, bt182.2.2))))))))
set_option maxHeartbeats 8000000 in
set_option maxRecDepth 100000 in
theorem spec_l01Below.calls (g : Nat) (s0_0 : List Int) (s0_1 : Int) (s0_2 : Int) (a1 : Int) (r1 : Int) (r2 : Int) (r3 : Int) (w0 w : World) (hI : IsS159 w0 w g s0_0 s0_1 s0_2) (hB : Below w0.heap.size w0 w) (h : spec_l01Below.f s0_0 s0_1 s0_2 a1 = some (r1, r2, r3)) :
  Calls Try.prog 94 #[.pointer (some ⟨g, 0, none⟩), .int .i64 a1] w fun e w' => e = .returned (.int .i64 r1) ∧ IsS159 w0 w' g s0_0 r2 r3 ∧ Below w0.heap.size w0 w' ∧ KeepBut w w' g none := by
 have HI0 := am hI
 have HK := am (KeepBut.refl w g none)
 have HL := am hB.size
 clear hI
 have HW0 := am hB.size
 have HB := am hB
 clear hB
 have HZ1 := h
 clear h
 unfold spec_l01Below.f at HZ1
 obtain ⟨c3b0, HZ2⟩ | ⟨c3b0, HZ2⟩ := sd HZ1
 ·obtain ⟨rfl, rfl, rfl⟩ := s3 HZ2; clear HZ2 HZ1; go_enter Try.func94, Try.ntmps94
  go_wp2
  go_ret; exact ⟨B4x8_, B4x0_, (Ae1 HB (IsS159.gf HI0)), (Ak0 HK)⟩
 ·obtain ⟨c4b0, HZ3⟩ | ⟨c4b0, HZ3⟩ := sd HZ2
  ·obtain ⟨⟨t170, t171, t172⟩, A5, HZ4⟩ := bsi HZ3; (try dsimp only at HZ4)
   obtain ⟨c6, HZ5⟩ | ⟨c6, HZ5⟩ := sp HZ4
   ·exact absurd HZ5 (by simp)
   ·obtain ⟨c6b0, c6b1⟩ := nE c6; obtain ⟨rfl, rfl, rfl⟩ := s3 HZ5; clear HZ5 HZ1 HZ2 HZ3 HZ4; go_enter Try.func94, Try.ntmps94
    go_wp2_with (first | ((with_reducible refine gate_callee (f := 93) rfl ?_); refine gM (some 14) Try.func93 (spec_l01Byte.calls g s0_0 s0_1 s0_2 t170 t171 t172 w0 _ B4x0_ (Ae1 HB (IsS159.gf HI0)) A5.out) ?_; rintro w7 ⟨hi, hb, hk⟩; replace HK := am (KeepBut.trans (Ak0 HK) hk (.inl rfl)); replace HB := am (hb); replace HI0 := am (hi); (try clear hb); (try clear hb2); (try clear hk hi)))
    go_ret; exact ⟨B4x8_, B4x0_, (Ae1 HB (IsS159.gf HI0)), (Ak0 HK)⟩
  ·obtain ⟨⟨t173, t174, t175⟩, A8, HZ6⟩ := bsi HZ3; (try dsimp only at HZ6); obtain ⟨⟨t176, t177, t178⟩, A9, HZ7⟩ := bsi HZ6; (try dsimp only at HZ7); obtain ⟨⟨t179, t180, t181⟩, A10, HZ8⟩ := bsi HZ7; (try dsimp only at HZ8); obtain ⟨⟨t182, t183, t184⟩, A11, HZ9⟩ := bsi HZ8; (try dsimp only at HZ9)
   obtain ⟨c12, HZ10⟩ | ⟨c12, HZ10⟩ := sp HZ9
   ·exact absurd HZ10 (by simp)
   ·obtain ⟨c12b0, c12b1⟩ := nE c12; obtain ⟨rfl, rfl, rfl⟩ := s3 HZ10; clear HZ10 HZ1 HZ2 HZ3 HZ6 HZ7 HZ8 HZ9; go_enter Try.func94, Try.ntmps94
    go_wp2_with (first | ((with_reducible refine gate_callee (f := 93) rfl ?_); refine gM (some 18) Try.func93 (spec_l01Byte.calls g s0_0 s0_1 s0_2 t173 t174 t175 w0 _ B4x0_ (Ae1 HB (IsS159.gf HI0)) A8.out) ?_; rintro w13 ⟨hi, hb, hk⟩; replace HK := am (KeepBut.trans (Ak0 HK) hk (.inl rfl)); replace HB := am (hb); replace HI0 := am (hi); (try clear hb); (try clear hb2); (try clear hk hi)) | ((with_reducible refine gate_callee (f := 93) rfl ?_); refine gM (some 20) Try.func93 (spec_l01Byte.calls g s0_0 t174 t175 t176 t177 t178 w0 _ B4x0_ (Ae1 HB (IsS159.gf HI0)) A9.out) ?_; rintro w14 ⟨hi, hb, hk⟩; replace HK := am (KeepBut.trans (Ak0 HK) hk (.inl rfl)); replace HB := am (hb); replace HI0 := am (hi); (try clear hb); (try clear hb2); (try clear hk hi)) | ((with_reducible refine gate_callee (f := 93) rfl ?_); refine gM (some 22) Try.func93 (spec_l01Byte.calls g s0_0 t177 t178 t179 t180 t181 w0 _ B4x0_ (Ae1 HB (IsS159.gf HI0)) A10.out) ?_; rintro w15 ⟨hi, hb, hk⟩; replace HK := am (KeepBut.trans (Ak0 HK) hk (.inl rfl)); replace HB := am (hb); replace HI0 := am (hi); (try clear hb); (try clear hb2); (try clear hk hi)) | ((with_reducible refine gate_callee (f := 93) rfl ?_); refine gM (some 24) Try.func93 (spec_l01Byte.calls g s0_0 t180 t181 t182 t183 t184 w0 _ B4x0_ (Ae1 HB (IsS159.gf HI0)) A11.out) ?_; rintro w16 ⟨hi, hb, hk⟩; replace HK := am (KeepBut.trans (Ak0 HK) hk (.inl rfl)); replace HB := am (hb); replace HI0 := am (hi); (try clear hb); (try clear hb2); (try clear hk hi)))
    go_ret; exact ⟨B4x8_, B4x0_, (Ae1 HB (IsS159.gf HI0)), (Ak0 HK)⟩

/-! ### spec_l01Once: function 111 -/
def spec_l01Once.f (s0_0 : List Int) (s0_1 : Int) (s0_2 : Int) (a1 : Int) : Option (Bool × Int × Int) := (spec_l01Below.f s0_0 s0_1 s0_2 a1).bind fun bt185 => (some ((bt185.1 == 0), bt185.2.1, bt185.2.2))
set_option maxHeartbeats 8000000 in
set_option maxRecDepth 100000 in
theorem spec_l01Once.calls (g : Nat) (s0_0 : List Int) (s0_1 : Int) (s0_2 : Int) (a1 : Int) (r1 : Bool) (r2 : Int) (r3 : Int) (w0 w : World) (hI : IsS159 w0 w g s0_0 s0_1 s0_2) (hB : Below w0.heap.size w0 w) (h : spec_l01Once.f s0_0 s0_1 s0_2 a1 = some (r1, r2, r3)) :
  Calls Try.prog 111 #[.pointer (some ⟨g, 0, none⟩), .int .i64 a1] w fun e w' => e = .returned (.bool r1) ∧ IsS159 w0 w' g s0_0 r2 r3 ∧ Below w0.heap.size w0 w' ∧ KeepBut w w' g none := by
 have HI0 := am hI
 have HK := am (KeepBut.refl w g none)
 have HL := am hB.size
 clear hI
 have HW0 := am hB.size
 have HB := am hB
 clear hB
 have HZ1 := h
 clear h
 unfold spec_l01Once.f at HZ1
 obtain ⟨⟨t185, t186, t187⟩, A3, HZ2⟩ := bsi HZ1
 (try dsimp only at HZ2)
 obtain ⟨rfl, rfl, rfl⟩ := s3 HZ2
 clear HZ2 HZ1
 go_enter Try.func111, Try.ntmps111
 go_wp2_with (first | ((with_reducible refine gate_callee (f := 94) rfl ?_); refine gM (some 7) Try.func94 (spec_l01Below.calls g s0_0 s0_1 s0_2 a1 t185 t186 t187 w0 _ B4x0_ (Ae1 HB (IsS159.gf HI0)) A3.out) ?_; rintro w4 ⟨hi, hb, hk⟩; replace HK := am (KeepBut.trans (Ak0 HK) hk (.inl rfl)); replace HB := am (hb); replace HI0 := am (hi); (try clear hb); (try clear hb2); (try clear hk hi)))
 go_ret
 exact ⟨B4x8_, B4x0_, (Ae1 HB (IsS159.gf HI0)), (Ak0 HK)⟩

/-! ### spec_l01Long: function 115 -/
def spec_l01Long.l0 : Nat → Int → Int → List Int → Int → Option (ByteArray)
 | 0, _, _, _, _ => none
 | k + 1, x0, x1, x5, x6 => if x6 < x0 then (if 0 ≤ x6 then (if x6 < (x5.length : Int) then (spec_l01Long.l0 k x0 x1 (x5.set (x6 : Int).toNat x1) (wrap64 (x6 + 1))) else (none)) else (none)) else (some (strOfNums x5))
def spec_l01Long.f (k : Nat) (a0 : Int) (a1 : Int) : Option (ByteArray) := if 0 ≤ a0 then (if (a0 : Int).toNat ≤ 281474976710656 then (spec_l01Long.l0 k a0 a1 (List.replicate (a0 : Int).toNat 0) 0) else (none)) else (none)
set_option maxHeartbeats 8000000 in
set_option maxRecDepth 100000 in
theorem spec_l01Long.calls (k : Nat) (a0 : Int) (a1 : Int) (r : ByteArray) (w : World) (h : spec_l01Long.f k a0 a1 = some r) :
  Calls Try.prog 115 #[.int .i64 a0, .int .u8 a1] w fun e w' => e = .returned (.string r) ∧ Below w.heap.size w w' := by
 have HB := am (Below.refl w.heap.size w)
 have HZ1 := h
 clear h
 unfold spec_l01Long.f at HZ1
 obtain ⟨c3b0, c3b1, HZ2⟩ := ye HZ1
 obtain ⟨c4b0, c4b1, HZ3⟩ := ye HZ2
 obtain ⟨y188, hy188⟩ : ∃ y_ : List Int, y_ = (List.replicate (a0 : Int).toNat 0) := ⟨_, rfl⟩
 (first | with_reducible replace HZ3 := hq hy188 HZ3 | rw [← hy188] at HZ3 | simp only [← hy188] at HZ3)
 have Ny188 := am hy188
 clear hy188
 replace HZ3 := am HZ3
 clear HZ1 HZ2
 go_enter Try.func115, Try.ntmps115
 go_wp2_with (first | ((with_reducible refine gate_dst (N := 8) rfl ?_); refine Kd.R_make (Kd.int .u8) _ 5 rfl (N := 8) rfl 59 _ _ rfl a0 rfl rfl Try.underlying59 (.int .u8 0) 1 info5 rfl (by decide) (by omega) 0 (ok := fun _ => True) (okp := fun _ => True) rfl (fun _ hk => hk) trivial (dga) (Nat.le_trans (Nat.mul_le_mul_right _ (dga : a0.toNat ≤ 281474976710656)) (by omega)) (Below.refl _ _) (Nat.le_refl _) ?_; intro v189 w5 ho6 hb hg_ hnew_; clear hg_ hnew_; (first | rw [← Ny188.out] at ho6 | (simp only [Int.reduceToNat] at ho6; rw [← Ny188.out] at ho6)); have HO190 := am (Kd.R_lower ho6 (below_size (Ae0 HB))); replace HB := hA HB hb; clear hb ho6))
 go_loopg [6] k (fun kq v6 w' => ∃ (x5_1 : List Int) (x6_1 : Int), v6 = .int .i64 x6_1 ∧ Aside0 (spec_l01Long.l0 kq a0 a1 x5_1 x6_1 = some r) ∧ Aside0 (kq ≤ k) ∧ Aside0 (Kd.R (Kd.int .u8) 5 w' w.heap.size (fun _ => True) v189 x5_1) ∧ Aside0 (Below w.heap.size w w'))
 case atStart => exact ⟨(y188), (0), (be_), HZ3, ⟨Nat.le_refl _⟩, ⟨(Ar HO190)⟩, ⟨(Ae0 HB)⟩⟩
 case round =>
  clear HZ3
  try clear c3
  try clear c3b0
  try clear c3b1
  try clear c4
  try clear c4b0
  try clear c4b1
  obtain ⟨x5_1, x6_1, rfl, HZ4, HK1, HO_5, HB⟩ := hrel
  cases gk with
  | zero => exact absurd HZ4.out (by simp [spec_l01Long.l0])
  | succ k1 => ?_
  replace HZ4 := HZ4.out; simp only [spec_l01Long.l0] at HZ4
  obtain ⟨c7b0, HZ5⟩ | ⟨c7b0, HZ5⟩ := sd HZ4
  ·obtain ⟨c8b0, HZ6⟩ := yd HZ5; obtain ⟨c9b0, HZ7⟩ := yd HZ6; obtain ⟨y191, hy191⟩ : ∃ y_ : List Int, y_ = (x5_1.set (x6_1 : Int).toNat a1) := ⟨_, rfl⟩
   (first | with_reducible replace HZ7 := hq hy191 HZ7 | rw [← hy191] at HZ7 | simp only [← hy191] at HZ7)
   have Ny191 := am hy191; clear hy191; replace HZ7 := am HZ7; clear HZ4 HZ5 HZ6
   have p10 : 0 ≤ (x6_1 : Int) := dga
   have q10 : (x6_1 : Int) < ((x5_1.length : Int) : Int) := dga
   obtain ⟨go10, co10, eo10, gb10, gl10, cl10, HG10⟩ := Kd.R_form HO_5.out (by omega)
   (first | cases eo10 | (injection eo10 with ea_ en_ ec_; (first | subst ea_ | (injection ea_ with ea_; subst ea_)); subst ec_; clear en_))
   have GB10 := am gb10; have GG10 := am HG10; clear gb10 gl10 HG10; obtain ⟨hx10_0, hf10_0⟩ := Kd.R_celln 0 HO_5.out (x6_1 : Int) p10 q10; replace p10 := eq_true p10; replace q10 := eq_true q10; have HP11 := Kd.R_putg HO_5.out (x6_1 : Int) a1
   go_wp2_with (first | ((with_reducible refine gate_store (t := 5) (p := 17) rfl ?_); refine store_event (t := 5) (p := 17) (v := ?vo_w12) (w1 := (wr.setCell ⟨go10, (x6_1 : Int).toNat, none⟩ (.int .u8 a1))) ?hg ?ho ?hn ?hr ?_; (case ho => rfl); (case hg => rfl); (case hn => rfl); (case hr => exact gs_); intro w12 hw; have hg : wr.grownBy w12 (some go10) := (by rw [hw]; exact HP11.2); have hp_ : Kd.R (Kd.int .u8) 5 w12 w.heap.size (fun _ => True) (.slice (some ⟨go10, 0, none⟩) x5_1.length co10) y191 := (by rw [hw, Ny191.out]; exact HP11.1); clear HP11; replace HO_5 := am (hp_); replace HB := am (by rw [hw]; exact below_set (HB.out) GB10.out : Below w.heap.size w w12); clear hg hw hp_))
   go_roundg k1
   case measure => have := HK1.out; omega
   case rel => exact ⟨(y191), (wrap64 (x6_1 + 1)), (be_), HZ7, ⟨(by have := HK1.out; omega)⟩, ⟨(Ar HO_5)⟩, ⟨(Ae0 HB)⟩⟩
  ·obtain rfl := Option.some.inj HZ5; clear HZ5 HZ4; have hcv13 := own_string (P := Try.prog) Try.underlying59 Try.underlying5 Try.underlying9 (Kd.own_of_R HO_5.out)
   go_wp2
   go_ret; exact ⟨B4x8_, (Ae0 HB)⟩

/-! ### spec_l01PickInt: function 116 -/
def spec_l01PickInt.f (s0_0 : List Int) (s0_1 : Int) (s0_2 : Int) (l1 : List Int) : Option (Int × Int × Int) := (spec_l01Below.f s0_0 s0_1 s0_2 (l1.length : Int)).bind fun bt192 => (if 0 ≤ bt192.1 then (if bt192.1 < (l1.length : Int) then (some (rd l1 bt192.1, bt192.2.1, bt192.2.2)) else (none)) else (none))
set_option maxHeartbeats 8000000 in
set_option maxRecDepth 100000 in
theorem spec_l01PickInt.calls (g : Nat) (s0_0 : List Int) (s0_1 : Int) (s0_2 : Int) (A1 : Option Addr) (c1 : Nat) (l1 : List Int) (r1 : Int) (r2 : Int) (r3 : Int) (w0 w : World) (hI : IsS159 w0 w g s0_0 s0_1 s0_2) (hB : Below w0.heap.size w0 w) (hr1 : Kd.C (Kd.int .i64) w A1 l1.length l1) (hc1 : l1.length ≤ c1) (hf1 : ∀ ad, A1 = some ad → 0 < l1.length → ad.block ≠ g) (h : spec_l01PickInt.f s0_0 s0_1 s0_2 l1 = some (r1, r2, r3)) :
  Calls Try.prog 116 #[.pointer (some ⟨g, 0, none⟩), .slice A1 l1.length c1] w fun e w' => e = .returned (.int .i64 r1) ∧ IsS159 w0 w' g s0_0 r2 r3 ∧ Below w0.heap.size w0 w' ∧ KeepBut w w' g none := by
 have HR1 := am hr1
 have HC1 := am hc1
 clear hr1 hc1
 have HI0 := am hI
 have HK := am (KeepBut.refl w g none)
 have HL := am hB.size
 clear hI
 have HW0 := am hB.size
 have HB := am hB
 clear hB
 have HZ1 := h
 clear h
 unfold spec_l01PickInt.f at HZ1
 obtain ⟨⟨t192, t193, t194⟩, A3, HZ2⟩ := bsi HZ1
 (try dsimp only at HZ2)
 obtain ⟨c4b0, HZ3⟩ := yd HZ2
 obtain ⟨c5b0, HZ4⟩ := yd HZ3
 obtain ⟨rfl, rfl, rfl⟩ := s3 HZ4
 clear HZ4 HZ1 HZ2 HZ3
 go_enter Try.func116, Try.ntmps116
 go_wp2_with (first | ((with_reducible refine gate_callee (f := 94) rfl ?_); refine gM (some 9) Try.func94 (spec_l01Below.calls g s0_0 s0_1 s0_2 (l1.length : Int) t192 t193 t194 w0 _ B4x0_ (Ae1 HB (IsS159.gf HI0)) A3.out) ?_; rintro w6 ⟨hi, hb, hk⟩; replace HK := am (KeepBut.trans (Ak0 HK) hk (.inl rfl)); replace HB := am (hb); replace HI0 := am (hi); (try clear hb); (try clear hb2); (try clear hk hi); have p195 : 0 ≤ (t192 : Int) := dga; have q195 : t192 < (l1.length : Int) := dga; obtain ⟨ad195, e195, hx195_0⟩ := Kd.at_int HR1.out t192 p195 q195; cases e195; replace hx195_0 := keep_cell HK.out hx195_0 (by first | (rw [add_block]; exact hf1 _ rfl (by omega)) | exact hf1 _ rfl (by omega) | exact hf1 ad195 rfl (by omega)); replace p195 := eq_true p195; replace q195 := eq_true q195))
 go_ret
 exact ⟨B4x8_, B4x0_, (Ae1 HB (IsS159.gf HI0)), (Ak0 HK)⟩

end Go.Proofs.Ytmknnoeggkgkgaa.QFnBits
