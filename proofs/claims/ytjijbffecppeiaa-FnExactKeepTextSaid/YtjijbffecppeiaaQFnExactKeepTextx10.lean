/- Functions that a law reaches, as functions of Lean, and the walks that show that the calls come to their answers: written by a program of this project out of the translation. No condition. -/
import Derived.Test.YtjijbffecppeiaaQFnExactKeepTextx0
import Derived.Test.YtjijbffecppeiaaQFnExactKeepTextx8
import Derived.Test.YtjijbffecppeiaaQFnExactKeepTextx9
import Derived.Test.YtjijbffecppeiaaVFnExactKeepTextShort3
import Derived.Test.YtjijbffecppeiaaVFnExactKeepTextShort2
import Derived.Test.YtjijbffecppeiaaVFnExactKeepTextShort
namespace Go.Proofs.Ytjijbffecppeiaa.QFnExactKeepText
open Go.RowKit Go.Proofs.YtjijbffecppeiaaW.PrintWords Go.Proofs.YtjijbffecppeiaaW.PrintLast Go.Proofs.YtjijbffecppeiaaW.PrintMore Go.Proofs.Ytjijbffecppeiaa.Short
attribute [local go_sem] max2_int min2_int max_two min_two max_three min_three max_four min_four   -- for this text's walks alone
set_option linter.unusedVariables false
set_option linter.unusedSimpArgs false

theorem B10x0_ {p : Prop} (h : p := by (with_reducible repeat (first | refine blk_drewN ?_ _ | refine blk_drew ?_ | refine blk_alloc ?_ _)); exact BK225.out) : p := h
theorem B10x1_ {p : Prop} (h : p := by repeat (first | (with_reducible first | exact HB.out | apply below_alloc | apply pw_below_drewN | apply below_drew1 | refine below_set ?_ GE225.out) | exact HB.out)) : p := h
theorem B10x2_ {p : Prop} (h : p := by repeat (first | (with_reducible first | exact HB.out | apply below_alloc | apply pw_below_drewN | apply below_drew1 | refine below_set ?_ GE225.out | refine below_set ?_ GE232.out) | exact HB.out)) : p := h
theorem B10x3_ {p : Prop} (h : p := by repeat (first | (with_reducible first | exact HB.out | apply below_alloc | apply pw_below_drewN | apply below_drew1 | refine below_set ?_ GE225.out | refine below_set ?_ GE246.out) | exact HB.out)) : p := h
theorem B10x4_ {p : Prop} (h : p := by (with_reducible repeat (first | refine blk_drewN ?_ _ | refine blk_drew ?_ | refine blk_alloc ?_ _)); exact BK232.out) : p := h
theorem B10x5_ {p : Prop} (h : p := by (with_reducible repeat (first | refine blk_drewN ?_ _ | refine blk_drew ?_ | refine blk_alloc ?_ _)); exact BK246.out) : p := h
theorem B10x6_ {p : Prop} (h : p := by kernel_rfl) : p := h
theorem B10x7_ {p : Prop} (h : p := by repeat (first | (with_reducible first | exact HB.out | apply below_alloc | apply pw_below_drewN | apply below_drew1) | exact HB.out)) : p := h
theorem B10x8_ {p : Prop} (h : p := by (try simp only [List.map_toArray, List.map_cons, List.map_nil]); first | done | rfl | (simp only [List.length_drop, List.length_take]; rfl)) : p := h
theorem B10x9_ {p : Prop} (h : p := by (with_reducible repeat (first | apply Kd.R_alloc | apply Kd.R_drewN | apply Kd.R_drew)); exact HO235.out) : p := h
theorem B10x10_ {p : Prop} (h : p := by (with_reducible repeat (first | apply Kd.R_alloc | apply Kd.R_drewN | apply Kd.R_drew)); exact HO249.out) : p := h
theorem B10x11_ {p : Prop} (h : p := by (with_reducible repeat (first | apply Kd.R_alloc | apply Kd.R_drewN | apply Kd.R_drew)); exact (Q_HO239 h0_)) : p := h
theorem B10x12_ {p : Prop} (h : p := by (with_reducible repeat (first | apply Kd.R_alloc | apply Kd.R_drewN | apply Kd.R_drew)); exact (Q_HO253 h0_)) : p := h
theorem B10x13_ {p : Prop} (h : p := by (with_reducible repeat (first | apply Kd.R_alloc | apply Kd.R_drewN | apply Kd.R_drew)); exact HO239.out) : p := h
theorem B10x14_ {p : Prop} (h : p := by (with_reducible repeat (first | apply Kd.R_alloc | apply Kd.R_drewN | apply Kd.R_drew)); exact HO253.out) : p := h
theorem B10x15_ {p : Prop} (h : p := by first | (with_reducible assumption) | assumption) : p := h
theorem B10x16_ {p : Prop} (h : p := by (with_reducible repeat (first | apply Kd.R_alloc | apply Kd.R_drewN | apply Kd.R_drew)); exact (Q_HO235 h0_)) : p := h
theorem B10x17_ {p : Prop} (h : p := by (with_reducible repeat (first | apply Kd.R_alloc | apply Kd.R_drewN | apply Kd.R_drew)); exact (Q_HO249 h0_)) : p := h
theorem B10x18_ {p : Prop} (h : p := by rw [ha.out]; exact putSel_upk 0 hb_ rfl rfl rfl) : p := h
theorem B10x19_ {p : Prop} (h : p := by rw [ha.out]; exact putSel_upk 1 hb_ rfl rfl rfl) : p := h
theorem B10x20_ {p : Prop} (h : p := by rw [ha.out]; exact putSel_upk 2 hb_ rfl rfl rfl) : p := h
theorem B10x21_ {p : Prop} (h : p := by rw [ha.out]; exact putSel_upk 3 hb_ rfl rfl rfl) : p := h
theorem B10x22_ {p : Prop} (h : p := by rw [ha.out]; exact putSel_upk 4 hb_ rfl rfl rfl) : p := h
theorem B10x23_ {p : Prop} (h : p := by rw [ha.out]; exact putSel_upk 5 hb_ rfl rfl rfl) : p := h
theorem B10x24_ {p : Prop} (h : p := by rw [ha.out]; exact putSel_upk 6 hb_ rfl rfl rfl) : p := h
theorem B10x25_ {p : Prop} (h : p := by rw [ha.out]; exact putSel_upk 7 hb_ rfl rfl rfl) : p := h
theorem B10x26_ {p : Prop} (h : p := by rw [ha.out]; exact putSel_upk 8 hb_ rfl rfl rfl) : p := h
theorem B10x27_ {p : Prop} (h : p := by rw [ha.out]; exact putSel_upk 9 hb_ rfl rfl rfl) : p := h
/-! ### impl_KeepText: function 79 -/
mutual
def impl_KeepText.l0 : Nat → ByteArray → List (S119) → Int → Int → List (S119) → List (S121) → Option (ByteArray × Bool)
 | 0, _, _, _, _, _, _ => none
 | k + 1, x4, x18, x19, x20, x226000, x226001 => if x20 < x19 then (if 0 ≤ x20 then (if x20 < (x18.length : Int) then ((impl_varTexts.f k (([(rd_T119 x18 x20).f0, (rd_T119 x18 x20).f1] : List Int))).bind fun t236 => ((impl_shortTexts.f k (([(rd_T119 x18 x20).f2] : List ByteArray))).bind fun t240 => (if t236.size + t240.size ≤ 9223372036854775807 then (if x4.size + (t236 ++ t240).size ≤ 9223372036854775807 then (impl_KeepText.l0 k (x4 ++ (t236 ++ t240)) x18 x19 (wrap64 (x20 + 1)) x226000 x226001) else (none)) else (none)))) else (none)) else (none)) else ((impl_varTexts.f k (([(x226001.length : Int)] : List Int))).bind fun t244 => (if x4.size + t244.size ≤ 9223372036854775807 then (impl_KeepText.l1 k (x4 ++ t244) x226001 (x226001.length : Int) 0) else (none)))
def impl_KeepText.l1 : Nat → ByteArray → List (S121) → Int → Int → Option (ByteArray × Bool)
 | 0, _, _, _, _ => none
 | k + 1, x4, x46, x47, x48 => if x48 < x47 then (if 0 ≤ x48 then (if x48 < (x46.length : Int) then ((impl_shortTexts.f k (([(rd_T121 x46 x48).f0, (rd_T121 x46 x48).f1] : List ByteArray))).bind fun t250 => ((impl_varTexts.f k (([(rd_T121 x46 x48).f2] : List Int))).bind fun t254 => (if t250.size + t254.size ≤ 9223372036854775807 then (if x4.size + (t250 ++ t254).size ≤ 9223372036854775807 then (impl_KeepText.l1 k (x4 ++ (t250 ++ t254)) x46 x47 (wrap64 (x48 + 1))) else (none)) else (none)))) else (none)) else (none)) else (if (x4.size : Int) > 20000 then (some ((⟨#[]⟩ : ByteArray), false)) else (some (x4, true)))
end
def impl_KeepText.f (k : Nat) (l0_0 : List (S119)) (l0_1 : List (S121)) : Option (ByteArray × Bool) := (impl_KeepOk.f k l0_0 l0_1).bind fun t226 => (if t226 = true then ((impl_varTexts.f k (([(l0_0.length : Int)] : List Int))).bind fun t230 => (impl_KeepText.l0 k t230 l0_0 (l0_0.length : Int) 0 l0_0 l0_1)) else (some ((⟨#[]⟩ : ByteArray), false)))
theorem impl_KeepText.mono_l : ∀ k, (∀ y0 y1 y2 y3 y4 y5, LeO (impl_KeepText.l0 k y0 y1 y2 y3 y4 y5) (impl_KeepText.l0 (k + 1) y0 y1 y2 y3 y4 y5)) ∧ (∀ y0 y1 y2 y3, LeO (impl_KeepText.l1 k y0 y1 y2 y3) (impl_KeepText.l1 (k + 1) y0 y1 y2 y3))
 | 0 => ⟨fun _ _ _ _ _ _ r h => by simp [impl_KeepText.l0] at h, fun _ _ _ _ r h => by simp [impl_KeepText.l1] at h⟩
 | k + 1 => by
  obtain ⟨ih0, ih1⟩ := impl_KeepText.mono_l k
  refine ⟨?_, ?_⟩
  ·intro y0 y1 y2 y3 y4 y5
   unfold impl_KeepText.l0
   repeat' first
   | (with_reducible exact ih0 _ _ _ _ _ _)
   | (with_reducible exact ih1 _ _ _ _)
   | (with_reducible exact impl_KeepOk.mono _ _ _)
   | (with_reducible exact impl_shortTexts.mono _ _)
   | (with_reducible exact impl_varTexts.mono _ _)
   | (with_reducible exact LeO.refl _)
   | (with_reducible exact LeO.none _)
   | (with_reducible refine LeO.ite ?_ ?_)
   | (with_reducible refine LeO.bind ?_ (fun _ => ?_))
   | exact ih0 _ _ _ _ _ _
   | exact ih1 _ _ _ _
   | exact impl_KeepOk.mono _ _ _
   | exact impl_shortTexts.mono _ _
   | exact impl_varTexts.mono _ _
   | exact LeO.none _
   | refine LeO.ite ?_ ?_
   | refine LeO.bind ?_ (fun _ => ?_)
  ·intro y0 y1 y2 y3
   unfold impl_KeepText.l1
   repeat' first
   | (with_reducible exact ih0 _ _ _ _ _ _)
   | (with_reducible exact ih1 _ _ _ _)
   | (with_reducible exact impl_KeepOk.mono _ _ _)
   | (with_reducible exact impl_shortTexts.mono _ _)
   | (with_reducible exact impl_varTexts.mono _ _)
   | (with_reducible exact LeO.refl _)
   | (with_reducible exact LeO.none _)
   | (with_reducible refine LeO.ite ?_ ?_)
   | (with_reducible refine LeO.bind ?_ (fun _ => ?_))
   | exact ih0 _ _ _ _ _ _
   | exact ih1 _ _ _ _
   | exact impl_KeepOk.mono _ _ _
   | exact impl_shortTexts.mono _ _
   | exact impl_varTexts.mono _ _
   | exact LeO.none _
   | refine LeO.ite ?_ ?_
   | refine LeO.bind ?_ (fun _ => ?_)
theorem impl_KeepText.mono : ∀ a0 a1 k, LeO (impl_KeepText.f k a0 a1) (impl_KeepText.f (k + 1) a0 a1) := by
 intro a0 a1 k
 obtain ⟨ih0, ih1⟩ := impl_KeepText.mono_l k
 unfold impl_KeepText.f
 repeat' first
   | (with_reducible exact ih0 _ _ _ _ _ _)
   | (with_reducible exact ih1 _ _ _ _)
   | (with_reducible exact impl_KeepOk.mono _ _ _)
   | (with_reducible exact impl_shortTexts.mono _ _)
   | (with_reducible exact impl_varTexts.mono _ _)
   | (with_reducible exact LeO.refl _)
   | (with_reducible exact LeO.none _)
   | (with_reducible refine LeO.ite ?_ ?_)
   | (with_reducible refine LeO.bind ?_ (fun _ => ?_))
   | exact ih0 _ _ _ _ _ _
   | exact ih1 _ _ _ _
   | exact impl_KeepOk.mono _ _ _
   | exact impl_shortTexts.mono _ _
   | exact impl_varTexts.mono _ _
   | exact LeO.none _
   | refine LeO.ite ?_ ?_
   | refine LeO.bind ?_ (fun _ => ?_)
def impl_KeepText.T7 : Bool × List (List Nat × List Nat) := (true, [([], []), ([], []), ([1], [1]), ([], []), ([3], [3]), ([2, 4], [2, 4]), ([5], [5]), ([], []), ([7], [7]), ([8], [8]), ([9, 6], [9]), ([6, 10], [6, 10]), ([0, 11], [0, 11]), ([12, 10, 0, 1, 2, 3, 4, 5, 6, 7, 8, 9, 10, 11, 12], [0, 12])])
def impl_KeepText.B7 : List Nat := [0, 0, 2, 0, 8, 30, 62, 0, 128, 384, 1022, 2046, 4095, 8191]
theorem impl_KeepText.tab7 : rtab .any (opsOf Try.f79 7) = impl_KeepText.T7 := by kernel_rfl
theorem impl_KeepText.bits7 : waitsOk impl_KeepText.T7.2 impl_KeepText.B7 = true := by kernel_rfl
def impl_KeepText.T13 : Bool × List (List Nat × List Nat) := (true, [([], []), ([], []), ([1], [1]), ([], []), ([3], [3]), ([2, 4], [2, 4]), ([5], [5]), ([], []), ([7], [7]), ([8], [8]), ([9, 6], [9]), ([6, 10], [6, 10]), ([0, 11], [0, 11]), ([12, 10, 0, 1, 2, 3, 4, 5, 6, 7, 8, 9, 10, 11, 12], [0, 12])])
def impl_KeepText.B13 : List Nat := [0, 0, 2, 0, 8, 30, 62, 0, 128, 384, 1022, 2046, 4095, 8191]
theorem impl_KeepText.tab13 : rtab .any (opsOf Try.f79 13) = impl_KeepText.T13 := by kernel_rfl
theorem impl_KeepText.bits13 : waitsOk impl_KeepText.T13.2 impl_KeepText.B13 = true := by kernel_rfl
set_option maxHeartbeats 8000000 in
set_option maxRecDepth 100000 in
theorem impl_KeepText.calls (k : Nat) (A0_0 : Option Addr) (c0_0 : Nat) (l0_0 : List (S119)) (A0_1 : Option Addr) (c0_1 : Nat) (l0_1 : List (S121)) (r1 : ByteArray) (r2 : Bool) (w : World) (hr0_0 : Kd.C k119 w A0_0 l0_0.length l0_0) (hc0_0 : l0_0.length ≤ c0_0) (hr0_1 : Kd.C k121 w A0_1 l0_1.length l0_1) (hc0_1 : l0_1.length ≤ c0_1) (h : impl_KeepText.f k l0_0 l0_1 = some (r1, r2)) :
  Calls Try.prog 79 #[.agg #[.slice A0_0 l0_0.length c0_0, .slice A0_1 l0_1.length c0_1]] w fun e w' => e = .returned (.tuple #[.string r1, .bool r2]) ∧ Below w.heap.size w w' := by
 have hu42 := Try.underlying42
 have hu119 := Try.underlying119
 have hu121 := Try.underlying121
 have HR0_0 := Aside0.mk hr0_0
 have HC0_0 := Aside0.mk hc0_0
 clear hr0_0 hc0_0
 have HR0_1 := Aside0.mk hr0_1
 have HC0_1 := Aside0.mk hc0_1
 clear hr0_1 hc0_1
 have HB := Aside0.mk (Below.refl w.heap.size w)
 have H : ((impl_KeepOk.f k l0_0 l0_1).bind fun t226 => (if t226 = true then ((impl_varTexts.f k (([(l0_0.length : Int)] : List Int))).bind fun t230 => (impl_KeepText.l0 k t230 l0_0 (l0_0.length : Int) 0 l0_0 l0_1)) else (some ((⟨#[]⟩ : ByteArray), false)))) = some (r1, r2) := h
 clear h
 replace H := Option.bind_eq_some_iff.mp H
 obtain ⟨t226, A20, H⟩ := H
 (try dsimp only at H)
 have A2 := Aside0.mk A20
 clear A20
 by_cases c3 : t226 = true
 ·subst c3
  rw [if_pos rfl] at H
  obtain ⟨y227, hy227⟩ : ∃ y_ : List Int, y_ = (([(l0_0.length : Int)] : List Int)) := ⟨_, rfl⟩
  replace H : ((impl_varTexts.f k y227).bind fun t230 => (impl_KeepText.l0 k t230 l0_0 (l0_0.length : Int) 0 l0_0 l0_1)) = some (r1, r2) := by first | (rw [hy227]; with_reducible exact H) | (have H2_ := (Option.bind_some _ _).symm.trans H; rw [hy227]; with_reducible exact H2_) | (have H2_ := (Option.bind_some _ _).symm.trans H; with_reducible exact H2_) | with_reducible exact H | (rw [hy227]; exact H) | exact H
  have Ny227 := Aside0.mk hy227
  clear hy227
  replace H := Option.bind_eq_some_iff.mp H
  obtain ⟨t230, A40, H⟩ := H
  (try dsimp only at H)
  have A4 := Aside0.mk A40
  clear A40
  have H' := Aside0.mk H
  clear H
  go_enter Try.func79, Try.ntmps79
  go_wp2_with (first | ((with_reducible refine gate_dst (N := 1) rfl ?_); refine box_event ?hg (N := 1) ?hd (cs := #[.slice A0_0 l0_0.length c0_0, .slice A0_1 l0_1.length c0_1]) (t := 42) ?hr ?_; (case hd => rfl); (case hg => rfl); (case hr => first | (go_simp; done) | (go_simp; rfl)); intro gb225 hg w5 hbox hb; have n0_ := Aside0.mk (below_step B10x7_ hb); have n1_ := Aside0.mk (hbox); have n2_ := Aside0.mk ((by rw [hg]; exact (below_size B10x7_) : w.heap.size ≤ gb225)); have n3_ := Aside0.mk ((by rw [hg]; exact (below_size B10x7_) : w.heap.size ≤ gb225)); clear HB; have HB := n0_; have BK225 := n1_; have GW225 := n2_; have GE225 := n3_; clear n0_ n1_ n2_ n3_; clear hb hbox hg; obtain ⟨hcz6_0, hcz6_1⟩ := cl2 BK225.out; obtain ⟨hfz6_0, hfz6_1⟩ := fr2 BK225.out) | ((with_reducible refine gate_callee (f := 34) rfl ?_); refine goesL_ (some 10) rfl rfl Try.func34 B10x6_ rfl #[.agg #[.slice A0_0 l0_0.length c0_0, .slice A0_1 l0_1.length c0_1]] rfl B10x8_ ?_; (with_reducible refine (impl_KeepOk.calls k _ _ l0_0 _ _ l0_1 true _ ?side1 ?side2 ?side3 ?side4 A2.out).mono ?_); (case side1 => repeat (first | exact (Kd.C_below HR0_0.out HB.out) | (with_reducible refine Kd.C_alloc ?_ _) | (with_reducible refine Kd.C_drewN ?_ _) | (with_reducible refine Kd.C_drew ?_))); (case side2 => exact HC0_0.out); (case side3 => repeat (first | exact (Kd.C_below HR0_1.out HB.out) | (with_reducible refine Kd.C_alloc ?_ _) | (with_reducible refine Kd.C_drewN ?_ _) | (with_reducible refine Kd.C_drew ?_))); (case side4 => exact HC0_1.out); rintro e w7 ⟨rfl, hb⟩; refine ⟨_, rfl, ?_⟩; have n0_ := Aside0.mk (blk_below (g := gb225) (o := .cells #[.slice A0_0 l0_0.length c0_0, .slice A0_1 l0_1.length c0_1] 42 (0, 0)) B10x0_ hb); have n1_ := Aside0.mk (below_step B10x1_ hb); clear BK225; clear HB; have BK225 := n0_; have HB := n1_; clear n0_ n1_; (try clear hb); (try clear hb2); (try clear hk); (try clear hi); obtain ⟨hcz8_0, hcz8_1⟩ := cl2 BK225.out; obtain ⟨hfz8_0, hfz8_1⟩ := fr2 BK225.out) | ((with_reducible refine gate_dst (N := 15) rfl ?_); refine Kd.R_lit (Kd.int .i64) _ 3 ?hg (N := 15) ?hd (xs := ([(l0_0.length : Int)] : List Int)) (inner := [.int .i64 (l0_0.length : Int)]) (ok := fun _ => True) (okp := fun _ => True) ?hr ?hp (fun _ hk => hk) trivial (Below.refl _ _) (Nat.le_refl _) (by simp) ?_; (case hd => rfl); (case hg => rfl); (case hr => first | (go_simp; done) | (go_simp; rfl)); (case hp => exact (Reps.one (show Kd.M (Kd.int .i64) _ _ _ (l0_0.length : Int) [.int .i64 (l0_0.length : Int)] from rfl) (Reps.none _ _))); intro v228 w9 ho10 hb hg_ hnew_; clear hg_ hnew_; (first | rw [← Ny227.out] at ho10 | (simp only [Int.reduceToNat] at ho10; rw [← Ny227.out] at ho10)); have n0_ := Aside0.mk (Kd.R_lower ho10 (below_size B10x1_)); have n1_ := Aside0.mk (blk_below (g := gb225) (o := .cells #[.slice A0_0 l0_0.length c0_0, .slice A0_1 l0_1.length c0_1] 42 (0, 0)) B10x0_ hb); have n2_ := Aside0.mk (below_step B10x1_ hb); clear BK225; clear HB; have HO229 := n0_; have BK225 := n1_; have HB := n2_; clear n0_ n1_ n2_; clear hb ho10; obtain ⟨Ao11, co11, eo11⟩ := Kd.R_slice HO229.out; subst eo11) | ((with_reducible refine gate_callee (f := 146) rfl ?_); refine goesL_ (some 16) rfl rfl Try.func146 B10x6_ rfl #[.slice Ao11 y227.length co11] rfl B10x8_ ?_; (with_reducible refine (impl_varTexts.calls k _ _ y227 t230 _ ?side1 ?side2 A4.out).mono ?_); (case side1 => repeat (first | exact (Kd.R_reads' HO229.out).2.2 | (with_reducible refine Kd.C_alloc ?_ _) | (with_reducible refine Kd.C_drewN ?_ _) | (with_reducible refine Kd.C_drew ?_))); (case side2 => exact (Kd.R_reads' HO229.out).2.1); rintro e w12 ⟨rfl, hb⟩; refine ⟨_, rfl, ?_⟩; have n0_ := Aside0.mk (Kd.R_below (by (with_reducible repeat (first | apply Kd.R_alloc | apply Kd.R_drewN | apply Kd.R_drew)); exact HO229.out) hb); have n1_ := Aside0.mk (blk_below (g := gb225) (o := .cells #[.slice A0_0 l0_0.length c0_0, .slice A0_1 l0_1.length c0_1] 42 (0, 0)) B10x0_ hb); have n2_ := Aside0.mk (below_step B10x1_ hb); clear HO229; clear BK225; clear HB; have HO229 := n0_; have BK225 := n1_; have HB := n2_; clear n0_ n1_ n2_; (try clear hb); (try clear hb2); (try clear hk); (try clear hi); obtain ⟨hcz13_0, hcz13_1⟩ := cl2 BK225.out; obtain ⟨hfz13_0, hfz13_1⟩ := fr2 BK225.out))
  go_loopg [4, 20] k (fun kq v4 v20 w' => ∃ (x4_1 : ByteArray) (x20_1 : Int), v4 = .string x4_1 ∧ v20 = .int .i64 x20_1 ∧ Aside0 (impl_KeepText.l0 kq x4_1 l0_0 (l0_0.length : Int) x20_1 l0_0 l0_1 = some (r1, r2)) ∧ Aside0 (kq ≤ k) ∧ Aside0 (w'.heap[gb225]? = some (.cells #[(.slice A0_0 l0_0.length c0_0), (.slice A0_1 l0_1.length c0_1)] 42 (0, 0))) ∧ Aside0 (Below w.heap.size w w'))
  case atStart => exact ⟨(t230), (0), (be_), (be_), H', ⟨Nat.le_refl _⟩, ⟨by (with_reducible repeat (first | refine blk_drewN ?_ _ | refine blk_drew ?_ | refine blk_alloc ?_ _)); exact BK225.out⟩, ⟨by repeat (first | (with_reducible first | exact HB.out | apply below_alloc | apply pw_below_drewN | apply below_drew1 | refine below_set ?_ GE225.out) | exact HB.out)⟩⟩
  case round =>
   clear H'
   try clear c1
   try clear p2
   try clear c3
   try clear c7
   try clear hcz13_0
   try clear hcz13_1
   try clear hcz6_0
   try clear hcz6_1
   try clear hcz8_0
   try clear hcz8_1
   try clear hfz13_0
   try clear hfz13_1
   try clear hfz6_0
   try clear hfz6_1
   try clear hfz8_0
   try clear hfz8_1
   obtain ⟨x4_1, x20_1, rfl, rfl, HA, HK1, BK225, HB⟩ := hrel
   cases gk with
   | zero => exact absurd HA.out (by simp [impl_KeepText.l0])
   | succ k1 =>
    have H := HA.out
    clear HA
    simp only [impl_KeepText.l0] at H
    by_cases c14 : x20_1 < (l0_0.length : Int)
    ·rw [if_pos c14] at H
     have c14b0 : decide (x20_1 < (l0_0.length : Int)) = true := decide_eq_true c14
     clear c14
     by_cases c15 : 0 ≤ x20_1
     ·rw [if_pos c15] at H
      have c15b0 : decide (0 ≤ x20_1) = true := decide_eq_true c15
      clear c15
      by_cases c16 : x20_1 < (l0_0.length : Int)
      ·rw [if_pos c16] at H
       have c16b0 : decide (x20_1 < (l0_0.length : Int)) = true := decide_eq_true c16
       clear c16
       obtain ⟨y233, hy233⟩ : ∃ y_ : List Int, y_ = (([(rd_T119 l0_0 x20_1).f0, (rd_T119 l0_0 x20_1).f1] : List Int)) := ⟨_, rfl⟩
       replace H : ((impl_varTexts.f k1 y233).bind fun t236 => ((impl_shortTexts.f k1 (([(rd_T119 l0_0 x20_1).f2] : List ByteArray))).bind fun t240 => (if t236.size + t240.size ≤ 9223372036854775807 then (if x4_1.size + (t236 ++ t240).size ≤ 9223372036854775807 then (impl_KeepText.l0 k1 (x4_1 ++ (t236 ++ t240)) l0_0 (l0_0.length : Int) (wrap64 (x20_1 + 1)) l0_0 l0_1) else (none)) else (none)))) = some (r1, r2) := by first | (rw [hy233]; with_reducible exact H) | (have H2_ := (Option.bind_some _ _).symm.trans H; rw [hy233]; with_reducible exact H2_) | (have H2_ := (Option.bind_some _ _).symm.trans H; with_reducible exact H2_) | with_reducible exact H | (rw [hy233]; exact H) | exact H
       have Ny233 := Aside0.mk hy233
       clear hy233
       replace H := Option.bind_eq_some_iff.mp H
       obtain ⟨t236, A170, H⟩ := H
       (try dsimp only at H)
       have A17 := Aside0.mk A170
       clear A170
       obtain ⟨y237, hy237⟩ : ∃ y_ : List ByteArray, y_ = (([(rd_T119 l0_0 x20_1).f2] : List ByteArray)) := ⟨_, rfl⟩
       replace H : ((impl_shortTexts.f k1 y237).bind fun t240 => (if t236.size + t240.size ≤ 9223372036854775807 then (if x4_1.size + (t236 ++ t240).size ≤ 9223372036854775807 then (impl_KeepText.l0 k1 (x4_1 ++ (t236 ++ t240)) l0_0 (l0_0.length : Int) (wrap64 (x20_1 + 1)) l0_0 l0_1) else (none)) else (none))) = some (r1, r2) := by first | (rw [hy237]; with_reducible exact H) | (have H2_ := (Option.bind_some _ _).symm.trans H; rw [hy237]; with_reducible exact H2_) | (have H2_ := (Option.bind_some _ _).symm.trans H; with_reducible exact H2_) | with_reducible exact H | (rw [hy237]; exact H) | exact H
       have Ny237 := Aside0.mk hy237
       clear hy237
       replace H := Option.bind_eq_some_iff.mp H
       obtain ⟨t240, A180, H⟩ := H
       (try dsimp only at H)
       have A18 := Aside0.mk A180
       clear A180
       by_cases c19 : t236.size + t240.size ≤ 9223372036854775807
       ·rw [if_pos c19] at H
        have c19b0 := eq_true c19
        have c19b1 : decide (t236.size + t240.size ≤ 9223372036854775807) = true := decide_eq_true c19
        try have c19b2 : (9223372036854775807 < t236.size + t240.size) = False := eq_false (Nat.not_lt.2 c19)
        try (have c19b9 := c19b2; simp only [ByteArray.size_append] at c19b9)
        by_cases c20 : x4_1.size + (t236 ++ t240).size ≤ 9223372036854775807
        ·rw [if_pos c20] at H
         have c20b0 := eq_true c20
         have c20b1 : decide (x4_1.size + (t236 ++ t240).size ≤ 9223372036854775807) = true := decide_eq_true c20
         try have c20b2 : (9223372036854775807 < x4_1.size + (t236 ++ t240).size) = False := eq_false (Nat.not_lt.2 c20)
         try have c20b8 : (9223372036854775807 < x4_1.size + t236.size + t240.size) = False := eq_false (by have h_ := c20; simp only [ByteArray.size_append, ByteArray.size_extract, decide_eq_true_eq, decide_eq_false_iff_not] at *; omega)
         try (have c20b9 := c20b2; simp only [ByteArray.size_append] at c20b9)
         have H' := Aside0.mk H
         clear H
         have p231 : 0 ≤ (x20_1 : Int) := of_decide_eq_true B10x15_
         have q231 : x20_1 < (l0_0.length : Int) := of_decide_eq_true B10x15_
         obtain ⟨ad231, e231, hx231_0, hx231_1, hx231_2⟩ := at_T119 HR0_0.out x20_1 p231 q231
         cases e231
         replace hx231_0 := (HB.out.cell (World.block_lt_of_cell? w _ hx231_0)).trans hx231_0
         replace hx231_1 := (HB.out.cell (World.block_lt_of_cell? w _ hx231_1)).trans hx231_1
         replace hx231_2 := (HB.out.cell (World.block_lt_of_cell? w _ hx231_2)).trans hx231_2
         replace p231 := eq_true p231
         replace q231 := eq_true q231
         try go_wp2_with (first | ((with_reducible refine gate_dst (N := 6) rfl ?_); refine box_event ?hg (N := 6) ?hd (cs := #[.int .i64 0, .int .i64 0, .string (⟨#[]⟩ : ByteArray)]) (t := 119) ?hr ?_; (case hd => rfl); (case hg => rfl); (case hr => first | (go_simp; done) | (go_simp; rfl)); intro gb232 hg w21 hbox hb; have n0_ := Aside0.mk (blk_below (g := gb225) (o := .cells #[.slice (some ad231) l0_0.length c0_0, .slice A0_1 l0_1.length c0_1] 42 (0, 0)) B10x0_ hb); have n1_ := Aside0.mk (below_step B10x1_ hb); have n2_ := Aside0.mk (hbox); have n3_ := Aside0.mk ((by rw [hg]; exact (below_size B10x1_) : w.heap.size ≤ gb232)); have n4_ := Aside0.mk ((by rw [hg]; exact (below_size B10x1_) : w.heap.size ≤ gb232)); have n5_ := Aside0.mk ((by rw [hg]; exact Nat.ne_of_lt (blk_lt (g := gb225) (o := .cells #[.slice (some ad231) l0_0.length c0_0, .slice A0_1 l0_1.length c0_1] 42 (0, 0)) B10x0_) : gb225 ≠ gb232)); have n6_ := Aside0.mk ((by rw [hg]; exact Nat.ne_of_gt (blk_lt (g := gb225) (o := .cells #[.slice (some ad231) l0_0.length c0_0, .slice A0_1 l0_1.length c0_1] 42 (0, 0)) B10x0_) : gb232 ≠ gb225)); clear BK225; clear HB; have BK225 := n0_; have HB := n1_; have BK232 := n2_; have GW232 := n3_; have GE232 := n4_; have NB225_232 := n5_; have NB232_225 := n6_; clear n0_ n1_ n2_ n3_ n4_ n5_ n6_; clear hb hbox hg; have hnb22 := NB232_225.out; have hnc22 := NB225_232.out; obtain ⟨hcz23_0, hcz23_1, hcz23_2⟩ := cl3 BK232.out; obtain ⟨hfz23_0, hfz23_1, hfz23_2⟩ := fr3 BK232.out))
         have n0_ : Aside0 ((((w21.setCell ⟨gb232, 0, none⟩ (.int .i64 ((rd_T119 l0_0 x20_1).f0))).setCell ⟨gb232, 1, none⟩ (.int .i64 ((rd_T119 l0_0 x20_1).f1))).setCell ⟨gb232, 2, none⟩ (.string ((rd_T119 l0_0 x20_1).f2))).heap[gb225]? = some (.cells #[.slice (some ad231) l0_0.length c0_0, .slice A0_1 l0_1.length c0_1] 42 (0, 0))) := ⟨by (with_reducible repeat (first | refine blk_drewN ?_ _ | refine blk_drew ?_ | refine blk_alloc ?_ _)); refine blk_far ?_ NB225_232.out _; (with_reducible repeat (first | refine blk_drewN ?_ _ | refine blk_drew ?_ | refine blk_alloc ?_ _)); refine blk_far ?_ NB225_232.out _; (with_reducible repeat (first | refine blk_drewN ?_ _ | refine blk_drew ?_ | refine blk_alloc ?_ _)); refine blk_far ?_ NB225_232.out _; (with_reducible repeat (first | refine blk_drewN ?_ _ | refine blk_drew ?_ | refine blk_alloc ?_ _)); exact BK225.out⟩
         have n1_ : Aside0 ((((w21.setCell ⟨gb232, 0, none⟩ (.int .i64 ((rd_T119 l0_0 x20_1).f0))).setCell ⟨gb232, 1, none⟩ (.int .i64 ((rd_T119 l0_0 x20_1).f1))).setCell ⟨gb232, 2, none⟩ (.string ((rd_T119 l0_0 x20_1).f2))).heap[gb232]? = some (.cells #[.int .i64 ((rd_T119 l0_0 x20_1).f0), .int .i64 ((rd_T119 l0_0 x20_1).f1), .string ((rd_T119 l0_0 x20_1).f2)] 119 (0, 0))) := ⟨by (with_reducible repeat (first | refine blk_drewN ?_ _ | refine blk_drew ?_ | refine blk_alloc ?_ _)); refine blk_put (cs := #[.int .i64 ((rd_T119 l0_0 x20_1).f0), .int .i64 ((rd_T119 l0_0 x20_1).f1), .string (⟨#[]⟩ : ByteArray)]) ?_ 2 _ rfl; (with_reducible repeat (first | refine blk_drewN ?_ _ | refine blk_drew ?_ | refine blk_alloc ?_ _)); refine blk_put (cs := #[.int .i64 ((rd_T119 l0_0 x20_1).f0), .int .i64 0, .string (⟨#[]⟩ : ByteArray)]) ?_ 1 _ rfl; (with_reducible repeat (first | refine blk_drewN ?_ _ | refine blk_drew ?_ | refine blk_alloc ?_ _)); refine blk_put (cs := #[.int .i64 0, .int .i64 0, .string (⟨#[]⟩ : ByteArray)]) ?_ 0 _ rfl; (with_reducible repeat (first | refine blk_drewN ?_ _ | refine blk_drew ?_ | refine blk_alloc ?_ _)); exact BK232.out⟩
         have n2_ : Aside0 (Below w.heap.size w (((w21.setCell ⟨gb232, 0, none⟩ (.int .i64 ((rd_T119 l0_0 x20_1).f0))).setCell ⟨gb232, 1, none⟩ (.int .i64 ((rd_T119 l0_0 x20_1).f1))).setCell ⟨gb232, 2, none⟩ (.string ((rd_T119 l0_0 x20_1).f2)))) := ⟨by repeat (first | (with_reducible first | exact HB.out | apply below_alloc | apply pw_below_drewN | apply below_drew1 | refine below_set ?_ GE225.out | refine below_set ?_ GE232.out) | exact HB.out)⟩
         (try clear BK225)
         (try clear BK232)
         (try clear HB)
         generalize (((w21.setCell ⟨gb232, 0, none⟩ (.int .i64 ((rd_T119 l0_0 x20_1).f0))).setCell ⟨gb232, 1, none⟩ (.int .i64 ((rd_T119 l0_0 x20_1).f1))).setCell ⟨gb232, 2, none⟩ (.string ((rd_T119 l0_0 x20_1).f2))) = w24 at n0_ n1_ n2_ ⊢
         have BK225 := n0_
         have BK232 := n1_
         have HB := n2_
         clear n0_ n1_ n2_
         have n0_ := Aside0.mk (blk_drew BK225.out)
         have n1_ := Aside0.mk (blk_drew BK232.out)
         have n2_ := Aside0.mk (below_drew1 HB.out)
         clear BK225
         clear BK232
         clear HB
         have BK225 := n0_
         have BK232 := n1_
         have HB := n2_
         clear n0_ n1_ n2_
         refine start_ (n := 14) (S := fun w' => True) (ds := []) #[false, false, false, false, false, false, false, false, false, false, false, false, false, false] B10x6_ rfl rfl trivial (fun hHeld => ?_); refine with_tabW impl_KeepText.tab7 impl_KeepText.bits7 (fun HT_ HW_ => ?_)
         generalize w24.drew = w25 at BK225 BK232 HB hHeld ⊢
         refine pu_ 0 24 HT_ ?_
         refine pu_ 1 25 HT_ ?_
         refine pu_ 3 27 HT_ ?_
         refine pu_ 7 31 HT_ ?_
         refine inv_at [2, 4, 5, 6, 8, 9, 10, 11, 12, 13] (fun a0_ b a w' => ∃ (v234 : Value) (v238 : Value), a = putSel a0_ b [(2, 26, .int .i64 ((rd_T119 l0_0 x20_1).f0)), (4, 28, .int .i64 ((rd_T119 l0_0 x20_1).f1)), (5, 29, v234), (6, 30, .string t236), (8, 32, .string ((rd_T119 l0_0 x20_1).f2)), (9, 33, v238), (10, 34, .string t240), (11, 35, .string (t236 ++ t240)), (12, 36, .string (x4_1 ++ (t236 ++ t240))), (13, 4, .string (x4_1 ++ (t236 ++ t240)))] ∧ (w'.heap[gb225]? = some (.cells #[.slice (some ad231) l0_0.length c0_0, .slice A0_1 l0_1.length c0_1] 42 (0, 0))) ∧ (w'.heap[gb232]? = some (.cells #[.int .i64 ((rd_T119 l0_0 x20_1).f0), .int .i64 ((rd_T119 l0_0 x20_1).f1), .string ((rd_T119 l0_0 x20_1).f2)] 119 (0, 0))) ∧ (Below w.heap.size w w') ∧ (b 5 = true → Kd.R (Kd.int .i64) 3 w' w.heap.size (fun _ => True) v234 y233) ∧ (b 9 = true → Kd.R Kd.string 9 w' w.heap.size (fun _ => True) v238 y237)) HT_.out HW_.out B10x6_ B10x6_ ?_ ?_ ?_
         ·exact ⟨.bool false, .bool false, by simp only [putSel, Bool.false_eq_true, if_false], BK225.out, BK232.out, HB.out, fun h_ => absurd h_ (by decide), fun h_ => absurd h_ (by decide)⟩
         ·skip
          clear BK225 BK232 HB
          refine steps_cons ?_ ?_
          ·rintro b a w' ⟨v234, v238, ha, Q_BK225, Q_BK232, Q_HB, Q_HO235, Q_HO239⟩ hb_ hon hoff
           refine ⟨_, rfl, fun K hK => ?_⟩
           have e25 : a.tmps[25]? = some (.pointer (some ⟨gb232, 0, none⟩)) := by rw [ha]; exact (putSel_off rfl).trans rfl
           replace ha := Aside0.mk ha
           have BK225 := Aside0.mk Q_BK225
           have BK232 := Aside0.mk Q_BK232
           have HB := Aside0.mk Q_HB
           have hc0_ : w'.cell? ⟨gb232, 0, none⟩ = some (.int .i64 ((rd_T119 l0_0 x20_1).f0)) := (blk_cell BK232.out 0).trans rfl
           have hc1_ : w'.cell? ⟨gb232, 1, none⟩ = some (.int .i64 ((rd_T119 l0_0 x20_1).f1)) := (blk_cell BK232.out 1).trans rfl
           have hc2_ : w'.cell? ⟨gb232, 2, none⟩ = some (.string ((rd_T119 l0_0 x20_1).f2)) := (blk_cell BK232.out 2).trans rfl
           refine value_ (w1 := w') (v := .int .i64 ((rd_T119 l0_0 x20_1).f0)) (by rfl) rfl ?_ ?_
           ·go_simp
            (try simp only [i64_w])
            try rfl
           refine hK.out _ _ ⟨v234, v238, B10x18_, Q_BK225, Q_BK232, Q_HB, fun h0_ => absurd ((hoff 5 B10x6_).symm.trans h0_) (by decide), Q_HO239⟩
          refine steps_cons ?_ ?_
          ·rintro b a w' ⟨v234, v238, ha, Q_BK225, Q_BK232, Q_HB, Q_HO235, Q_HO239⟩ hb_ hon hoff
           refine ⟨_, rfl, fun K hK => ?_⟩
           have e27 : a.tmps[27]? = some (.pointer (some ⟨gb232, 1, none⟩)) := by rw [ha]; exact (putSel_off rfl).trans rfl
           replace ha := Aside0.mk ha
           have BK225 := Aside0.mk Q_BK225
           have BK232 := Aside0.mk Q_BK232
           have HB := Aside0.mk Q_HB
           have hc0_ : w'.cell? ⟨gb232, 0, none⟩ = some (.int .i64 ((rd_T119 l0_0 x20_1).f0)) := (blk_cell BK232.out 0).trans rfl
           have hc1_ : w'.cell? ⟨gb232, 1, none⟩ = some (.int .i64 ((rd_T119 l0_0 x20_1).f1)) := (blk_cell BK232.out 1).trans rfl
           have hc2_ : w'.cell? ⟨gb232, 2, none⟩ = some (.string ((rd_T119 l0_0 x20_1).f2)) := (blk_cell BK232.out 2).trans rfl
           refine value_ (w1 := w') (v := .int .i64 ((rd_T119 l0_0 x20_1).f1)) (by rfl) rfl ?_ ?_
           ·go_simp
            (try simp only [i64_w])
            try rfl
           refine hK.out _ _ ⟨v234, v238, B10x19_, Q_BK225, Q_BK232, Q_HB, fun h0_ => absurd ((hoff 5 B10x6_).symm.trans h0_) (by decide), Q_HO239⟩
          refine steps_cons ?_ ?_
          ·rintro b a w' ⟨v234, v238, ha, Q_BK225, Q_BK232, Q_HB, Q_HO235, Q_HO239⟩ hb_ hon hoff
           refine ⟨_, rfl, fun K hK => ?_⟩
           have e26 : a.tmps[26]? = some (.int .i64 ((rd_T119 l0_0 x20_1).f0)) := by rw [ha]; exact putSel_on (e := (2, 26, .int .i64 ((rd_T119 l0_0 x20_1).f0))) 0 rfl rfl (hon 2 B10x6_) rfl
           have e28 : a.tmps[28]? = some (.int .i64 ((rd_T119 l0_0 x20_1).f1)) := by rw [ha]; exact putSel_on (e := (4, 28, .int .i64 ((rd_T119 l0_0 x20_1).f1))) 1 rfl rfl (hon 4 B10x6_) rfl
           replace ha := Aside0.mk ha
           have BK225 := Aside0.mk Q_BK225
           have BK232 := Aside0.mk Q_BK232
           have HB := Aside0.mk Q_HB
           refine Kd.R_lit_step (Kd.int .i64) _ 3 ?hg (N := 29) ?hd (xs := ([(rd_T119 l0_0 x20_1).f0, (rd_T119 l0_0 x20_1).f1] : List Int)) (inner := [.int .i64 ((rd_T119 l0_0 x20_1).f0), .int .i64 ((rd_T119 l0_0 x20_1).f1)]) (ok := fun _ => True) (okp := fun _ => True) ?hr ?hp (fun _ hk => hk) trivial (Below.refl _ _) (Nat.le_refl _) (by simp) ?_; (case hd => rfl); (case hg => rfl); (case hr => first | (go_simp; done) | (go_simp; rfl)); (case hp => exact (Reps.one (show Kd.M (Kd.int .i64) _ _ _ ((rd_T119 l0_0 x20_1).f0) [.int .i64 ((rd_T119 l0_0 x20_1).f0)] from rfl) (Reps.one (show Kd.M (Kd.int .i64) _ _ _ ((rd_T119 l0_0 x20_1).f1) [.int .i64 ((rd_T119 l0_0 x20_1).f1)] from rfl) (Reps.none _ _))))
           intro v234 w26 ho27 hb hg_ hnew_
           clear hg_ hnew_
           (first | rw [← Ny233.out] at ho27 | (simp only [Int.reduceToNat] at ho27; rw [← Ny233.out] at ho27))
           have n0_ := Aside0.mk (Kd.R_lower ho27 (below_size B10x2_))
           have n1_ := Aside0.mk (blk_below (g := gb225) (o := .cells #[.slice (some ad231) l0_0.length c0_0, .slice A0_1 l0_1.length c0_1] 42 (0, 0)) B10x0_ hb)
           have n2_ := Aside0.mk (blk_below (g := gb232) (o := .cells #[.int .i64 ((rd_T119 l0_0 x20_1).f0), .int .i64 ((rd_T119 l0_0 x20_1).f1), .string ((rd_T119 l0_0 x20_1).f2)] 119 (0, 0)) B10x4_ hb)
           have n3_ := Aside0.mk (below_step B10x2_ hb)
           have z_HO239 := fun (h0_ : b 9 = true) => (show Kd.R Kd.string 9 w26 w.heap.size (fun _ => True) v238 y237 from by first | exact (Kd.R_below B10x11_ hb) | exact Kd.R_mono (Kd.R_below B10x11_ hb) (fun _ h_ => by first | trivial | exact h_ | exact h_.1))
           clear BK225
           clear BK232
           clear HB
           have HO235 := n0_
           have BK225 := n1_
           have BK232 := n2_
           have HB := n3_
           clear n0_ n1_ n2_ n3_
           clear hb ho27
           refine hK.out _ _ ⟨v234, v238, B10x20_, B10x0_, B10x4_, B10x2_, fun _ => B10x9_, z_HO239⟩
          refine steps_cons ?_ ?_
          ·rintro b a w' ⟨v234, v238, ha, Q_BK225, Q_BK232, Q_HB, Q_HO235, Q_HO239⟩ hb_ hon hoff
           refine ⟨_, rfl, fun K hK => ?_⟩
           have e29 : a.tmps[29]? = some (v234) := by rw [ha]; exact putSel_on (e := (5, 29, v234)) 2 rfl rfl (hon 5 B10x6_) rfl
           replace ha := Aside0.mk ha
           have BK225 := Aside0.mk Q_BK225
           have BK232 := Aside0.mk Q_BK232
           have HB := Aside0.mk Q_HB
           have HO235 := Aside0.mk (Q_HO235 (hon 5 B10x6_))
           obtain ⟨Ao29, co29, eo29⟩ := Kd.R_slice HO235.out
           (first | subst eo29 | (injection eo29 with f1_ f2_ f3_; have f4_ := f1_.symm; have f5_ := f3_.symm; clear f1_ f2_ f3_; subst f4_; subst f5_))
           refine goes_ Try.func146 B10x6_ rfl #[.slice Ao29 y233.length co29] (by rfl) rfl rfl (by first | (simp only [List.map_toArray, List.map_cons, List.map_nil, Act.eval, Array.getD_eq_getD_getElem?, Option.getD_some, e29]; done) | (simp only [List.map_toArray, List.map_cons, List.map_nil, Act.eval, Array.getD_eq_getD_getElem?, Option.getD_some, e29]; rfl)) ?_
           with_reducible refine (impl_varTexts.calls k1 _ _ y233 t236 _ ?side1 ?side2 A17.out).mono ?_
           (case side1 => repeat (first | exact (Kd.R_reads' HO235.out).2.2 | (with_reducible refine Kd.C_alloc ?_ _) | (with_reducible refine Kd.C_drewN ?_ _) | (with_reducible refine Kd.C_drew ?_)))
           (case side2 => exact (Kd.R_reads' HO235.out).2.1)
           rintro e w30 ⟨rfl, hb⟩
           refine ⟨_, rfl, ?_⟩
           have n0_ := Aside0.mk (Kd.R_below B10x9_ hb)
           have n1_ := Aside0.mk (blk_below (g := gb225) (o := .cells #[.slice (some ad231) l0_0.length c0_0, .slice A0_1 l0_1.length c0_1] 42 (0, 0)) B10x0_ hb)
           have n2_ := Aside0.mk (blk_below (g := gb232) (o := .cells #[.int .i64 ((rd_T119 l0_0 x20_1).f0), .int .i64 ((rd_T119 l0_0 x20_1).f1), .string ((rd_T119 l0_0 x20_1).f2)] 119 (0, 0)) B10x4_ hb)
           have n3_ := Aside0.mk (below_step B10x2_ hb)
           have z_HO239 := fun (h0_ : b 9 = true) => (show Kd.R Kd.string 9 w30 w.heap.size (fun _ => True) v238 y237 from by first | exact (Kd.R_below B10x11_ hb) | exact Kd.R_mono (Kd.R_below B10x11_ hb) (fun _ h_ => by first | trivial | exact h_ | exact h_.1))
           clear HO235
           clear BK225
           clear BK232
           clear HB
           have HO235 := n0_
           have BK225 := n1_
           have BK232 := n2_
           have HB := n3_
           clear n0_ n1_ n2_ n3_
           (try clear hb)
           (try clear hb2)
           (try clear hk)
           (try clear hi)
           refine hK.out _ _ ⟨.slice Ao29 y233.length co29, v238, B10x21_, B10x0_, B10x4_, B10x2_, fun _ => B10x9_, z_HO239⟩
          refine steps_cons ?_ ?_
          ·rintro b a w' ⟨v234, v238, ha, Q_BK225, Q_BK232, Q_HB, Q_HO235, Q_HO239⟩ hb_ hon hoff
           refine ⟨_, rfl, fun K hK => ?_⟩
           have e31 : a.tmps[31]? = some (.pointer (some ⟨gb232, 2, none⟩)) := by rw [ha]; exact (putSel_off rfl).trans rfl
           replace ha := Aside0.mk ha
           have BK225 := Aside0.mk Q_BK225
           have BK232 := Aside0.mk Q_BK232
           have HB := Aside0.mk Q_HB
           have hc0_ : w'.cell? ⟨gb232, 0, none⟩ = some (.int .i64 ((rd_T119 l0_0 x20_1).f0)) := (blk_cell BK232.out 0).trans rfl
           have hc1_ : w'.cell? ⟨gb232, 1, none⟩ = some (.int .i64 ((rd_T119 l0_0 x20_1).f1)) := (blk_cell BK232.out 1).trans rfl
           have hc2_ : w'.cell? ⟨gb232, 2, none⟩ = some (.string ((rd_T119 l0_0 x20_1).f2)) := (blk_cell BK232.out 2).trans rfl
           refine value_ (w1 := w') (v := .string ((rd_T119 l0_0 x20_1).f2)) (by rfl) rfl ?_ ?_
           ·go_simp
            (try simp only [i64_w])
            try rfl
           refine hK.out _ _ ⟨v234, v238, B10x22_, Q_BK225, Q_BK232, Q_HB, Q_HO235, fun h0_ => absurd ((hoff 9 B10x6_).symm.trans h0_) (by decide)⟩
          refine steps_cons ?_ ?_
          ·rintro b a w' ⟨v234, v238, ha, Q_BK225, Q_BK232, Q_HB, Q_HO235, Q_HO239⟩ hb_ hon hoff
           refine ⟨_, rfl, fun K hK => ?_⟩
           have e32 : a.tmps[32]? = some (.string ((rd_T119 l0_0 x20_1).f2)) := by rw [ha]; exact putSel_on (e := (8, 32, .string ((rd_T119 l0_0 x20_1).f2))) 4 rfl rfl (hon 8 B10x6_) rfl
           replace ha := Aside0.mk ha
           have BK225 := Aside0.mk Q_BK225
           have BK232 := Aside0.mk Q_BK232
           have HB := Aside0.mk Q_HB
           refine Kd.R_lit_step Kd.string _ 9 ?hg (N := 33) ?hd (xs := ([(rd_T119 l0_0 x20_1).f2] : List ByteArray)) (inner := [.string ((rd_T119 l0_0 x20_1).f2)]) (ok := fun _ => True) (okp := fun _ => True) ?hr ?hp (fun _ hk => hk) trivial (Below.refl _ _) (Nat.le_refl _) (by simp) ?_; (case hd => rfl); (case hg => rfl); (case hr => first | (go_simp; done) | (go_simp; rfl)); (case hp => exact (Reps.one (show Kd.M Kd.string _ _ _ ((rd_T119 l0_0 x20_1).f2) [.string ((rd_T119 l0_0 x20_1).f2)] from rfl) (Reps.none _ _)))
           intro v238 w26 ho27 hb hg_ hnew_
           clear hg_ hnew_
           (first | rw [← Ny237.out] at ho27 | (simp only [Int.reduceToNat] at ho27; rw [← Ny237.out] at ho27))
           have n0_ := Aside0.mk (Kd.R_lower ho27 (below_size B10x2_))
           have n1_ := Aside0.mk (blk_below (g := gb225) (o := .cells #[.slice (some ad231) l0_0.length c0_0, .slice A0_1 l0_1.length c0_1] 42 (0, 0)) B10x0_ hb)
           have n2_ := Aside0.mk (blk_below (g := gb232) (o := .cells #[.int .i64 ((rd_T119 l0_0 x20_1).f0), .int .i64 ((rd_T119 l0_0 x20_1).f1), .string ((rd_T119 l0_0 x20_1).f2)] 119 (0, 0)) B10x4_ hb)
           have n3_ := Aside0.mk (below_step B10x2_ hb)
           have z_HO235 := fun (h0_ : b 5 = true) => (show Kd.R (Kd.int .i64) 3 w26 w.heap.size (fun _ => True) v234 y233 from by first | exact (Kd.R_below B10x16_ hb) | exact Kd.R_mono (Kd.R_below B10x16_ hb) (fun _ h_ => by first | trivial | exact h_ | exact h_.1))
           clear BK225
           clear BK232
           clear HB
           have HO239 := n0_
           have BK225 := n1_
           have BK232 := n2_
           have HB := n3_
           clear n0_ n1_ n2_ n3_
           clear hb ho27
           refine hK.out _ _ ⟨v234, v238, B10x23_, B10x0_, B10x4_, B10x2_, z_HO235, fun _ => B10x13_⟩
          refine steps_cons ?_ ?_
          ·rintro b a w' ⟨v234, v238, ha, Q_BK225, Q_BK232, Q_HB, Q_HO235, Q_HO239⟩ hb_ hon hoff
           refine ⟨_, rfl, fun K hK => ?_⟩
           have e33 : a.tmps[33]? = some (v238) := by rw [ha]; exact putSel_on (e := (9, 33, v238)) 5 rfl rfl (hon 9 B10x6_) rfl
           replace ha := Aside0.mk ha
           have BK225 := Aside0.mk Q_BK225
           have BK232 := Aside0.mk Q_BK232
           have HB := Aside0.mk Q_HB
           have HO235 := Aside0.mk (Q_HO235 (hon 5 B10x6_))
           have HO239 := Aside0.mk (Q_HO239 (hon 9 B10x6_))
           obtain ⟨Ao33, co33, eo33⟩ := Kd.R_slice HO239.out
           (first | subst eo33 | (injection eo33 with f1_ f2_ f3_; have f4_ := f1_.symm; have f5_ := f3_.symm; clear f1_ f2_ f3_; subst f4_; subst f5_))
           refine goes_ Try.func147 B10x6_ rfl #[.slice Ao33 y237.length co33] (by rfl) rfl rfl (by first | (simp only [List.map_toArray, List.map_cons, List.map_nil, Act.eval, Array.getD_eq_getD_getElem?, Option.getD_some, e33]; done) | (simp only [List.map_toArray, List.map_cons, List.map_nil, Act.eval, Array.getD_eq_getD_getElem?, Option.getD_some, e33]; rfl)) ?_
           with_reducible refine (impl_shortTexts.calls k1 _ _ y237 t240 _ ?side1 ?side2 A18.out).mono ?_
           (case side1 => repeat (first | exact (Kd.R_reads' HO239.out).2.2 | (with_reducible refine Kd.C_alloc ?_ _) | (with_reducible refine Kd.C_drewN ?_ _) | (with_reducible refine Kd.C_drew ?_)))
           (case side2 => exact (Kd.R_reads' HO239.out).2.1)
           rintro e w34 ⟨rfl, hb⟩
           refine ⟨_, rfl, ?_⟩
           have n0_ := Aside0.mk (Kd.R_below B10x9_ hb)
           have n1_ := Aside0.mk (Kd.R_below B10x13_ hb)
           have n2_ := Aside0.mk (blk_below (g := gb225) (o := .cells #[.slice (some ad231) l0_0.length c0_0, .slice A0_1 l0_1.length c0_1] 42 (0, 0)) B10x0_ hb)
           have n3_ := Aside0.mk (blk_below (g := gb232) (o := .cells #[.int .i64 ((rd_T119 l0_0 x20_1).f0), .int .i64 ((rd_T119 l0_0 x20_1).f1), .string ((rd_T119 l0_0 x20_1).f2)] 119 (0, 0)) B10x4_ hb)
           have n4_ := Aside0.mk (below_step B10x2_ hb)
           clear HO235
           clear HO239
           clear BK225
           clear BK232
           clear HB
           have HO235 := n0_
           have HO239 := n1_
           have BK225 := n2_
           have BK232 := n3_
           have HB := n4_
           clear n0_ n1_ n2_ n3_ n4_
           (try clear hb)
           (try clear hb2)
           (try clear hk)
           (try clear hi)
           refine hK.out _ _ ⟨v234, .slice Ao33 y237.length co33, B10x24_, B10x0_, B10x4_, B10x2_, fun _ => B10x9_, fun _ => B10x13_⟩
          refine steps_cons ?_ ?_
          ·rintro b a w' ⟨v234, v238, ha, Q_BK225, Q_BK232, Q_HB, Q_HO235, Q_HO239⟩ hb_ hon hoff
           refine ⟨_, rfl, fun K hK => ?_⟩
           have e30 : a.tmps[30]? = some (.string t236) := by rw [ha]; exact putSel_on (e := (6, 30, .string t236)) 3 rfl rfl (hon 6 B10x6_) rfl
           have e34 : a.tmps[34]? = some (.string t240) := by rw [ha]; exact putSel_on (e := (10, 34, .string t240)) 6 rfl rfl (hon 10 B10x6_) rfl
           replace ha := Aside0.mk ha
           have BK225 := Aside0.mk Q_BK225
           have BK232 := Aside0.mk Q_BK232
           have HB := Aside0.mk Q_HB
           have HO235 := Aside0.mk (Q_HO235 (hon 5 B10x6_))
           have HO239 := Aside0.mk (Q_HO239 (hon 9 B10x6_))
           refine value_ (w1 := w') (v := .string (t236 ++ t240)) (by rfl) rfl ?_ ?_
           ·go_simp
            (try simp only [i64_w])
            try rfl
           refine hK.out _ _ ⟨v234, v238, B10x25_, Q_BK225, Q_BK232, Q_HB, Q_HO235, Q_HO239⟩
          refine steps_cons ?_ ?_
          ·rintro b a w' ⟨v234, v238, ha, Q_BK225, Q_BK232, Q_HB, Q_HO235, Q_HO239⟩ hb_ hon hoff
           refine ⟨_, rfl, fun K hK => ?_⟩
           have e24 : a.tmps[24]? = some (.string x4_1) := by rw [ha]; exact (putSel_off rfl).trans rfl
           have e35 : a.tmps[35]? = some (.string (t236 ++ t240)) := by rw [ha]; exact putSel_on (e := (11, 35, .string (t236 ++ t240))) 7 rfl rfl (hon 11 B10x6_) rfl
           replace ha := Aside0.mk ha
           have BK225 := Aside0.mk Q_BK225
           have BK232 := Aside0.mk Q_BK232
           have HB := Aside0.mk Q_HB
           have HO235 := Aside0.mk (Q_HO235 (hon 5 B10x6_))
           have HO239 := Aside0.mk (Q_HO239 (hon 9 B10x6_))
           refine value_ (w1 := w') (v := .string (x4_1 ++ (t236 ++ t240))) (by rfl) rfl ?_ ?_
           ·go_simp
            (try simp only [i64_w])
            try rfl
           refine hK.out _ _ ⟨v234, v238, B10x26_, Q_BK225, Q_BK232, Q_HB, Q_HO235, Q_HO239⟩
          refine steps_cons ?_ ?_
          ·rintro b a w' ⟨v234, v238, ha, Q_BK225, Q_BK232, Q_HB, Q_HO235, Q_HO239⟩ hb_ hon hoff
           refine ⟨_, rfl, fun K hK => ?_⟩
           have e36 : a.tmps[36]? = some (.string (x4_1 ++ (t236 ++ t240))) := by rw [ha]; exact putSel_on (e := (12, 36, .string (x4_1 ++ (t236 ++ t240)))) 8 rfl rfl (hon 12 B10x6_) rfl
           replace ha := Aside0.mk ha
           have BK225 := Aside0.mk Q_BK225
           have BK232 := Aside0.mk Q_BK232
           have HB := Aside0.mk Q_HB
           have HO235 := Aside0.mk (Q_HO235 (hon 5 B10x6_))
           have HO239 := Aside0.mk (Q_HO239 (hon 9 B10x6_))
           refine value_ (w1 := w') (v := .string (x4_1 ++ (t236 ++ t240))) (by rfl) rfl ?_ ?_
           ·go_simp
            (try simp only [i64_w])
            try rfl
           refine hK.out _ _ ⟨v234, v238, B10x27_, Q_BK225, Q_BK232, Q_HB, Q_HO235, Q_HO239⟩
          exact steps_nil
         rintro b a w34 hall ⟨v234, v238, ha, Q_BK225, Q_BK232, Q_HB, Q_HO235, Q_HO239⟩
         clear BK225 BK232 HB
         have hb2_ := hall 2 B10x6_
         have hb4_ := hall 4 B10x6_
         have hb5_ := hall 5 B10x6_
         have hb6_ := hall 6 B10x6_
         have hb8_ := hall 8 B10x6_
         have hb9_ := hall 9 B10x6_
         have hb10_ := hall 10 B10x6_
         have hb11_ := hall 11 B10x6_
         have hb12_ := hall 12 B10x6_
         have hb13_ := hall 13 B10x6_
         subst ha
         simp only [putSel, hb2_, hb4_, hb5_, hb6_, hb8_, hb9_, hb10_, hb11_, hb12_, hb13_, if_true, Act.put, List.setIfInBounds_toArray, List.set_cons_zero, List.set_cons_succ]
         have BK225 := Aside0.mk Q_BK225
         clear Q_BK225
         have BK232 := Aside0.mk Q_BK232
         clear Q_BK232
         have HB := Aside0.mk Q_HB
         clear Q_HB
         have HO235 := Aside0.mk (Q_HO235 hb5_)
         clear Q_HO235
         have HO239 := Aside0.mk (Q_HO239 hb9_)
         clear Q_HO239
         clear hall hb2_ hb4_ hb5_ hb6_ hb8_ hb9_ hb10_ hb11_ hb12_ hb13_
         try go_wp2
         go_roundg k1
         case measure => have := HK1.out; omega
         case rel => exact ⟨(x4_1 ++ (t236 ++ t240)), (wrap64 (x20_1 + 1)), (be_), (be_), H', ⟨by have := HK1.out; omega⟩, ⟨by (with_reducible repeat (first | refine blk_drewN ?_ _ | refine blk_drew ?_ | refine blk_alloc ?_ _)); exact BK225.out⟩, ⟨by repeat (first | (with_reducible first | exact HB.out | apply below_alloc | apply pw_below_drewN | apply below_drew1 | refine below_set ?_ GE225.out | refine below_set ?_ GE232.out) | exact HB.out)⟩⟩
        ·rw [if_neg c20] at H
         exact absurd H (by simp)
       ·rw [if_neg c19] at H
        exact absurd H (by simp)
      ·exact absurd H (by exfalso; (try have h0_ := of_decide_eq_true c14b0); (try have g0_ := c14); omega)
     ·rw [if_neg c15] at H
      exact absurd H (by simp)
    ·rw [if_neg c14] at H
     have c14b0 : decide (x20_1 < (l0_0.length : Int)) = false := decide_eq_false c14
     clear c14
     obtain ⟨y241, hy241⟩ : ∃ y_ : List Int, y_ = (([(l0_1.length : Int)] : List Int)) := ⟨_, rfl⟩
     replace H : ((impl_varTexts.f k1 y241).bind fun t244 => (if x4_1.size + t244.size ≤ 9223372036854775807 then (impl_KeepText.l1 k1 (x4_1 ++ t244) l0_1 (l0_1.length : Int) 0) else (none))) = some (r1, r2) := by first | (rw [hy241]; with_reducible exact H) | (have H2_ := (Option.bind_some _ _).symm.trans H; rw [hy241]; with_reducible exact H2_) | (have H2_ := (Option.bind_some _ _).symm.trans H; with_reducible exact H2_) | with_reducible exact H | (rw [hy241]; exact H) | exact H
     have Ny241 := Aside0.mk hy241
     clear hy241
     replace H := Option.bind_eq_some_iff.mp H
     obtain ⟨t244, A350, H⟩ := H
     (try dsimp only at H)
     have A35 := Aside0.mk A350
     clear A350
     by_cases c36 : x4_1.size + t244.size ≤ 9223372036854775807
     ·rw [if_pos c36] at H
      have c36b0 := eq_true c36
      have c36b1 : decide (x4_1.size + t244.size ≤ 9223372036854775807) = true := decide_eq_true c36
      try have c36b2 : (9223372036854775807 < x4_1.size + t244.size) = False := eq_false (Nat.not_lt.2 c36)
      try (have c36b9 := c36b2; simp only [ByteArray.size_append] at c36b9)
      have H' := Aside0.mk H
      clear H
      obtain ⟨hcz37_0, hcz37_1⟩ := cl2 BK225.out
      obtain ⟨hfz37_0, hfz37_1⟩ := fr2 BK225.out
      go_wp2_with (first | ((with_reducible refine gate_dst (N := 42) rfl ?_); refine Kd.R_lit (Kd.int .i64) _ 3 ?hg (N := 42) ?hd (xs := ([(l0_1.length : Int)] : List Int)) (inner := [.int .i64 (l0_1.length : Int)]) (ok := fun _ => True) (okp := fun _ => True) ?hr ?hp (fun _ hk => hk) trivial (Below.refl _ _) (Nat.le_refl _) (by simp) ?_; (case hd => rfl); (case hg => rfl); (case hr => first | (go_simp; done) | (go_simp; rfl)); (case hp => exact (Reps.one (show Kd.M (Kd.int .i64) _ _ _ (l0_1.length : Int) [.int .i64 (l0_1.length : Int)] from rfl) (Reps.none _ _))); intro v242 w38 ho39 hb hg_ hnew_; clear hg_ hnew_; (first | rw [← Ny241.out] at ho39 | (simp only [Int.reduceToNat] at ho39; rw [← Ny241.out] at ho39)); have n0_ := Aside0.mk (Kd.R_lower ho39 (below_size B10x1_)); have n1_ := Aside0.mk (blk_below (g := gb225) (o := .cells #[.slice A0_0 l0_0.length c0_0, .slice A0_1 l0_1.length c0_1] 42 (0, 0)) B10x0_ hb); have n2_ := Aside0.mk (below_step B10x1_ hb); clear BK225; clear HB; have HO243 := n0_; have BK225 := n1_; have HB := n2_; clear n0_ n1_ n2_; clear hb ho39; obtain ⟨Ao40, co40, eo40⟩ := Kd.R_slice HO243.out; subst eo40) | ((with_reducible refine gate_callee (f := 146) rfl ?_); refine goesL_ (some 43) rfl rfl Try.func146 B10x6_ rfl #[.slice Ao40 y241.length co40] rfl B10x8_ ?_; (with_reducible refine (impl_varTexts.calls k1 _ _ y241 t244 _ ?side1 ?side2 A35.out).mono ?_); (case side1 => repeat (first | exact (Kd.R_reads' HO243.out).2.2 | (with_reducible refine Kd.C_alloc ?_ _) | (with_reducible refine Kd.C_drewN ?_ _) | (with_reducible refine Kd.C_drew ?_))); (case side2 => exact (Kd.R_reads' HO243.out).2.1); rintro e w41 ⟨rfl, hb⟩; refine ⟨_, rfl, ?_⟩; have n0_ := Aside0.mk (Kd.R_below (by (with_reducible repeat (first | apply Kd.R_alloc | apply Kd.R_drewN | apply Kd.R_drew)); exact HO243.out) hb); have n1_ := Aside0.mk (blk_below (g := gb225) (o := .cells #[.slice A0_0 l0_0.length c0_0, .slice A0_1 l0_1.length c0_1] 42 (0, 0)) B10x0_ hb); have n2_ := Aside0.mk (below_step B10x1_ hb); clear HO243; clear BK225; clear HB; have HO243 := n0_; have BK225 := n1_; have HB := n2_; clear n0_ n1_ n2_; (try clear hb); (try clear hb2); (try clear hk); (try clear hi); obtain ⟨hcz42_0, hcz42_1⟩ := cl2 BK225.out; obtain ⟨hfz42_0, hfz42_1⟩ := fr2 BK225.out))
      go_loopg [4, 48] k1 (fun kq v4 v48 w' => ∃ (x4_2 : ByteArray) (x48_2 : Int), v4 = .string x4_2 ∧ v48 = .int .i64 x48_2 ∧ Aside0 (impl_KeepText.l1 kq x4_2 l0_1 (l0_1.length : Int) x48_2 = some (r1, r2)) ∧ Aside0 (kq ≤ k1) ∧ Aside0 (w'.heap[gb225]? = some (.cells #[(.slice A0_0 l0_0.length c0_0), (.slice A0_1 l0_1.length c0_1)] 42 (0, 0))) ∧ Aside0 (Below w.heap.size w w'))
      case atStart => exact ⟨(x4_1 ++ t244), (0), (be_), (be_), H', ⟨Nat.le_refl _⟩, ⟨by (with_reducible repeat (first | refine blk_drewN ?_ _ | refine blk_drew ?_ | refine blk_alloc ?_ _)); exact BK225.out⟩, ⟨by repeat (first | (with_reducible first | exact HB.out | apply below_alloc | apply pw_below_drewN | apply below_drew1 | refine below_set ?_ GE225.out) | exact HB.out)⟩⟩
      case round =>
       clear H'
       try clear c1
       try clear c2
       try clear p2
       try clear q2
       try clear hx2
       try clear c3
       try clear p6
       try clear c7
       try clear c14
       try clear c14b0
       try clear c15
       try clear c15b0
       try clear c16
       try clear c16b0
       try clear c19
       try clear c19b0
       try clear c19b1
       try clear c19b2
       try clear c20
       try clear c20b0
       try clear c20b1
       try clear c20b2
       try clear c22
       try clear p23
       try clear q23
       try clear hx23
       try clear c34
       try clear c36
       try clear c36b0
       try clear c36b1
       try clear c36b2
       try clear hcz13_0
       try clear hcz13_1
       try clear hcz23_0
       try clear hcz23_1
       try clear hcz23_2
       try clear hcz37_0
       try clear hcz37_1
       try clear hcz42_0
       try clear hcz42_1
       try clear hcz6_0
       try clear hcz6_1
       try clear hcz8_0
       try clear hcz8_1
       try clear hfz13_0
       try clear hfz13_1
       try clear hfz23_0
       try clear hfz23_1
       try clear hfz23_2
       try clear hfz37_0
       try clear hfz37_1
       try clear hfz42_0
       try clear hfz42_1
       try clear hfz6_0
       try clear hfz6_1
       try clear hfz8_0
       try clear hfz8_1
       try clear hx231_0
       try clear hx231_1
       try clear hx231_2
       try clear p2
       try clear p231
       try clear q231
       obtain ⟨x4_2, x48_2, rfl, rfl, HA, HK2, BK225, HB⟩ := hrel
       cases gk with
       | zero => exact absurd HA.out (by simp [impl_KeepText.l1])
       | succ k2 =>
        have H := HA.out
        clear HA
        simp only [impl_KeepText.l1] at H
        by_cases c43 : x48_2 < (l0_1.length : Int)
        ·rw [if_pos c43] at H
         have c43b0 : decide (x48_2 < (l0_1.length : Int)) = true := decide_eq_true c43
         clear c43
         by_cases c44 : 0 ≤ x48_2
         ·rw [if_pos c44] at H
          have c44b0 : decide (0 ≤ x48_2) = true := decide_eq_true c44
          clear c44
          by_cases c45 : x48_2 < (l0_1.length : Int)
          ·rw [if_pos c45] at H
           have c45b0 : decide (x48_2 < (l0_1.length : Int)) = true := decide_eq_true c45
           clear c45
           obtain ⟨y247, hy247⟩ : ∃ y_ : List ByteArray, y_ = (([(rd_T121 l0_1 x48_2).f0, (rd_T121 l0_1 x48_2).f1] : List ByteArray)) := ⟨_, rfl⟩
           replace H : ((impl_shortTexts.f k2 y247).bind fun t250 => ((impl_varTexts.f k2 (([(rd_T121 l0_1 x48_2).f2] : List Int))).bind fun t254 => (if t250.size + t254.size ≤ 9223372036854775807 then (if x4_2.size + (t250 ++ t254).size ≤ 9223372036854775807 then (impl_KeepText.l1 k2 (x4_2 ++ (t250 ++ t254)) l0_1 (l0_1.length : Int) (wrap64 (x48_2 + 1))) else (none)) else (none)))) = some (r1, r2) := by first | (rw [hy247]; with_reducible exact H) | (have H2_ := (Option.bind_some _ _).symm.trans H; rw [hy247]; with_reducible exact H2_) | (have H2_ := (Option.bind_some _ _).symm.trans H; with_reducible exact H2_) | with_reducible exact H | (rw [hy247]; exact H) | exact H
           have Ny247 := Aside0.mk hy247
           clear hy247
           replace H := Option.bind_eq_some_iff.mp H
           obtain ⟨t250, A460, H⟩ := H
           (try dsimp only at H)
           have A46 := Aside0.mk A460
           clear A460
           obtain ⟨y251, hy251⟩ : ∃ y_ : List Int, y_ = (([(rd_T121 l0_1 x48_2).f2] : List Int)) := ⟨_, rfl⟩
           replace H : ((impl_varTexts.f k2 y251).bind fun t254 => (if t250.size + t254.size ≤ 9223372036854775807 then (if x4_2.size + (t250 ++ t254).size ≤ 9223372036854775807 then (impl_KeepText.l1 k2 (x4_2 ++ (t250 ++ t254)) l0_1 (l0_1.length : Int) (wrap64 (x48_2 + 1))) else (none)) else (none))) = some (r1, r2) := by first | (rw [hy251]; with_reducible exact H) | (have H2_ := (Option.bind_some _ _).symm.trans H; rw [hy251]; with_reducible exact H2_) | (have H2_ := (Option.bind_some _ _).symm.trans H; with_reducible exact H2_) | with_reducible exact H | (rw [hy251]; exact H) | exact H
           have Ny251 := Aside0.mk hy251
           clear hy251
           replace H := Option.bind_eq_some_iff.mp H
           obtain ⟨t254, A470, H⟩ := H
           (try dsimp only at H)
           have A47 := Aside0.mk A470
           clear A470
           by_cases c48 : t250.size + t254.size ≤ 9223372036854775807
           ·rw [if_pos c48] at H
            have c48b0 := eq_true c48
            have c48b1 : decide (t250.size + t254.size ≤ 9223372036854775807) = true := decide_eq_true c48
            try have c48b2 : (9223372036854775807 < t250.size + t254.size) = False := eq_false (Nat.not_lt.2 c48)
            try (have c48b9 := c48b2; simp only [ByteArray.size_append] at c48b9)
            by_cases c49 : x4_2.size + (t250 ++ t254).size ≤ 9223372036854775807
            ·rw [if_pos c49] at H
             have c49b0 := eq_true c49
             have c49b1 : decide (x4_2.size + (t250 ++ t254).size ≤ 9223372036854775807) = true := decide_eq_true c49
             try have c49b2 : (9223372036854775807 < x4_2.size + (t250 ++ t254).size) = False := eq_false (Nat.not_lt.2 c49)
             try have c49b8 : (9223372036854775807 < x4_2.size + t250.size + t254.size) = False := eq_false (by have h_ := c49; simp only [ByteArray.size_append, ByteArray.size_extract, decide_eq_true_eq, decide_eq_false_iff_not] at *; omega)
             try (have c49b9 := c49b2; simp only [ByteArray.size_append] at c49b9)
             have H' := Aside0.mk H
             clear H
             have p245 : 0 ≤ (x48_2 : Int) := of_decide_eq_true B10x15_
             have q245 : x48_2 < (l0_1.length : Int) := of_decide_eq_true B10x15_
             obtain ⟨ad245, e245, hx245_0, hx245_1, hx245_2⟩ := at_T121 HR0_1.out x48_2 p245 q245
             cases e245
             replace hx245_0 := (HB.out.cell (World.block_lt_of_cell? w _ hx245_0)).trans hx245_0
             replace hx245_1 := (HB.out.cell (World.block_lt_of_cell? w _ hx245_1)).trans hx245_1
             replace hx245_2 := (HB.out.cell (World.block_lt_of_cell? w _ hx245_2)).trans hx245_2
             replace p245 := eq_true p245
             replace q245 := eq_true q245
             try go_wp2_with (first | ((with_reducible refine gate_dst (N := 8) rfl ?_); refine box_event ?hg (N := 8) ?hd (cs := #[.string (⟨#[]⟩ : ByteArray), .string (⟨#[]⟩ : ByteArray), .int .i64 0]) (t := 121) ?hr ?_; (case hd => rfl); (case hg => rfl); (case hr => first | (go_simp; done) | (go_simp; rfl)); intro gb246 hg w50 hbox hb; have n0_ := Aside0.mk (blk_below (g := gb225) (o := .cells #[.slice A0_0 l0_0.length c0_0, .slice (some ad245) l0_1.length c0_1] 42 (0, 0)) B10x0_ hb); have n1_ := Aside0.mk (below_step B10x1_ hb); have n2_ := Aside0.mk (hbox); have n3_ := Aside0.mk ((by rw [hg]; exact (below_size B10x1_) : w.heap.size ≤ gb246)); have n4_ := Aside0.mk ((by rw [hg]; exact (below_size B10x1_) : w.heap.size ≤ gb246)); have n5_ := Aside0.mk ((by rw [hg]; exact Nat.ne_of_lt (blk_lt (g := gb225) (o := .cells #[.slice A0_0 l0_0.length c0_0, .slice (some ad245) l0_1.length c0_1] 42 (0, 0)) B10x0_) : gb225 ≠ gb246)); have n6_ := Aside0.mk ((by rw [hg]; exact Nat.ne_of_gt (blk_lt (g := gb225) (o := .cells #[.slice A0_0 l0_0.length c0_0, .slice (some ad245) l0_1.length c0_1] 42 (0, 0)) B10x0_) : gb246 ≠ gb225)); clear BK225; clear HB; have BK225 := n0_; have HB := n1_; have BK246 := n2_; have GW246 := n3_; have GE246 := n4_; have NB225_246 := n5_; have NB246_225 := n6_; clear n0_ n1_ n2_ n3_ n4_ n5_ n6_; clear hb hbox hg; have hnb51 := NB246_225.out; have hnc51 := NB225_246.out; obtain ⟨hcz52_0, hcz52_1, hcz52_2⟩ := cl3 BK246.out; obtain ⟨hfz52_0, hfz52_1, hfz52_2⟩ := fr3 BK246.out))
             have n0_ : Aside0 ((((w50.setCell ⟨gb246, 0, none⟩ (.string ((rd_T121 l0_1 x48_2).f0))).setCell ⟨gb246, 1, none⟩ (.string ((rd_T121 l0_1 x48_2).f1))).setCell ⟨gb246, 2, none⟩ (.int .i64 ((rd_T121 l0_1 x48_2).f2))).heap[gb225]? = some (.cells #[.slice A0_0 l0_0.length c0_0, .slice (some ad245) l0_1.length c0_1] 42 (0, 0))) := ⟨by (with_reducible repeat (first | refine blk_drewN ?_ _ | refine blk_drew ?_ | refine blk_alloc ?_ _)); refine blk_far ?_ NB225_246.out _; (with_reducible repeat (first | refine blk_drewN ?_ _ | refine blk_drew ?_ | refine blk_alloc ?_ _)); refine blk_far ?_ NB225_246.out _; (with_reducible repeat (first | refine blk_drewN ?_ _ | refine blk_drew ?_ | refine blk_alloc ?_ _)); refine blk_far ?_ NB225_246.out _; (with_reducible repeat (first | refine blk_drewN ?_ _ | refine blk_drew ?_ | refine blk_alloc ?_ _)); exact BK225.out⟩
             have n1_ : Aside0 ((((w50.setCell ⟨gb246, 0, none⟩ (.string ((rd_T121 l0_1 x48_2).f0))).setCell ⟨gb246, 1, none⟩ (.string ((rd_T121 l0_1 x48_2).f1))).setCell ⟨gb246, 2, none⟩ (.int .i64 ((rd_T121 l0_1 x48_2).f2))).heap[gb246]? = some (.cells #[.string ((rd_T121 l0_1 x48_2).f0), .string ((rd_T121 l0_1 x48_2).f1), .int .i64 ((rd_T121 l0_1 x48_2).f2)] 121 (0, 0))) := ⟨by (with_reducible repeat (first | refine blk_drewN ?_ _ | refine blk_drew ?_ | refine blk_alloc ?_ _)); refine blk_put (cs := #[.string ((rd_T121 l0_1 x48_2).f0), .string ((rd_T121 l0_1 x48_2).f1), .int .i64 0]) ?_ 2 _ rfl; (with_reducible repeat (first | refine blk_drewN ?_ _ | refine blk_drew ?_ | refine blk_alloc ?_ _)); refine blk_put (cs := #[.string ((rd_T121 l0_1 x48_2).f0), .string (⟨#[]⟩ : ByteArray), .int .i64 0]) ?_ 1 _ rfl; (with_reducible repeat (first | refine blk_drewN ?_ _ | refine blk_drew ?_ | refine blk_alloc ?_ _)); refine blk_put (cs := #[.string (⟨#[]⟩ : ByteArray), .string (⟨#[]⟩ : ByteArray), .int .i64 0]) ?_ 0 _ rfl; (with_reducible repeat (first | refine blk_drewN ?_ _ | refine blk_drew ?_ | refine blk_alloc ?_ _)); exact BK246.out⟩
             have n2_ : Aside0 (Below w.heap.size w (((w50.setCell ⟨gb246, 0, none⟩ (.string ((rd_T121 l0_1 x48_2).f0))).setCell ⟨gb246, 1, none⟩ (.string ((rd_T121 l0_1 x48_2).f1))).setCell ⟨gb246, 2, none⟩ (.int .i64 ((rd_T121 l0_1 x48_2).f2)))) := ⟨by repeat (first | (with_reducible first | exact HB.out | apply below_alloc | apply pw_below_drewN | apply below_drew1 | refine below_set ?_ GE225.out | refine below_set ?_ GE246.out) | exact HB.out)⟩
             (try clear BK225)
             (try clear BK246)
             (try clear HB)
             generalize (((w50.setCell ⟨gb246, 0, none⟩ (.string ((rd_T121 l0_1 x48_2).f0))).setCell ⟨gb246, 1, none⟩ (.string ((rd_T121 l0_1 x48_2).f1))).setCell ⟨gb246, 2, none⟩ (.int .i64 ((rd_T121 l0_1 x48_2).f2))) = w53 at n0_ n1_ n2_ ⊢
             have BK225 := n0_
             have BK246 := n1_
             have HB := n2_
             clear n0_ n1_ n2_
             have n0_ := Aside0.mk (blk_drew BK225.out)
             have n1_ := Aside0.mk (blk_drew BK246.out)
             have n2_ := Aside0.mk (below_drew1 HB.out)
             clear BK225
             clear BK246
             clear HB
             have BK225 := n0_
             have BK246 := n1_
             have HB := n2_
             clear n0_ n1_ n2_
             refine start_ (n := 14) (S := fun w' => True) (ds := []) #[false, false, false, false, false, false, false, false, false, false, false, false, false, false] B10x6_ rfl rfl trivial (fun hHeld => ?_); refine with_tabW impl_KeepText.tab13 impl_KeepText.bits13 (fun HT_ HW_ => ?_)
             generalize w53.drew = w54 at BK225 BK246 HB hHeld ⊢
             refine pu_ 0 52 HT_ ?_
             refine pu_ 1 53 HT_ ?_
             refine pu_ 3 55 HT_ ?_
             refine pu_ 7 59 HT_ ?_
             refine inv_at [2, 4, 5, 6, 8, 9, 10, 11, 12, 13] (fun a0_ b a w' => ∃ (v248 : Value) (v252 : Value), a = putSel a0_ b [(2, 54, .string ((rd_T121 l0_1 x48_2).f0)), (4, 56, .string ((rd_T121 l0_1 x48_2).f1)), (5, 57, v248), (6, 58, .string t250), (8, 60, .int .i64 ((rd_T121 l0_1 x48_2).f2)), (9, 61, v252), (10, 62, .string t254), (11, 63, .string (t250 ++ t254)), (12, 64, .string (x4_2 ++ (t250 ++ t254))), (13, 4, .string (x4_2 ++ (t250 ++ t254)))] ∧ (w'.heap[gb225]? = some (.cells #[.slice A0_0 l0_0.length c0_0, .slice (some ad245) l0_1.length c0_1] 42 (0, 0))) ∧ (w'.heap[gb246]? = some (.cells #[.string ((rd_T121 l0_1 x48_2).f0), .string ((rd_T121 l0_1 x48_2).f1), .int .i64 ((rd_T121 l0_1 x48_2).f2)] 121 (0, 0))) ∧ (Below w.heap.size w w') ∧ (b 5 = true → Kd.R Kd.string 9 w' w.heap.size (fun _ => True) v248 y247) ∧ (b 9 = true → Kd.R (Kd.int .i64) 3 w' w.heap.size (fun _ => True) v252 y251)) HT_.out HW_.out B10x6_ B10x6_ ?_ ?_ ?_
             ·exact ⟨.bool false, .bool false, by simp only [putSel, Bool.false_eq_true, if_false], BK225.out, BK246.out, HB.out, fun h_ => absurd h_ (by decide), fun h_ => absurd h_ (by decide)⟩
             ·skip
              clear BK225 BK246 HB
              refine steps_cons ?_ ?_
              ·rintro b a w' ⟨v248, v252, ha, Q_BK225, Q_BK246, Q_HB, Q_HO249, Q_HO253⟩ hb_ hon hoff
               refine ⟨_, rfl, fun K hK => ?_⟩
               have e53 : a.tmps[53]? = some (.pointer (some ⟨gb246, 0, none⟩)) := by rw [ha]; exact (putSel_off rfl).trans rfl
               replace ha := Aside0.mk ha
               have BK225 := Aside0.mk Q_BK225
               have BK246 := Aside0.mk Q_BK246
               have HB := Aside0.mk Q_HB
               have hc0_ : w'.cell? ⟨gb246, 0, none⟩ = some (.string ((rd_T121 l0_1 x48_2).f0)) := (blk_cell BK246.out 0).trans rfl
               have hc1_ : w'.cell? ⟨gb246, 1, none⟩ = some (.string ((rd_T121 l0_1 x48_2).f1)) := (blk_cell BK246.out 1).trans rfl
               have hc2_ : w'.cell? ⟨gb246, 2, none⟩ = some (.int .i64 ((rd_T121 l0_1 x48_2).f2)) := (blk_cell BK246.out 2).trans rfl
               refine value_ (w1 := w') (v := .string ((rd_T121 l0_1 x48_2).f0)) (by rfl) rfl ?_ ?_
               ·go_simp
                (try simp only [i64_w])
                try rfl
               refine hK.out _ _ ⟨v248, v252, B10x18_, Q_BK225, Q_BK246, Q_HB, fun h0_ => absurd ((hoff 5 B10x6_).symm.trans h0_) (by decide), Q_HO253⟩
              refine steps_cons ?_ ?_
              ·rintro b a w' ⟨v248, v252, ha, Q_BK225, Q_BK246, Q_HB, Q_HO249, Q_HO253⟩ hb_ hon hoff
               refine ⟨_, rfl, fun K hK => ?_⟩
               have e55 : a.tmps[55]? = some (.pointer (some ⟨gb246, 1, none⟩)) := by rw [ha]; exact (putSel_off rfl).trans rfl
               replace ha := Aside0.mk ha
               have BK225 := Aside0.mk Q_BK225
               have BK246 := Aside0.mk Q_BK246
               have HB := Aside0.mk Q_HB
               have hc0_ : w'.cell? ⟨gb246, 0, none⟩ = some (.string ((rd_T121 l0_1 x48_2).f0)) := (blk_cell BK246.out 0).trans rfl
               have hc1_ : w'.cell? ⟨gb246, 1, none⟩ = some (.string ((rd_T121 l0_1 x48_2).f1)) := (blk_cell BK246.out 1).trans rfl
               have hc2_ : w'.cell? ⟨gb246, 2, none⟩ = some (.int .i64 ((rd_T121 l0_1 x48_2).f2)) := (blk_cell BK246.out 2).trans rfl
               refine value_ (w1 := w') (v := .string ((rd_T121 l0_1 x48_2).f1)) (by rfl) rfl ?_ ?_
               ·go_simp
                (try simp only [i64_w])
                try rfl
               refine hK.out _ _ ⟨v248, v252, B10x19_, Q_BK225, Q_BK246, Q_HB, fun h0_ => absurd ((hoff 5 B10x6_).symm.trans h0_) (by decide), Q_HO253⟩
              refine steps_cons ?_ ?_
              ·rintro b a w' ⟨v248, v252, ha, Q_BK225, Q_BK246, Q_HB, Q_HO249, Q_HO253⟩ hb_ hon hoff
               refine ⟨_, rfl, fun K hK => ?_⟩
               have e54 : a.tmps[54]? = some (.string ((rd_T121 l0_1 x48_2).f0)) := by rw [ha]; exact putSel_on (e := (2, 54, .string ((rd_T121 l0_1 x48_2).f0))) 0 rfl rfl (hon 2 B10x6_) rfl
               have e56 : a.tmps[56]? = some (.string ((rd_T121 l0_1 x48_2).f1)) := by rw [ha]; exact putSel_on (e := (4, 56, .string ((rd_T121 l0_1 x48_2).f1))) 1 rfl rfl (hon 4 B10x6_) rfl
               replace ha := Aside0.mk ha
               have BK225 := Aside0.mk Q_BK225
               have BK246 := Aside0.mk Q_BK246
               have HB := Aside0.mk Q_HB
               refine Kd.R_lit_step Kd.string _ 9 ?hg (N := 57) ?hd (xs := ([(rd_T121 l0_1 x48_2).f0, (rd_T121 l0_1 x48_2).f1] : List ByteArray)) (inner := [.string ((rd_T121 l0_1 x48_2).f0), .string ((rd_T121 l0_1 x48_2).f1)]) (ok := fun _ => True) (okp := fun _ => True) ?hr ?hp (fun _ hk => hk) trivial (Below.refl _ _) (Nat.le_refl _) (by simp) ?_; (case hd => rfl); (case hg => rfl); (case hr => first | (go_simp; done) | (go_simp; rfl)); (case hp => exact (Reps.one (show Kd.M Kd.string _ _ _ ((rd_T121 l0_1 x48_2).f0) [.string ((rd_T121 l0_1 x48_2).f0)] from rfl) (Reps.one (show Kd.M Kd.string _ _ _ ((rd_T121 l0_1 x48_2).f1) [.string ((rd_T121 l0_1 x48_2).f1)] from rfl) (Reps.none _ _))))
               intro v248 w55 ho56 hb hg_ hnew_
               clear hg_ hnew_
               (first | rw [← Ny247.out] at ho56 | (simp only [Int.reduceToNat] at ho56; rw [← Ny247.out] at ho56))
               have n0_ := Aside0.mk (Kd.R_lower ho56 (below_size B10x3_))
               have n1_ := Aside0.mk (blk_below (g := gb225) (o := .cells #[.slice A0_0 l0_0.length c0_0, .slice (some ad245) l0_1.length c0_1] 42 (0, 0)) B10x0_ hb)
               have n2_ := Aside0.mk (blk_below (g := gb246) (o := .cells #[.string ((rd_T121 l0_1 x48_2).f0), .string ((rd_T121 l0_1 x48_2).f1), .int .i64 ((rd_T121 l0_1 x48_2).f2)] 121 (0, 0)) B10x5_ hb)
               have n3_ := Aside0.mk (below_step B10x3_ hb)
               have z_HO253 := fun (h0_ : b 9 = true) => (show Kd.R (Kd.int .i64) 3 w55 w.heap.size (fun _ => True) v252 y251 from by first | exact (Kd.R_below B10x12_ hb) | exact Kd.R_mono (Kd.R_below B10x12_ hb) (fun _ h_ => by first | trivial | exact h_ | exact h_.1))
               clear BK225
               clear BK246
               clear HB
               have HO249 := n0_
               have BK225 := n1_
               have BK246 := n2_
               have HB := n3_
               clear n0_ n1_ n2_ n3_
               clear hb ho56
               refine hK.out _ _ ⟨v248, v252, B10x20_, B10x0_, B10x5_, B10x3_, fun _ => B10x10_, z_HO253⟩
              refine steps_cons ?_ ?_
              ·rintro b a w' ⟨v248, v252, ha, Q_BK225, Q_BK246, Q_HB, Q_HO249, Q_HO253⟩ hb_ hon hoff
               refine ⟨_, rfl, fun K hK => ?_⟩
               have e57 : a.tmps[57]? = some (v248) := by rw [ha]; exact putSel_on (e := (5, 57, v248)) 2 rfl rfl (hon 5 B10x6_) rfl
               replace ha := Aside0.mk ha
               have BK225 := Aside0.mk Q_BK225
               have BK246 := Aside0.mk Q_BK246
               have HB := Aside0.mk Q_HB
               have HO249 := Aside0.mk (Q_HO249 (hon 5 B10x6_))
               obtain ⟨Ao58, co58, eo58⟩ := Kd.R_slice HO249.out
               (first | subst eo58 | (injection eo58 with f1_ f2_ f3_; have f4_ := f1_.symm; have f5_ := f3_.symm; clear f1_ f2_ f3_; subst f4_; subst f5_))
               refine goes_ Try.func147 B10x6_ rfl #[.slice Ao58 y247.length co58] (by rfl) rfl rfl (by first | (simp only [List.map_toArray, List.map_cons, List.map_nil, Act.eval, Array.getD_eq_getD_getElem?, Option.getD_some, e57]; done) | (simp only [List.map_toArray, List.map_cons, List.map_nil, Act.eval, Array.getD_eq_getD_getElem?, Option.getD_some, e57]; rfl)) ?_
               with_reducible refine (impl_shortTexts.calls k2 _ _ y247 t250 _ ?side1 ?side2 A46.out).mono ?_
               (case side1 => repeat (first | exact (Kd.R_reads' HO249.out).2.2 | (with_reducible refine Kd.C_alloc ?_ _) | (with_reducible refine Kd.C_drewN ?_ _) | (with_reducible refine Kd.C_drew ?_)))
               (case side2 => exact (Kd.R_reads' HO249.out).2.1)
               rintro e w59 ⟨rfl, hb⟩
               refine ⟨_, rfl, ?_⟩
               have n0_ := Aside0.mk (Kd.R_below B10x10_ hb)
               have n1_ := Aside0.mk (blk_below (g := gb225) (o := .cells #[.slice A0_0 l0_0.length c0_0, .slice (some ad245) l0_1.length c0_1] 42 (0, 0)) B10x0_ hb)
               have n2_ := Aside0.mk (blk_below (g := gb246) (o := .cells #[.string ((rd_T121 l0_1 x48_2).f0), .string ((rd_T121 l0_1 x48_2).f1), .int .i64 ((rd_T121 l0_1 x48_2).f2)] 121 (0, 0)) B10x5_ hb)
               have n3_ := Aside0.mk (below_step B10x3_ hb)
               have z_HO253 := fun (h0_ : b 9 = true) => (show Kd.R (Kd.int .i64) 3 w59 w.heap.size (fun _ => True) v252 y251 from by first | exact (Kd.R_below B10x12_ hb) | exact Kd.R_mono (Kd.R_below B10x12_ hb) (fun _ h_ => by first | trivial | exact h_ | exact h_.1))
               clear HO249
               clear BK225
               clear BK246
               clear HB
               have HO249 := n0_
               have BK225 := n1_
               have BK246 := n2_
               have HB := n3_
               clear n0_ n1_ n2_ n3_
               (try clear hb)
               (try clear hb2)
               (try clear hk)
               (try clear hi)
               refine hK.out _ _ ⟨.slice Ao58 y247.length co58, v252, B10x21_, B10x0_, B10x5_, B10x3_, fun _ => B10x10_, z_HO253⟩
              refine steps_cons ?_ ?_
              ·rintro b a w' ⟨v248, v252, ha, Q_BK225, Q_BK246, Q_HB, Q_HO249, Q_HO253⟩ hb_ hon hoff
               refine ⟨_, rfl, fun K hK => ?_⟩
               have e59 : a.tmps[59]? = some (.pointer (some ⟨gb246, 2, none⟩)) := by rw [ha]; exact (putSel_off rfl).trans rfl
               replace ha := Aside0.mk ha
               have BK225 := Aside0.mk Q_BK225
               have BK246 := Aside0.mk Q_BK246
               have HB := Aside0.mk Q_HB
               have hc0_ : w'.cell? ⟨gb246, 0, none⟩ = some (.string ((rd_T121 l0_1 x48_2).f0)) := (blk_cell BK246.out 0).trans rfl
               have hc1_ : w'.cell? ⟨gb246, 1, none⟩ = some (.string ((rd_T121 l0_1 x48_2).f1)) := (blk_cell BK246.out 1).trans rfl
               have hc2_ : w'.cell? ⟨gb246, 2, none⟩ = some (.int .i64 ((rd_T121 l0_1 x48_2).f2)) := (blk_cell BK246.out 2).trans rfl
               refine value_ (w1 := w') (v := .int .i64 ((rd_T121 l0_1 x48_2).f2)) (by rfl) rfl ?_ ?_
               ·go_simp
                (try simp only [i64_w])
                try rfl
               refine hK.out _ _ ⟨v248, v252, B10x22_, Q_BK225, Q_BK246, Q_HB, Q_HO249, fun h0_ => absurd ((hoff 9 B10x6_).symm.trans h0_) (by decide)⟩
              refine steps_cons ?_ ?_
              ·rintro b a w' ⟨v248, v252, ha, Q_BK225, Q_BK246, Q_HB, Q_HO249, Q_HO253⟩ hb_ hon hoff
               refine ⟨_, rfl, fun K hK => ?_⟩
               have e60 : a.tmps[60]? = some (.int .i64 ((rd_T121 l0_1 x48_2).f2)) := by rw [ha]; exact putSel_on (e := (8, 60, .int .i64 ((rd_T121 l0_1 x48_2).f2))) 4 rfl rfl (hon 8 B10x6_) rfl
               replace ha := Aside0.mk ha
               have BK225 := Aside0.mk Q_BK225
               have BK246 := Aside0.mk Q_BK246
               have HB := Aside0.mk Q_HB
               refine Kd.R_lit_step (Kd.int .i64) _ 3 ?hg (N := 61) ?hd (xs := ([(rd_T121 l0_1 x48_2).f2] : List Int)) (inner := [.int .i64 ((rd_T121 l0_1 x48_2).f2)]) (ok := fun _ => True) (okp := fun _ => True) ?hr ?hp (fun _ hk => hk) trivial (Below.refl _ _) (Nat.le_refl _) (by simp) ?_; (case hd => rfl); (case hg => rfl); (case hr => first | (go_simp; done) | (go_simp; rfl)); (case hp => exact (Reps.one (show Kd.M (Kd.int .i64) _ _ _ ((rd_T121 l0_1 x48_2).f2) [.int .i64 ((rd_T121 l0_1 x48_2).f2)] from rfl) (Reps.none _ _)))
               intro v252 w55 ho56 hb hg_ hnew_
               clear hg_ hnew_
               (first | rw [← Ny251.out] at ho56 | (simp only [Int.reduceToNat] at ho56; rw [← Ny251.out] at ho56))
               have n0_ := Aside0.mk (Kd.R_lower ho56 (below_size B10x3_))
               have n1_ := Aside0.mk (blk_below (g := gb225) (o := .cells #[.slice A0_0 l0_0.length c0_0, .slice (some ad245) l0_1.length c0_1] 42 (0, 0)) B10x0_ hb)
               have n2_ := Aside0.mk (blk_below (g := gb246) (o := .cells #[.string ((rd_T121 l0_1 x48_2).f0), .string ((rd_T121 l0_1 x48_2).f1), .int .i64 ((rd_T121 l0_1 x48_2).f2)] 121 (0, 0)) B10x5_ hb)
               have n3_ := Aside0.mk (below_step B10x3_ hb)
               have z_HO249 := fun (h0_ : b 5 = true) => (show Kd.R Kd.string 9 w55 w.heap.size (fun _ => True) v248 y247 from by first | exact (Kd.R_below B10x17_ hb) | exact Kd.R_mono (Kd.R_below B10x17_ hb) (fun _ h_ => by first | trivial | exact h_ | exact h_.1))
               clear BK225
               clear BK246
               clear HB
               have HO253 := n0_
               have BK225 := n1_
               have BK246 := n2_
               have HB := n3_
               clear n0_ n1_ n2_ n3_
               clear hb ho56
               refine hK.out _ _ ⟨v248, v252, B10x23_, B10x0_, B10x5_, B10x3_, z_HO249, fun _ => B10x14_⟩
              refine steps_cons ?_ ?_
              ·rintro b a w' ⟨v248, v252, ha, Q_BK225, Q_BK246, Q_HB, Q_HO249, Q_HO253⟩ hb_ hon hoff
               refine ⟨_, rfl, fun K hK => ?_⟩
               have e61 : a.tmps[61]? = some (v252) := by rw [ha]; exact putSel_on (e := (9, 61, v252)) 5 rfl rfl (hon 9 B10x6_) rfl
               replace ha := Aside0.mk ha
               have BK225 := Aside0.mk Q_BK225
               have BK246 := Aside0.mk Q_BK246
               have HB := Aside0.mk Q_HB
               have HO249 := Aside0.mk (Q_HO249 (hon 5 B10x6_))
               have HO253 := Aside0.mk (Q_HO253 (hon 9 B10x6_))
               obtain ⟨Ao62, co62, eo62⟩ := Kd.R_slice HO253.out
               (first | subst eo62 | (injection eo62 with f1_ f2_ f3_; have f4_ := f1_.symm; have f5_ := f3_.symm; clear f1_ f2_ f3_; subst f4_; subst f5_))
               refine goes_ Try.func146 B10x6_ rfl #[.slice Ao62 y251.length co62] (by rfl) rfl rfl (by first | (simp only [List.map_toArray, List.map_cons, List.map_nil, Act.eval, Array.getD_eq_getD_getElem?, Option.getD_some, e61]; done) | (simp only [List.map_toArray, List.map_cons, List.map_nil, Act.eval, Array.getD_eq_getD_getElem?, Option.getD_some, e61]; rfl)) ?_
               with_reducible refine (impl_varTexts.calls k2 _ _ y251 t254 _ ?side1 ?side2 A47.out).mono ?_
               (case side1 => repeat (first | exact (Kd.R_reads' HO253.out).2.2 | (with_reducible refine Kd.C_alloc ?_ _) | (with_reducible refine Kd.C_drewN ?_ _) | (with_reducible refine Kd.C_drew ?_)))
               (case side2 => exact (Kd.R_reads' HO253.out).2.1)
               rintro e w63 ⟨rfl, hb⟩
               refine ⟨_, rfl, ?_⟩
               have n0_ := Aside0.mk (Kd.R_below B10x10_ hb)
               have n1_ := Aside0.mk (Kd.R_below B10x14_ hb)
               have n2_ := Aside0.mk (blk_below (g := gb225) (o := .cells #[.slice A0_0 l0_0.length c0_0, .slice (some ad245) l0_1.length c0_1] 42 (0, 0)) B10x0_ hb)
               have n3_ := Aside0.mk (blk_below (g := gb246) (o := .cells #[.string ((rd_T121 l0_1 x48_2).f0), .string ((rd_T121 l0_1 x48_2).f1), .int .i64 ((rd_T121 l0_1 x48_2).f2)] 121 (0, 0)) B10x5_ hb)
               have n4_ := Aside0.mk (below_step B10x3_ hb)
               clear HO249
               clear HO253
               clear BK225
               clear BK246
               clear HB
               have HO249 := n0_
               have HO253 := n1_
               have BK225 := n2_
               have BK246 := n3_
               have HB := n4_
               clear n0_ n1_ n2_ n3_ n4_
               (try clear hb)
               (try clear hb2)
               (try clear hk)
               (try clear hi)
               refine hK.out _ _ ⟨v248, .slice Ao62 y251.length co62, B10x24_, B10x0_, B10x5_, B10x3_, fun _ => B10x10_, fun _ => B10x14_⟩
              refine steps_cons ?_ ?_
              ·rintro b a w' ⟨v248, v252, ha, Q_BK225, Q_BK246, Q_HB, Q_HO249, Q_HO253⟩ hb_ hon hoff
               refine ⟨_, rfl, fun K hK => ?_⟩
               have e58 : a.tmps[58]? = some (.string t250) := by rw [ha]; exact putSel_on (e := (6, 58, .string t250)) 3 rfl rfl (hon 6 B10x6_) rfl
               have e62 : a.tmps[62]? = some (.string t254) := by rw [ha]; exact putSel_on (e := (10, 62, .string t254)) 6 rfl rfl (hon 10 B10x6_) rfl
               replace ha := Aside0.mk ha
               have BK225 := Aside0.mk Q_BK225
               have BK246 := Aside0.mk Q_BK246
               have HB := Aside0.mk Q_HB
               have HO249 := Aside0.mk (Q_HO249 (hon 5 B10x6_))
               have HO253 := Aside0.mk (Q_HO253 (hon 9 B10x6_))
               refine value_ (w1 := w') (v := .string (t250 ++ t254)) (by rfl) rfl ?_ ?_
               ·go_simp
                (try simp only [i64_w])
                try rfl
               refine hK.out _ _ ⟨v248, v252, B10x25_, Q_BK225, Q_BK246, Q_HB, Q_HO249, Q_HO253⟩
              refine steps_cons ?_ ?_
              ·rintro b a w' ⟨v248, v252, ha, Q_BK225, Q_BK246, Q_HB, Q_HO249, Q_HO253⟩ hb_ hon hoff
               refine ⟨_, rfl, fun K hK => ?_⟩
               have e52 : a.tmps[52]? = some (.string x4_2) := by rw [ha]; exact (putSel_off rfl).trans rfl
               have e63 : a.tmps[63]? = some (.string (t250 ++ t254)) := by rw [ha]; exact putSel_on (e := (11, 63, .string (t250 ++ t254))) 7 rfl rfl (hon 11 B10x6_) rfl
               replace ha := Aside0.mk ha
               have BK225 := Aside0.mk Q_BK225
               have BK246 := Aside0.mk Q_BK246
               have HB := Aside0.mk Q_HB
               have HO249 := Aside0.mk (Q_HO249 (hon 5 B10x6_))
               have HO253 := Aside0.mk (Q_HO253 (hon 9 B10x6_))
               refine value_ (w1 := w') (v := .string (x4_2 ++ (t250 ++ t254))) (by rfl) rfl ?_ ?_
               ·go_simp
                (try simp only [i64_w])
                try rfl
               refine hK.out _ _ ⟨v248, v252, B10x26_, Q_BK225, Q_BK246, Q_HB, Q_HO249, Q_HO253⟩
              refine steps_cons ?_ ?_
              ·rintro b a w' ⟨v248, v252, ha, Q_BK225, Q_BK246, Q_HB, Q_HO249, Q_HO253⟩ hb_ hon hoff
               refine ⟨_, rfl, fun K hK => ?_⟩
               have e64 : a.tmps[64]? = some (.string (x4_2 ++ (t250 ++ t254))) := by rw [ha]; exact putSel_on (e := (12, 64, .string (x4_2 ++ (t250 ++ t254)))) 8 rfl rfl (hon 12 B10x6_) rfl
               replace ha := Aside0.mk ha
               have BK225 := Aside0.mk Q_BK225
               have BK246 := Aside0.mk Q_BK246
               have HB := Aside0.mk Q_HB
               have HO249 := Aside0.mk (Q_HO249 (hon 5 B10x6_))
               have HO253 := Aside0.mk (Q_HO253 (hon 9 B10x6_))
               refine value_ (w1 := w') (v := .string (x4_2 ++ (t250 ++ t254))) (by rfl) rfl ?_ ?_
               ·go_simp
                (try simp only [i64_w])
                try rfl
               refine hK.out _ _ ⟨v248, v252, B10x27_, Q_BK225, Q_BK246, Q_HB, Q_HO249, Q_HO253⟩
              exact steps_nil
             rintro b a w63 hall ⟨v248, v252, ha, Q_BK225, Q_BK246, Q_HB, Q_HO249, Q_HO253⟩
             clear BK225 BK246 HB
             have hb2_ := hall 2 B10x6_
             have hb4_ := hall 4 B10x6_
             have hb5_ := hall 5 B10x6_
             have hb6_ := hall 6 B10x6_
             have hb8_ := hall 8 B10x6_
             have hb9_ := hall 9 B10x6_
             have hb10_ := hall 10 B10x6_
             have hb11_ := hall 11 B10x6_
             have hb12_ := hall 12 B10x6_
             have hb13_ := hall 13 B10x6_
             subst ha
             simp only [putSel, hb2_, hb4_, hb5_, hb6_, hb8_, hb9_, hb10_, hb11_, hb12_, hb13_, if_true, Act.put, List.setIfInBounds_toArray, List.set_cons_zero, List.set_cons_succ]
             have BK225 := Aside0.mk Q_BK225
             clear Q_BK225
             have BK246 := Aside0.mk Q_BK246
             clear Q_BK246
             have HB := Aside0.mk Q_HB
             clear Q_HB
             have HO249 := Aside0.mk (Q_HO249 hb5_)
             clear Q_HO249
             have HO253 := Aside0.mk (Q_HO253 hb9_)
             clear Q_HO253
             clear hall hb2_ hb4_ hb5_ hb6_ hb8_ hb9_ hb10_ hb11_ hb12_ hb13_
             try go_wp2
             go_roundg k2
             case measure => have := HK1.out; have := HK2.out; omega
             case rel => exact ⟨(x4_2 ++ (t250 ++ t254)), (wrap64 (x48_2 + 1)), (be_), (be_), H', ⟨by have := HK1.out; have := HK2.out; omega⟩, ⟨by (with_reducible repeat (first | refine blk_drewN ?_ _ | refine blk_drew ?_ | refine blk_alloc ?_ _)); exact BK225.out⟩, ⟨by repeat (first | (with_reducible first | exact HB.out | apply below_alloc | apply pw_below_drewN | apply below_drew1 | refine below_set ?_ GE225.out | refine below_set ?_ GE246.out) | exact HB.out)⟩⟩
            ·rw [if_neg c49] at H
             exact absurd H (by simp)
           ·rw [if_neg c48] at H
            exact absurd H (by simp)
          ·exact absurd H (by exfalso; (try have h0_ := of_decide_eq_true c43b0); (try have g0_ := c43); omega)
         ·rw [if_neg c44] at H
          exact absurd H (by simp)
        ·rw [if_neg c43] at H
         have c43b0 : decide (x48_2 < (l0_1.length : Int)) = false := decide_eq_false c43
         clear c43
         by_cases c64 : (x4_2.size : Int) > 20000
         ·rw [if_pos c64] at H
          have c64b0 : decide (20000 < (x4_2.size : Int)) = true := decide_eq_true c64
          have c64b1 : decide (20000 < x4_2.size) = true := decide_eq_true (by omega)
          clear c64
          simp only [Option.some.injEq, Prod.mk.injEq] at H
          obtain ⟨rfl, rfl⟩ := H
          go_wp2
          go_ret2
          exact ⟨by first | rfl | (simp [errW_none, errW_some] <;> rfl) | (simp [*, errW_none, errW_some] <;> rfl), by repeat (first | (with_reducible first | exact HB.out | apply below_alloc | apply pw_below_drewN | apply below_drew1 | refine below_set ?_ GE225.out) | exact HB.out)⟩
         ·rw [if_neg c64] at H
          have c64b0 : decide (20000 < (x4_2.size : Int)) = false := decide_eq_false c64
          have c64b1 : decide (20000 < x4_2.size) = false := decide_eq_false (by omega)
          clear c64
          simp only [Option.some.injEq, Prod.mk.injEq] at H
          obtain ⟨rfl, rfl⟩ := H
          go_wp2
          go_ret2
          exact ⟨by first | rfl | (simp [errW_none, errW_some] <;> rfl) | (simp [*, errW_none, errW_some] <;> rfl), by repeat (first | (with_reducible first | exact HB.out | apply below_alloc | apply pw_below_drewN | apply below_drew1 | refine below_set ?_ GE225.out) | exact HB.out)⟩
     ·rw [if_neg c36] at H
      exact absurd H (by simp)
 ·replace c3 := Bool.eq_false_iff.mpr c3
  subst c3
  rw [if_neg (show ¬ (false = true) by decide)] at H
  simp only [Option.some.injEq, Prod.mk.injEq] at H
  obtain ⟨rfl, rfl⟩ := H
  go_enter Try.func79, Try.ntmps79
  go_wp2_with (first | ((with_reducible refine gate_dst (N := 1) rfl ?_); refine box_event ?hg (N := 1) ?hd (cs := #[.slice A0_0 l0_0.length c0_0, .slice A0_1 l0_1.length c0_1]) (t := 42) ?hr ?_; (case hd => rfl); (case hg => rfl); (case hr => first | (go_simp; done) | (go_simp; rfl)); intro gb225 hg w65 hbox hb; have n0_ := Aside0.mk (below_step B10x7_ hb); have n1_ := Aside0.mk (hbox); have n2_ := Aside0.mk ((by rw [hg]; exact (below_size B10x7_) : w.heap.size ≤ gb225)); have n3_ := Aside0.mk ((by rw [hg]; exact (below_size B10x7_) : w.heap.size ≤ gb225)); clear HB; have HB := n0_; have BK225 := n1_; have GW225 := n2_; have GE225 := n3_; clear n0_ n1_ n2_ n3_; clear hb hbox hg; obtain ⟨hcz66_0, hcz66_1⟩ := cl2 BK225.out; obtain ⟨hfz66_0, hfz66_1⟩ := fr2 BK225.out) | ((with_reducible refine gate_callee (f := 34) rfl ?_); refine goesL_ (some 10) rfl rfl Try.func34 B10x6_ rfl #[.agg #[.slice A0_0 l0_0.length c0_0, .slice A0_1 l0_1.length c0_1]] rfl B10x8_ ?_; (with_reducible refine (impl_KeepOk.calls k _ _ l0_0 _ _ l0_1 false _ ?side1 ?side2 ?side3 ?side4 A2.out).mono ?_); (case side1 => repeat (first | exact (Kd.C_below HR0_0.out HB.out) | (with_reducible refine Kd.C_alloc ?_ _) | (with_reducible refine Kd.C_drewN ?_ _) | (with_reducible refine Kd.C_drew ?_))); (case side2 => exact HC0_0.out); (case side3 => repeat (first | exact (Kd.C_below HR0_1.out HB.out) | (with_reducible refine Kd.C_alloc ?_ _) | (with_reducible refine Kd.C_drewN ?_ _) | (with_reducible refine Kd.C_drew ?_))); (case side4 => exact HC0_1.out); rintro e w67 ⟨rfl, hb⟩; refine ⟨_, rfl, ?_⟩; have n0_ := Aside0.mk (blk_below (g := gb225) (o := .cells #[.slice A0_0 l0_0.length c0_0, .slice A0_1 l0_1.length c0_1] 42 (0, 0)) B10x0_ hb); have n1_ := Aside0.mk (below_step B10x1_ hb); clear BK225; clear HB; have BK225 := n0_; have HB := n1_; clear n0_ n1_; (try clear hb); (try clear hb2); (try clear hk); (try clear hi)))
  go_ret2
  exact ⟨by first | rfl | (simp [errW_none, errW_some] <;> rfl) | (simp [*, errW_none, errW_some] <;> rfl), by repeat (first | (with_reducible first | exact HB.out | apply below_alloc | apply pw_below_drewN | apply below_drew1 | refine below_set ?_ GE225.out) | exact HB.out)⟩

end Go.Proofs.Ytjijbffecppeiaa.QFnExactKeepText
