/- Functions that a law reaches, as functions of Lean, and the walks that show that the calls come to their answers: written by a program of this project out of the translation. No condition. -/
import Derived.Test.YthgjcijcmacpmaaQFnExactReadKeepx0
import Derived.Test.YthgjcijcmacpmaaQFnExactReadKeepx9
import Derived.Test.YthgjcijcmacpmaaQFnExactReadKeepx10
import Derived.Laws.Cover1
import Derived.Test.YthgjcijcmacpmaaVFnExactReadKeephort3
import Derived.Test.YthgjcijcmacpmaaVFnExactReadKeepShort2
import Derived.Test.YthgjcijcmacpmaaVFnExactReadKeepShort
namespace Go.Proofs.Ythgjcijcmacpmaa.QFnExactReadKeep
open Go.RowKit Go.Proofs.YthgjcijcmacpmaaW.PrintWords Go.Proofs.YthgjcijcmacpmaaW.PrintLast Go.Proofs.YthgjcijcmacpmaaW.PrintMore Go.Proofs.Ythgjcijcmacpmaa.Short
attribute [local go_sem] max2_int min2_int max_two min_two max_three min_three max_four min_four   -- for this text's walks alone
set_option linter.unusedVariables false
set_option linter.unusedSimpArgs false

theorem B11x0_ {p : Prop} (h : p := by repeat (first | (with_reducible first | exact HB.out | apply below_alloc | apply pw_below_drewN | apply below_drew1 | refine below_set ?_ GE211.out) | exact HB.out)) : p := h
theorem B11x1_ {p : Prop} (h : p := by (try simp only [List.map_toArray, List.map_cons, List.map_nil]); first | done | rfl | (simp only [List.length_drop, List.length_take]; rfl)) : p := h
theorem B11x2_ {p : Prop} (h : p := by (with_reducible repeat (first | refine blk_drewN ?_ _ | refine blk_drew ?_ | refine blk_alloc ?_ _)); exact BK211.out) : p := h
theorem B11x3_ {p : Prop} (h : p := by first | (with_reducible assumption) | assumption) : p := h
theorem B11x4_ {p : Prop} (h : p := by kernel_rfl) : p := h
theorem B11x5_ {p : Prop} (h : p := by repeat (first | (with_reducible first | exact HB.out | apply below_alloc | apply pw_below_drewN | apply below_drew1) | exact HB.out)) : p := h
/-! ### impl_KeepOk: function 81 -/
mutual
def impl_KeepOk.l0 : Nat → List (S101) → Int → Int → List (S101) → List (S104) → Option (Bool)
 | 0, _, _, _, _, _ => none
 | k + 1, x8, x9, x10, x212000, x212001 => if x10 < x9 then (if 0 ≤ x10 then (if x10 < (x8.length : Int) then ((impl_within.f ((rd_T101 x8 x10).f0) 1 1000000).bind fun t214 => (if t214 = true then ((impl_isIndex.f ((rd_T101 x8 x10).f1)).bind fun t215 => (if t215 = true then (if (((rd_T101 x8 x10).f2).size : Int) > 40 then (impl_KeepOk.j1 k x10 x8 x9 x10 true x212000 x212001 ((rd_T101 x8 x10).f0) ((rd_T101 x8 x10).f1) ((rd_T101 x8 x10).f2)) else (if ((rd_T101 x8 x10).f1) = 0 then (impl_KeepOk.j1 k x10 x8 x9 x10 (((rd_T101 x8 x10).f2).toList != ([] : List UInt8)) x212000 x212001 ((rd_T101 x8 x10).f0) ((rd_T101 x8 x10).f1) ((rd_T101 x8 x10).f2)) else (impl_KeepOk.j1 k x10 x8 x9 x10 false x212000 x212001 ((rd_T101 x8 x10).f0) ((rd_T101 x8 x10).f1) ((rd_T101 x8 x10).f2)))) else (impl_KeepOk.j1 k x10 x8 x9 x10 true x212000 x212001 ((rd_T101 x8 x10).f0) ((rd_T101 x8 x10).f1) ((rd_T101 x8 x10).f2)))) else (impl_KeepOk.j1 k x10 x8 x9 x10 true x212000 x212001 ((rd_T101 x8 x10).f0) ((rd_T101 x8 x10).f1) ((rd_T101 x8 x10).f2)))) else (none)) else (none)) else (impl_KeepOk.l1 k x212001 (x212001.length : Int) 0 x212000 x212001)
def impl_KeepOk.j1 : Nat → Int → List (S101) → Int → Int → Bool → List (S101) → List (S104) → Int → Int → ByteArray → Option (Bool)
 | 0, _, _, _, _, _, _, _, _, _, _ => none
 | k + 1, x3, x8, x9, x10, x40, x212000, x212001, x214000, x214001, x214002 => if x40 = true then (some false) else (if x3 > 0 then (if 0 ≤ (wrap64 (x3 - 1)) then (if (wrap64 (x3 - 1)) < (x212000.length : Int) then (if ((rd_T101 x212000 (wrap64 (x3 - 1))).f0) ≥ x214000 then (some false) else (impl_KeepOk.l0 k x8 x9 (wrap64 (x10 + 1)) x212000 x212001)) else (none)) else (none)) else (impl_KeepOk.l0 k x8 x9 (wrap64 (x10 + 1)) x212000 x212001))
def impl_KeepOk.l1 : Nat → List (S104) → Int → Int → List (S101) → List (S104) → Option (Bool)
 | 0, _, _, _, _, _ => none
 | k + 1, x57, x58, x59, x212000, x212001 => if x59 < x58 then (if 0 ≤ x59 then (if x59 < (x57.length : Int) then ((impl_keyOk.f ((rd_T104 x57 x59).f0)).bind fun t219 => (if t219 = true then ((impl_valOk.f ((rd_T104 x57 x59).f1)).bind fun t220 => (if t220 = true then ((impl_within.f ((rd_T104 x57 x59).f2) 1 1000000000).bind fun t221 => (if t221 = true then (if x59 > 0 then (if 0 ≤ (wrap64 (x59 - 1)) then (if (wrap64 (x59 - 1)) < (x212001.length : Int) then (if ((Op.bytesLess (((rd_T104 x212001 (wrap64 (x59 - 1))).f0).toList) (((rd_T104 x57 x59).f0).toList)) = true) then (impl_KeepOk.l1 k x57 x58 (wrap64 (x59 + 1)) x212000 x212001) else (some false)) else (none)) else (none)) else (impl_KeepOk.l1 k x57 x58 (wrap64 (x59 + 1)) x212000 x212001)) else (some false))) else (some false))) else (some false))) else (none)) else (none)) else (if (x212000.length : Int) ≤ 3 then (some (decide ((x212001.length : Int) ≤ 8))) else (some false))
end
def impl_KeepOk.f (k : Nat) (l0_0 : List (S101)) (l0_1 : List (S104)) : Option (Bool) := impl_KeepOk.l0 k l0_0 (l0_0.length : Int) 0 l0_0 l0_1
theorem impl_KeepOk.mono_l : ∀ k, (∀ y0 y1 y2 y3 y4, LeO (impl_KeepOk.l0 k y0 y1 y2 y3 y4) (impl_KeepOk.l0 (k + 1) y0 y1 y2 y3 y4)) ∧ (∀ y0 y1 y2 y3 y4 y5 y6 y7 y8 y9, LeO (impl_KeepOk.j1 k y0 y1 y2 y3 y4 y5 y6 y7 y8 y9) (impl_KeepOk.j1 (k + 1) y0 y1 y2 y3 y4 y5 y6 y7 y8 y9)) ∧ (∀ y0 y1 y2 y3 y4, LeO (impl_KeepOk.l1 k y0 y1 y2 y3 y4) (impl_KeepOk.l1 (k + 1) y0 y1 y2 y3 y4))
 | 0 => ⟨fun _ _ _ _ _ r h => by simp [impl_KeepOk.l0] at h, fun _ _ _ _ _ _ _ _ _ _ r h => by simp [impl_KeepOk.j1] at h, fun _ _ _ _ _ r h => by simp [impl_KeepOk.l1] at h⟩
 | k + 1 => by
  obtain ⟨ih0, ih1, ih2⟩ := impl_KeepOk.mono_l k
  refine ⟨?_, ?_, ?_⟩
  ·intro y0 y1 y2 y3 y4
   unfold impl_KeepOk.l0
   repeat' first
   | (with_reducible exact ih0 _ _ _ _ _)
   | (with_reducible exact ih1 _ _ _ _ _ _ _ _ _ _)
   | (with_reducible exact ih2 _ _ _ _ _)
   | (with_reducible exact LeO.refl _)
   | (with_reducible exact LeO.none _)
   | (with_reducible refine LeO.ite ?_ ?_)
   | (with_reducible refine LeO.bind ?_ (fun _ => ?_))
   | exact ih0 _ _ _ _ _
   | exact ih1 _ _ _ _ _ _ _ _ _ _
   | exact ih2 _ _ _ _ _
   | exact LeO.none _
   | refine LeO.ite ?_ ?_
   | refine LeO.bind ?_ (fun _ => ?_)
  ·intro y0 y1 y2 y3 y4 y5 y6 y7 y8 y9
   unfold impl_KeepOk.j1
   repeat' first
   | (with_reducible exact ih0 _ _ _ _ _)
   | (with_reducible exact ih1 _ _ _ _ _ _ _ _ _ _)
   | (with_reducible exact ih2 _ _ _ _ _)
   | (with_reducible exact LeO.refl _)
   | (with_reducible exact LeO.none _)
   | (with_reducible refine LeO.ite ?_ ?_)
   | (with_reducible refine LeO.bind ?_ (fun _ => ?_))
   | exact ih0 _ _ _ _ _
   | exact ih1 _ _ _ _ _ _ _ _ _ _
   | exact ih2 _ _ _ _ _
   | exact LeO.none _
   | refine LeO.ite ?_ ?_
   | refine LeO.bind ?_ (fun _ => ?_)
  ·intro y0 y1 y2 y3 y4
   unfold impl_KeepOk.l1
   repeat' first
   | (with_reducible exact ih0 _ _ _ _ _)
   | (with_reducible exact ih1 _ _ _ _ _ _ _ _ _ _)
   | (with_reducible exact ih2 _ _ _ _ _)
   | (with_reducible exact LeO.refl _)
   | (with_reducible exact LeO.none _)
   | (with_reducible refine LeO.ite ?_ ?_)
   | (with_reducible refine LeO.bind ?_ (fun _ => ?_))
   | exact ih0 _ _ _ _ _
   | exact ih1 _ _ _ _ _ _ _ _ _ _
   | exact ih2 _ _ _ _ _
   | exact LeO.none _
   | refine LeO.ite ?_ ?_
   | refine LeO.bind ?_ (fun _ => ?_)
theorem impl_KeepOk.mono : ∀ a0 a1 k, LeO (impl_KeepOk.f k a0 a1) (impl_KeepOk.f (k + 1) a0 a1) := by
 intro a0 a1 k
 obtain ⟨ih0, ih1, ih2⟩ := impl_KeepOk.mono_l k
 unfold impl_KeepOk.f
 repeat' first
   | (with_reducible exact ih0 _ _ _ _ _)
   | (with_reducible exact ih1 _ _ _ _ _ _ _ _ _ _)
   | (with_reducible exact ih2 _ _ _ _ _)
   | (with_reducible exact LeO.refl _)
   | (with_reducible exact LeO.none _)
   | (with_reducible refine LeO.ite ?_ ?_)
   | (with_reducible refine LeO.bind ?_ (fun _ => ?_))
   | exact ih0 _ _ _ _ _
   | exact ih1 _ _ _ _ _ _ _ _ _ _
   | exact ih2 _ _ _ _ _
   | exact LeO.none _
   | refine LeO.ite ?_ ?_
   | refine LeO.bind ?_ (fun _ => ?_)
def impl_KeepOk.T6 : Bool × List (List Nat × List Nat) := (true, [([], []), ([0], [0]), ([1], [1]), ([2], [2]), ([3, 2], [2, 3]), ([2], [2]), ([5, 2], [2, 5]), ([4, 6, 2], [2, 4, 6]), ([7, 2], [2, 7]), ([8, 2], [2, 8]), ([2], [2]), ([10, 2], [2, 10]), ([9, 11, 2], [2, 9, 11]), ([2, 12], [2, 12])])
def impl_KeepOk.B6 : List Nat := [0, 1, 3, 7, 15, 7, 39, 127, 255, 511, 7, 1031, 4095, 8191]
theorem impl_KeepOk.tab6 : rtab .any (opsOf Try.f81 6) = impl_KeepOk.T6 := by kernel_rfl
theorem impl_KeepOk.bits6 : waitsOk impl_KeepOk.T6.2 impl_KeepOk.B6 = true := by kernel_rfl
def impl_KeepOk.T12 : Bool × List (List Nat × List Nat) := (true, [([], []), ([0], [0]), ([1], [1]), ([2], [2]), ([3, 2], [3]), ([4], [4]), ([5, 4], [4, 5]), ([6, 4, 4], [4, 6]), ([7, 4], [4, 7]), ([4, 8], [4, 8]), ([9, 7], [9]), ([10], [10]), ([11, 10], [10, 11]), ([12, 10, 10], [10, 12]), ([13, 10], [10, 13]), ([10, 14], [10, 14]), ([15, 13], [15]), ([16], [16]), ([17, 16], [16, 17]), ([18, 16, 16], [16, 18]), ([19], [19]), ([20, 19], [19, 20]), ([19], [19]), ([22, 19], [19, 22]), ([21, 23, 19], [19, 21, 23]), ([24, 19], [19, 24]), ([25, 19], [19, 25]), ([19], [19]), ([27, 19], [19, 27]), ([26, 28, 19], [19, 26, 28]), ([19, 29, 16], [16, 19, 29]), ([16, 30], [16, 30])])
def impl_KeepOk.B12 : List Nat := [0, 1, 3, 7, 15, 31, 63, 127, 255, 511, 1023, 2047, 4095, 8191, 16383, 32767, 65535, 131071, 262143, 524287, 1048575, 2097151, 1048575, 5242879, 16777215, 33554431, 67108863, 1048575, 135266303, 536870911, 1073741823, 2147483647]
theorem impl_KeepOk.tab12 : rtab .any (opsOf Try.f81 12) = impl_KeepOk.T12 := by kernel_rfl
theorem impl_KeepOk.bits12 : waitsOk impl_KeepOk.T12.2 impl_KeepOk.B12 = true := by kernel_rfl
set_option maxHeartbeats 8000000 in
set_option maxRecDepth 100000 in
theorem impl_KeepOk.calls (k : Nat) (A0_0 : Option Addr) (c0_0 : Nat) (l0_0 : List (S101)) (A0_1 : Option Addr) (c0_1 : Nat) (l0_1 : List (S104)) (r : Bool) (w : World) (hr0_0 : Kd.C k101 w A0_0 l0_0.length l0_0) (hc0_0 : l0_0.length ≤ c0_0) (hr0_1 : Kd.C k104 w A0_1 l0_1.length l0_1) (hc0_1 : l0_1.length ≤ c0_1) (h : impl_KeepOk.f k l0_0 l0_1 = some r) :
  Calls Try.prog 81 #[.agg #[.slice A0_0 l0_0.length c0_0, .slice A0_1 l0_1.length c0_1]] w fun e w' => e = .returned (.bool r) ∧ Below w.heap.size w w' := by
 have hu37 := Try.underlying37
 have hu101 := Try.underlying101
 have hu104 := Try.underlying104
 have HR0_0 := Aside0.mk hr0_0
 have HC0_0 := Aside0.mk hc0_0
 clear hr0_0 hc0_0
 have HR0_1 := Aside0.mk hr0_1
 have HC0_1 := Aside0.mk hc0_1
 clear hr0_1 hc0_1
 have HB := Aside0.mk (Below.refl w.heap.size w)
 have H : (impl_KeepOk.l0 k l0_0 (l0_0.length : Int) 0 l0_0 l0_1) = some r := h
 clear h
 have H' := Aside0.mk H
 clear H
 go_enter Try.func81, Try.ntmps81
 go_wp2_with (first | ((with_reducible refine gate_dst (N := 1) rfl ?_); (try (refine gate_guard (by rfl) ?_; dsimp only)); refine box_event ?hg (N := 1) ?hd (cs := #[.slice A0_0 l0_0.length c0_0, .slice A0_1 l0_1.length c0_1]) (t := 37) ?hr ?_; (case hd => rfl); (case hg => rfl); (case hr => first | (go_simp; done) | (go_simp; rfl)); intro gb211 hg w2 hbox hb; have n0_ := Aside0.mk (below_step B11x5_ hb); have n1_ := Aside0.mk (hbox); have n2_ := Aside0.mk ((by rw [hg]; exact (below_size B11x5_) : w.heap.size ≤ gb211)); have n3_ := Aside0.mk ((by rw [hg]; exact (below_size B11x5_) : w.heap.size ≤ gb211)); clear HB; have HB := n0_; have BK211 := n1_; have GW211 := n2_; have GE211 := n3_; clear n0_ n1_ n2_ n3_; clear hb hbox hg; obtain ⟨hcz3_0, hcz3_1⟩ := cl2 BK211.out; obtain ⟨hfz3_0, hfz3_1⟩ := fr2 BK211.out))
 go_loopg [10] k (fun kq v10 w' => ∃ (x10_1 : Int), v10 = .int .i64 x10_1 ∧ Aside0 (impl_KeepOk.l0 kq l0_0 (l0_0.length : Int) x10_1 l0_0 l0_1 = some r) ∧ Aside0 (kq ≤ k) ∧ Aside0 (w'.heap[gb211]? = some (.cells #[(.slice A0_0 l0_0.length c0_0), (.slice A0_1 l0_1.length c0_1)] 37 (0, 0))) ∧ Aside0 (Below w.heap.size w w'))
 case atStart => exact ⟨(0), (be_), H', ⟨Nat.le_refl _⟩, ⟨by (with_reducible repeat (first | refine blk_drewN ?_ _ | refine blk_drew ?_ | refine blk_alloc ?_ _)); exact BK211.out⟩, ⟨by repeat (first | (with_reducible first | exact HB.out | apply below_alloc | apply pw_below_drewN | apply below_drew1 | refine below_set ?_ GE211.out) | exact HB.out)⟩⟩
 case round =>
  clear H'
  try clear p2
  try clear hcz3_0
  try clear hcz3_1
  try clear hfz3_0
  try clear hfz3_1
  obtain ⟨x10_1, rfl, HA, HK1, BK211, HB⟩ := hrel
  cases gk with
  | zero => exact absurd HA.out (by simp [impl_KeepOk.l0])
  | succ k1 =>
   have H := HA.out
   clear HA
   simp only [impl_KeepOk.l0] at H
   by_cases c4 : x10_1 < (l0_0.length : Int)
   ·rw [if_pos c4] at H
    have c4b0 : decide (x10_1 < (l0_0.length : Int)) = true := decide_eq_true c4
    clear c4
    by_cases c5 : 0 ≤ x10_1
    ·rw [if_pos c5] at H
     have c5b0 : decide (0 ≤ x10_1) = true := decide_eq_true c5
     clear c5
     by_cases c6 : x10_1 < (l0_0.length : Int)
     ·rw [if_pos c6] at H
      have c6b0 : decide (x10_1 < (l0_0.length : Int)) = true := decide_eq_true c6
      clear c6
      have HC7 := Aside0.mk H
      clear H
      have p212 : 0 ≤ (x10_1 : Int) := of_decide_eq_true B11x3_
      have q212 : x10_1 < (l0_0.length : Int) := of_decide_eq_true B11x3_
      obtain ⟨ad212, e212, hx212_0, hx212_1, hx212_2⟩ := at_T101 HR0_0.out x10_1 p212 q212
      cases e212
      replace hx212_0 := (HB.out.cell (World.block_lt_of_cell? w _ hx212_0)).trans hx212_0
      replace hx212_1 := (HB.out.cell (World.block_lt_of_cell? w _ hx212_1)).trans hx212_1
      replace hx212_2 := (HB.out.cell (World.block_lt_of_cell? w _ hx212_2)).trans hx212_2
      replace p212 := eq_true p212
      replace q212 := eq_true q212
      go_upto_region 4 with (first | ((with_reducible refine gate_dst (N := 4) rfl ?_); (try (refine gate_guard (by rfl) ?_; dsimp only)); refine box_event ?hg (N := 4) ?hd (cs := #[.int .i64 0, .int .i64 0, .string (⟨#[]⟩ : ByteArray)]) (t := 101) ?hr ?_; (case hd => rfl); (case hg => rfl); (case hr => first | (go_simp; done) | (go_simp; rfl)); intro gb213 hg w8 hbox hb; have n0_ := Aside0.mk (blk_below (g := gb211) (o := .cells #[.slice (some ad212) l0_0.length c0_0, .slice A0_1 l0_1.length c0_1] 37 (0, 0)) B11x2_ hb); have n1_ := Aside0.mk (below_step B11x0_ hb); have n2_ := Aside0.mk (hbox); have n3_ := Aside0.mk ((by rw [hg]; exact (below_size B11x0_) : w.heap.size ≤ gb213)); have n4_ := Aside0.mk ((by rw [hg]; exact (below_size B11x0_) : w.heap.size ≤ gb213)); have n5_ := Aside0.mk ((by rw [hg]; exact Nat.ne_of_lt (blk_lt (g := gb211) (o := .cells #[.slice (some ad212) l0_0.length c0_0, .slice A0_1 l0_1.length c0_1] 37 (0, 0)) B11x2_) : gb211 ≠ gb213)); have n6_ := Aside0.mk ((by rw [hg]; exact Nat.ne_of_gt (blk_lt (g := gb211) (o := .cells #[.slice (some ad212) l0_0.length c0_0, .slice A0_1 l0_1.length c0_1] 37 (0, 0)) B11x2_) : gb213 ≠ gb211)); clear BK211; clear HB; have BK211 := n0_; have HB := n1_; have BK213 := n2_; have GW213 := n3_; have GE213 := n4_; have NB211_213 := n5_; have NB213_211 := n6_; clear n0_ n1_ n2_ n3_ n4_ n5_ n6_; clear hb hbox hg; have hnb9 := NB213_211.out; have hnc9 := NB211_213.out; obtain ⟨hcz10_0, hcz10_1, hcz10_2⟩ := cl3 BK213.out; obtain ⟨hfz10_0, hfz10_1, hfz10_2⟩ := fr3 BK213.out))
      (try simp only [Act.put, List.setIfInBounds_toArray, List.set_cons_zero, List.set_cons_succ])
      go_cut [40] (fun v40 wc => ∃ (kq : Nat) (x40_6 : Bool), v40 = .bool x40_6 ∧ Aside0 (impl_KeepOk.j1 kq x10_1 l0_0 (l0_0.length : Int) x10_1 x40_6 l0_0 l0_1 ((rd_T101 l0_0 x10_1).f0) ((rd_T101 l0_0 x10_1).f1) ((rd_T101 l0_0 x10_1).f2) = some r) ∧ Aside0 (kq ≤ k1) ∧ Aside0 (wc.heap[gb211]? = some (.cells #[(.slice (some ad212) l0_0.length c0_0), (.slice A0_1 l0_1.length c0_1)] 37 (0, 0))) ∧ Aside0 (wc.heap[gb213]? = some (.cells #[.int .i64 ((rd_T101 l0_0 x10_1).f0), .int .i64 ((rd_T101 l0_0 x10_1).f1), .string ((rd_T101 l0_0 x10_1).f2)] 101 (0, 0))) ∧ Aside0 (Below w.heap.size w wc))
      case first =>
       have H := HC7.out
       clear HC7
       replace H := Option.bind_eq_some_iff.mp H
       obtain ⟨t214, A110, H⟩ := H
       (try dsimp only at H)
       have A11 := Aside0.mk A110
       clear A110
       by_cases c12 : t214 = true
       ·subst c12
        rw [if_pos rfl] at H
        replace H := Option.bind_eq_some_iff.mp H
        obtain ⟨t215, A130, H⟩ := H
        (try dsimp only at H)
        have A13 := Aside0.mk A130
        clear A130
        by_cases c14 : t215 = true
        ·subst c14
         rw [if_pos rfl] at H
         by_cases c15 : (((rd_T101 l0_0 x10_1).f2).size : Int) > 40
         ·rw [if_pos c15] at H
          have c15b0 : decide (40 < (((rd_T101 l0_0 x10_1).f2).size : Int)) = true := decide_eq_true c15
          have c15b1 : decide (40 < ((rd_T101 l0_0 x10_1).f2).size) = true := decide_eq_true (by omega)
          clear c15
          (first | rw [c15b0] | (simp only [i64_w, i32_w]; rw [c15b0]) | skip)
          have H' := Aside0.mk H
          clear H
          have hnb16 := NB213_211.out
          have hnc16 := NB211_213.out
          obtain ⟨hcz17_0, hcz17_1, hcz17_2⟩ := cl3 BK213.out
          obtain ⟨hfz17_0, hfz17_1, hfz17_2⟩ := fr3 BK213.out
          go_wp2_with (first | ((with_reducible refine gate_callee (f := 68) rfl ?_); refine goesL_ (some 17) rfl rfl Try.func68 B11x4_ rfl #[.int .i64 ((rd_T101 l0_0 x10_1).f0), .int .i64 1, .int .i64 1000000] rfl B11x1_ ?_; (with_reducible refine (impl_within.calls ((rd_T101 l0_0 x10_1).f0) 1 1000000 true _ A11.out).mono ?_); rintro e w' ⟨rfl, ⟨nd, rfl⟩⟩; refine ⟨_, rfl, ?_⟩) | (go_at_call 72; (with_reducible refine (impl_isIndex.calls ((rd_T101 l0_0 x10_1).f1) true _ A13.out).mono ?_); rintro e w' ⟨rfl, ⟨nd, rfl⟩⟩))
          go_meet
          case rel => exact ⟨_, (true), (be_), H', ⟨by have := HK1.out; first | omega | exact Nat.le_refl _⟩, ⟨by (with_reducible repeat (first | refine blk_drewN ?_ _ | refine blk_drew ?_ | refine blk_alloc ?_ _)); refine blk_far ?_ NB211_213.out _; (with_reducible repeat (first | refine blk_drewN ?_ _ | refine blk_drew ?_ | refine blk_alloc ?_ _)); refine blk_far ?_ NB211_213.out _; (with_reducible repeat (first | refine blk_drewN ?_ _ | refine blk_drew ?_ | refine blk_alloc ?_ _)); refine blk_far ?_ NB211_213.out _; (with_reducible repeat (first | refine blk_drewN ?_ _ | refine blk_drew ?_ | refine blk_alloc ?_ _)); exact BK211.out⟩, ⟨by (with_reducible repeat (first | refine blk_drewN ?_ _ | refine blk_drew ?_ | refine blk_alloc ?_ _)); refine blk_put (cs := #[.int .i64 ((rd_T101 l0_0 x10_1).f0), .int .i64 ((rd_T101 l0_0 x10_1).f1), .string (⟨#[]⟩ : ByteArray)]) ?_ 2 _ rfl; (with_reducible repeat (first | refine blk_drewN ?_ _ | refine blk_drew ?_ | refine blk_alloc ?_ _)); refine blk_put (cs := #[.int .i64 ((rd_T101 l0_0 x10_1).f0), .int .i64 0, .string (⟨#[]⟩ : ByteArray)]) ?_ 1 _ rfl; (with_reducible repeat (first | refine blk_drewN ?_ _ | refine blk_drew ?_ | refine blk_alloc ?_ _)); refine blk_put (cs := #[.int .i64 0, .int .i64 0, .string (⟨#[]⟩ : ByteArray)]) ?_ 0 _ rfl; (with_reducible repeat (first | refine blk_drewN ?_ _ | refine blk_drew ?_ | refine blk_alloc ?_ _)); exact BK213.out⟩, ⟨by repeat (first | (with_reducible first | exact HB.out | apply below_alloc | apply pw_below_drewN | apply below_drew1 | refine below_set ?_ GE211.out | refine below_set ?_ GE213.out) | exact HB.out)⟩⟩
         ·rw [if_neg c15] at H
          have c15b0 : decide (40 < (((rd_T101 l0_0 x10_1).f2).size : Int)) = false := decide_eq_false c15
          have c15b1 : decide (40 < ((rd_T101 l0_0 x10_1).f2).size) = false := decide_eq_false (by omega)
          clear c15
          (first | rw [c15b0] | (simp only [i64_w, i32_w]; rw [c15b0]) | skip)
          by_cases c18 : ((rd_T101 l0_0 x10_1).f1) = 0
          ·rw [if_pos c18] at H
           have c18b0 : (((rd_T101 l0_0 x10_1).f1) == 0) = true := beq_iff_eq.mpr c18
           have c18b1 : (((rd_T101 l0_0 x10_1).f1) != 0) = false := bne_eq_false_iff_eq.mpr c18
           clear c18
           have H' := Aside0.mk H
           clear H
           have hnb19 := NB213_211.out
           have hnc19 := NB211_213.out
           obtain ⟨hcz20_0, hcz20_1, hcz20_2⟩ := cl3 BK213.out
           obtain ⟨hfz20_0, hfz20_1, hfz20_2⟩ := fr3 BK213.out
           go_wp2_with (first | ((with_reducible refine gate_callee (f := 68) rfl ?_); refine goesL_ (some 17) rfl rfl Try.func68 B11x4_ rfl #[.int .i64 ((rd_T101 l0_0 x10_1).f0), .int .i64 1, .int .i64 1000000] rfl B11x1_ ?_; (with_reducible refine (impl_within.calls ((rd_T101 l0_0 x10_1).f0) 1 1000000 true _ A11.out).mono ?_); rintro e w' ⟨rfl, ⟨nd, rfl⟩⟩; refine ⟨_, rfl, ?_⟩) | (go_at_call 72; (with_reducible refine (impl_isIndex.calls ((rd_T101 l0_0 x10_1).f1) true _ A13.out).mono ?_); rintro e w' ⟨rfl, ⟨nd, rfl⟩⟩))
           go_meet
           case rel => exact ⟨_, ((((rd_T101 l0_0 x10_1).f2).toList != ([] : List UInt8))), (be_), H', ⟨by have := HK1.out; first | omega | exact Nat.le_refl _⟩, ⟨by (with_reducible repeat (first | refine blk_drewN ?_ _ | refine blk_drew ?_ | refine blk_alloc ?_ _)); refine blk_far ?_ NB211_213.out _; (with_reducible repeat (first | refine blk_drewN ?_ _ | refine blk_drew ?_ | refine blk_alloc ?_ _)); refine blk_far ?_ NB211_213.out _; (with_reducible repeat (first | refine blk_drewN ?_ _ | refine blk_drew ?_ | refine blk_alloc ?_ _)); refine blk_far ?_ NB211_213.out _; (with_reducible repeat (first | refine blk_drewN ?_ _ | refine blk_drew ?_ | refine blk_alloc ?_ _)); exact BK211.out⟩, ⟨by (with_reducible repeat (first | refine blk_drewN ?_ _ | refine blk_drew ?_ | refine blk_alloc ?_ _)); refine blk_put (cs := #[.int .i64 ((rd_T101 l0_0 x10_1).f0), .int .i64 ((rd_T101 l0_0 x10_1).f1), .string (⟨#[]⟩ : ByteArray)]) ?_ 2 _ rfl; (with_reducible repeat (first | refine blk_drewN ?_ _ | refine blk_drew ?_ | refine blk_alloc ?_ _)); refine blk_put (cs := #[.int .i64 ((rd_T101 l0_0 x10_1).f0), .int .i64 0, .string (⟨#[]⟩ : ByteArray)]) ?_ 1 _ rfl; (with_reducible repeat (first | refine blk_drewN ?_ _ | refine blk_drew ?_ | refine blk_alloc ?_ _)); refine blk_put (cs := #[.int .i64 0, .int .i64 0, .string (⟨#[]⟩ : ByteArray)]) ?_ 0 _ rfl; (with_reducible repeat (first | refine blk_drewN ?_ _ | refine blk_drew ?_ | refine blk_alloc ?_ _)); exact BK213.out⟩, ⟨by repeat (first | (with_reducible first | exact HB.out | apply below_alloc | apply pw_below_drewN | apply below_drew1 | refine below_set ?_ GE211.out | refine below_set ?_ GE213.out) | exact HB.out)⟩⟩
          ·rw [if_neg c18] at H
           have c18b0 : (((rd_T101 l0_0 x10_1).f1) == 0) = false := beq_eq_false_iff_ne.mpr c18
           have c18b1 : (((rd_T101 l0_0 x10_1).f1) != 0) = true := bne_iff_ne.mpr c18
           have H' := Aside0.mk H
           clear H
           have hnb21 := NB213_211.out
           have hnc21 := NB211_213.out
           obtain ⟨hcz22_0, hcz22_1, hcz22_2⟩ := cl3 BK213.out
           obtain ⟨hfz22_0, hfz22_1, hfz22_2⟩ := fr3 BK213.out
           go_wp2_with (first | ((with_reducible refine gate_callee (f := 68) rfl ?_); refine goesL_ (some 17) rfl rfl Try.func68 B11x4_ rfl #[.int .i64 ((rd_T101 l0_0 x10_1).f0), .int .i64 1, .int .i64 1000000] rfl B11x1_ ?_; (with_reducible refine (impl_within.calls ((rd_T101 l0_0 x10_1).f0) 1 1000000 true _ A11.out).mono ?_); rintro e w' ⟨rfl, ⟨nd, rfl⟩⟩; refine ⟨_, rfl, ?_⟩) | (go_at_call 72; (with_reducible refine (impl_isIndex.calls ((rd_T101 l0_0 x10_1).f1) true _ A13.out).mono ?_); rintro e w' ⟨rfl, ⟨nd, rfl⟩⟩))
           go_meet
           case rel => exact ⟨_, (false), (be_), H', ⟨by have := HK1.out; first | omega | exact Nat.le_refl _⟩, ⟨by (with_reducible repeat (first | refine blk_drewN ?_ _ | refine blk_drew ?_ | refine blk_alloc ?_ _)); refine blk_far ?_ NB211_213.out _; (with_reducible repeat (first | refine blk_drewN ?_ _ | refine blk_drew ?_ | refine blk_alloc ?_ _)); refine blk_far ?_ NB211_213.out _; (with_reducible repeat (first | refine blk_drewN ?_ _ | refine blk_drew ?_ | refine blk_alloc ?_ _)); refine blk_far ?_ NB211_213.out _; (with_reducible repeat (first | refine blk_drewN ?_ _ | refine blk_drew ?_ | refine blk_alloc ?_ _)); exact BK211.out⟩, ⟨by (with_reducible repeat (first | refine blk_drewN ?_ _ | refine blk_drew ?_ | refine blk_alloc ?_ _)); refine blk_put (cs := #[.int .i64 ((rd_T101 l0_0 x10_1).f0), .int .i64 ((rd_T101 l0_0 x10_1).f1), .string (⟨#[]⟩ : ByteArray)]) ?_ 2 _ rfl; (with_reducible repeat (first | refine blk_drewN ?_ _ | refine blk_drew ?_ | refine blk_alloc ?_ _)); refine blk_put (cs := #[.int .i64 ((rd_T101 l0_0 x10_1).f0), .int .i64 0, .string (⟨#[]⟩ : ByteArray)]) ?_ 1 _ rfl; (with_reducible repeat (first | refine blk_drewN ?_ _ | refine blk_drew ?_ | refine blk_alloc ?_ _)); refine blk_put (cs := #[.int .i64 0, .int .i64 0, .string (⟨#[]⟩ : ByteArray)]) ?_ 0 _ rfl; (with_reducible repeat (first | refine blk_drewN ?_ _ | refine blk_drew ?_ | refine blk_alloc ?_ _)); exact BK213.out⟩, ⟨by repeat (first | (with_reducible first | exact HB.out | apply below_alloc | apply pw_below_drewN | apply below_drew1 | refine below_set ?_ GE211.out | refine below_set ?_ GE213.out) | exact HB.out)⟩⟩
        ·replace c14 := Bool.eq_false_iff.mpr c14
         subst c14
         rw [if_neg (show ¬ (false = true) by decide)] at H
         have H' := Aside0.mk H
         clear H
         have hnb23 := NB213_211.out
         have hnc23 := NB211_213.out
         obtain ⟨hcz24_0, hcz24_1, hcz24_2⟩ := cl3 BK213.out
         obtain ⟨hfz24_0, hfz24_1, hfz24_2⟩ := fr3 BK213.out
         go_wp2_with (first | ((with_reducible refine gate_callee (f := 68) rfl ?_); refine goesL_ (some 17) rfl rfl Try.func68 B11x4_ rfl #[.int .i64 ((rd_T101 l0_0 x10_1).f0), .int .i64 1, .int .i64 1000000] rfl B11x1_ ?_; (with_reducible refine (impl_within.calls ((rd_T101 l0_0 x10_1).f0) 1 1000000 true _ A11.out).mono ?_); rintro e w' ⟨rfl, ⟨nd, rfl⟩⟩; refine ⟨_, rfl, ?_⟩) | (go_at_call 72; (with_reducible refine (impl_isIndex.calls ((rd_T101 l0_0 x10_1).f1) false _ A13.out).mono ?_); rintro e w' ⟨rfl, ⟨nd, rfl⟩⟩))
         go_meet
         case rel => exact ⟨_, (true), (be_), H', ⟨by have := HK1.out; first | omega | exact Nat.le_refl _⟩, ⟨by (with_reducible repeat (first | refine blk_drewN ?_ _ | refine blk_drew ?_ | refine blk_alloc ?_ _)); refine blk_far ?_ NB211_213.out _; (with_reducible repeat (first | refine blk_drewN ?_ _ | refine blk_drew ?_ | refine blk_alloc ?_ _)); refine blk_far ?_ NB211_213.out _; (with_reducible repeat (first | refine blk_drewN ?_ _ | refine blk_drew ?_ | refine blk_alloc ?_ _)); refine blk_far ?_ NB211_213.out _; (with_reducible repeat (first | refine blk_drewN ?_ _ | refine blk_drew ?_ | refine blk_alloc ?_ _)); exact BK211.out⟩, ⟨by (with_reducible repeat (first | refine blk_drewN ?_ _ | refine blk_drew ?_ | refine blk_alloc ?_ _)); refine blk_put (cs := #[.int .i64 ((rd_T101 l0_0 x10_1).f0), .int .i64 ((rd_T101 l0_0 x10_1).f1), .string (⟨#[]⟩ : ByteArray)]) ?_ 2 _ rfl; (with_reducible repeat (first | refine blk_drewN ?_ _ | refine blk_drew ?_ | refine blk_alloc ?_ _)); refine blk_put (cs := #[.int .i64 ((rd_T101 l0_0 x10_1).f0), .int .i64 0, .string (⟨#[]⟩ : ByteArray)]) ?_ 1 _ rfl; (with_reducible repeat (first | refine blk_drewN ?_ _ | refine blk_drew ?_ | refine blk_alloc ?_ _)); refine blk_put (cs := #[.int .i64 0, .int .i64 0, .string (⟨#[]⟩ : ByteArray)]) ?_ 0 _ rfl; (with_reducible repeat (first | refine blk_drewN ?_ _ | refine blk_drew ?_ | refine blk_alloc ?_ _)); exact BK213.out⟩, ⟨by repeat (first | (with_reducible first | exact HB.out | apply below_alloc | apply pw_below_drewN | apply below_drew1 | refine below_set ?_ GE211.out | refine below_set ?_ GE213.out) | exact HB.out)⟩⟩
       ·replace c12 := Bool.eq_false_iff.mpr c12
        subst c12
        rw [if_neg (show ¬ (false = true) by decide)] at H
        have H' := Aside0.mk H
        clear H
        have hnb25 := NB213_211.out
        have hnc25 := NB211_213.out
        obtain ⟨hcz26_0, hcz26_1, hcz26_2⟩ := cl3 BK213.out
        obtain ⟨hfz26_0, hfz26_1, hfz26_2⟩ := fr3 BK213.out
        go_wp2_with (first | ((with_reducible refine gate_callee (f := 68) rfl ?_); refine goesL_ (some 17) rfl rfl Try.func68 B11x4_ rfl #[.int .i64 ((rd_T101 l0_0 x10_1).f0), .int .i64 1, .int .i64 1000000] rfl B11x1_ ?_; (with_reducible refine (impl_within.calls ((rd_T101 l0_0 x10_1).f0) 1 1000000 false _ A11.out).mono ?_); rintro e w' ⟨rfl, ⟨nd, rfl⟩⟩; refine ⟨_, rfl, ?_⟩))
        go_meet
        case rel => exact ⟨_, (true), (be_), H', ⟨by have := HK1.out; first | omega | exact Nat.le_refl _⟩, ⟨by (with_reducible repeat (first | refine blk_drewN ?_ _ | refine blk_drew ?_ | refine blk_alloc ?_ _)); refine blk_far ?_ NB211_213.out _; (with_reducible repeat (first | refine blk_drewN ?_ _ | refine blk_drew ?_ | refine blk_alloc ?_ _)); refine blk_far ?_ NB211_213.out _; (with_reducible repeat (first | refine blk_drewN ?_ _ | refine blk_drew ?_ | refine blk_alloc ?_ _)); refine blk_far ?_ NB211_213.out _; (with_reducible repeat (first | refine blk_drewN ?_ _ | refine blk_drew ?_ | refine blk_alloc ?_ _)); exact BK211.out⟩, ⟨by (with_reducible repeat (first | refine blk_drewN ?_ _ | refine blk_drew ?_ | refine blk_alloc ?_ _)); refine blk_put (cs := #[.int .i64 ((rd_T101 l0_0 x10_1).f0), .int .i64 ((rd_T101 l0_0 x10_1).f1), .string (⟨#[]⟩ : ByteArray)]) ?_ 2 _ rfl; (with_reducible repeat (first | refine blk_drewN ?_ _ | refine blk_drew ?_ | refine blk_alloc ?_ _)); refine blk_put (cs := #[.int .i64 ((rd_T101 l0_0 x10_1).f0), .int .i64 0, .string (⟨#[]⟩ : ByteArray)]) ?_ 1 _ rfl; (with_reducible repeat (first | refine blk_drewN ?_ _ | refine blk_drew ?_ | refine blk_alloc ?_ _)); refine blk_put (cs := #[.int .i64 0, .int .i64 0, .string (⟨#[]⟩ : ByteArray)]) ?_ 0 _ rfl; (with_reducible repeat (first | refine blk_drewN ?_ _ | refine blk_drew ?_ | refine blk_alloc ?_ _)); exact BK213.out⟩, ⟨by repeat (first | (with_reducible first | exact HB.out | apply below_alloc | apply pw_below_drewN | apply below_drew1 | refine below_set ?_ GE211.out | refine below_set ?_ GE213.out) | exact HB.out)⟩⟩
      case rest =>
       clear HC7
       try clear c1
       try clear c2
       try clear p2
       try clear q2
       try clear hx2
       try clear c4
       try clear c4b0
       try clear c5
       try clear c5b0
       try clear c6
       try clear c6b0
       try clear c8
       try clear c9
       try clear c12
       try clear c14
       try clear c15
       try clear c15b0
       try clear c15b1
       try clear c16
       try clear c18
       try clear c18b0
       try clear c18b1
       try clear c19
       try clear c21
       try clear p21
       try clear q21
       try clear hx21
       try clear c23
       try clear c25
       try clear hcz10_0
       try clear hcz10_1
       try clear hcz10_2
       try clear hcz17_0
       try clear hcz17_1
       try clear hcz17_2
       try clear hcz20_0
       try clear hcz20_1
       try clear hcz20_2
       try clear hcz22_0
       try clear hcz22_1
       try clear hcz22_2
       try clear hcz24_0
       try clear hcz24_1
       try clear hcz24_2
       try clear hcz26_0
       try clear hcz26_1
       try clear hcz26_2
       try clear hcz3_0
       try clear hcz3_1
       try clear hfz10_0
       try clear hfz10_1
       try clear hfz10_2
       try clear hfz17_0
       try clear hfz17_1
       try clear hfz17_2
       try clear hfz20_0
       try clear hfz20_1
       try clear hfz20_2
       try clear hfz22_0
       try clear hfz22_1
       try clear hfz22_2
       try clear hfz24_0
       try clear hfz24_1
       try clear hfz24_2
       try clear hfz26_0
       try clear hfz26_1
       try clear hfz26_2
       try clear hfz3_0
       try clear hfz3_1
       try clear hx212_0
       try clear hx212_1
       try clear hx212_2
       try clear p2
       try clear p212
       try clear q212
       obtain ⟨kq, x40_6, rfl, HA, HJ6, BK211, BK213, HB⟩ := hcut
       cases kq with
       | zero => exact absurd HA.out (by simp [impl_KeepOk.j1])
       | succ kj6 =>
        have H := HA.out
        clear HA
        simp only [impl_KeepOk.j1] at H
        by_cases c27 : x40_6 = true
        ·subst c27
         rw [if_pos rfl] at H
         obtain rfl := Option.some.inj H
         go_wp2
         go_ret
         exact ⟨by first | rfl | (simp [errW_none, errW_some] <;> rfl) | (simp [*, errW_none, errW_some] <;> rfl), by repeat (first | (with_reducible first | exact HB.out | apply below_alloc | apply pw_below_drewN | apply below_drew1 | refine below_set ?_ GE211.out | refine below_set ?_ GE213.out) | exact HB.out)⟩
        ·replace c27 := Bool.eq_false_iff.mpr c27
         subst c27
         rw [if_neg (show ¬ (false = true) by decide)] at H
         by_cases c28 : x10_1 > 0
         ·rw [if_pos c28] at H
          have c28b0 : decide (0 < x10_1) = true := decide_eq_true c28
          clear c28
          obtain ⟨ji29, hji29⟩ : ∃ j_ : Int, (wrap64 (x10_1 - 1)) = j_ := ⟨_, rfl⟩
          replace H : (if 0 ≤ (ji29) then (if (ji29) < (l0_0.length : Int) then (if ((rd_T101 l0_0 (ji29)).f0) ≥ ((rd_T101 l0_0 x10_1).f0) then (some false) else (impl_KeepOk.l0 kj6 l0_0 (l0_0.length : Int) (wrap64 (x10_1 + 1)) l0_0 l0_1)) else (none)) else (none)) = some r := by first | (rw [hji29] at H; exact H) | (simp only [hji29] at H ⊢; exact H)
          have hji29w : (IntKind.i64.wrap (x10_1 - 1)) = ji29 := (i64_w _).trans hji29
          by_cases c30 : 0 ≤ (ji29)
          ·rw [if_pos c30] at H
           have c30b0 : decide (0 ≤ (ji29)) = true := decide_eq_true c30
           clear c30
           by_cases c31 : (ji29) < (l0_0.length : Int)
           ·rw [if_pos c31] at H
            have c31b0 : decide ((ji29) < (l0_0.length : Int)) = true := decide_eq_true c31
            clear c31
            by_cases c32 : ((rd_T101 l0_0 (ji29)).f0) ≥ ((rd_T101 l0_0 x10_1).f0)
            ·rw [if_pos c32] at H
             have c32b0 : decide (((rd_T101 l0_0 x10_1).f0) ≤ ((rd_T101 l0_0 (ji29)).f0)) = true := decide_eq_true c32
             clear c32
             obtain rfl := Option.some.inj H
             try go_wp2
             have n0_ := Aside0.mk (blk_drew BK211.out)
             have n1_ := Aside0.mk (blk_drew BK213.out)
             have n2_ := Aside0.mk (below_drew1 HB.out)
             clear BK211
             clear BK213
             clear HB
             have BK211 := n0_
             have BK213 := n1_
             have HB := n2_
             clear n0_ n1_ n2_
             have p216 : 0 ≤ ((ji29) : Int) := of_decide_eq_true B11x3_
             have q216 : (ji29) < (l0_0.length : Int) := of_decide_eq_true B11x3_
             obtain ⟨ad216, e216, hx216_0, hx216_1, hx216_2⟩ := at_T101 HR0_0.out (ji29) p216 q216
             have hw216_2 := hx216_2
             have hw216_1 := hx216_1
             have hw216_0 := hx216_0
             obtain rfl : ad212 = ad216 := (by injection e216)
             replace hx216_0 := (HB.out.cell (World.block_lt_of_cell? w _ hx216_0)).trans hx216_0
             replace hx216_1 := (HB.out.cell (World.block_lt_of_cell? w _ hx216_1)).trans hx216_1
             replace hx216_2 := (HB.out.cell (World.block_lt_of_cell? w _ hx216_2)).trans hx216_2
             replace p216 := eq_true p216
             replace q216 := eq_true q216
             refine start_ (n := 14) (S := fun w' => w'.cell? ⟨gb211, 0, none⟩ = some (.slice (some ad212) l0_0.length c0_0) ∧ w'.cell? ⟨gb211, 1, none⟩ = some (.slice A0_1 l0_1.length c0_1) ∧ w'.cell? ⟨gb213, 0, none⟩ = some (.int .i64 ((rd_T101 l0_0 x10_1).f0)) ∧ w'.cell? ⟨gb213, 1, none⟩ = some (.int .i64 ((rd_T101 l0_0 x10_1).f1)) ∧ w'.cell? ⟨gb213, 2, none⟩ = some (.string ((rd_T101 l0_0 x10_1).f2)) ∧ w'.cell? (ad212.add (((ji29)).toNat * 3)) = some (.int .i64 ((rd_T101 l0_0 (ji29)).f0)) ∧ w'.cell? ⟨(ad212.add (((ji29)).toNat * 3)).block, (ad212.add (((ji29)).toNat * 3)).off + 1, none⟩ = some (.int .i64 ((rd_T101 l0_0 (ji29)).f1)) ∧ w'.cell? ⟨(ad212.add (((ji29)).toNat * 3)).block, (ad212.add (((ji29)).toNat * 3)).off + 2, none⟩ = some (.string ((rd_T101 l0_0 (ji29)).f2))) (ds := []) #[false, false, false, false, false, false, false, false, false, false, false, false, false, false] B11x4_ rfl rfl ⟨(blk_cell BK211.out 0).trans rfl, (blk_cell BK211.out 1).trans rfl, (blk_cell BK213.out 0).trans rfl, (blk_cell BK213.out 1).trans rfl, (blk_cell BK213.out 2).trans rfl, ((HB.out.cell (World.block_lt_of_cell? w _ hw216_0)).trans hw216_0), ((HB.out.cell (World.block_lt_of_cell? w _ hw216_1)).trans hw216_1), ((HB.out.cell (World.block_lt_of_cell? w _ hw216_2)).trans hw216_2)⟩ (fun hHeld => ?_); refine with_tabW impl_KeepOk.tab6 impl_KeepOk.bits6 (fun HT_ HW_ => ?_)
             generalize wc.drew = w33 at BK211 BK213 HB hx216_0 hx216_1 hx216_2 hHeld ⊢
             refine pu_ 0 41 HT_ ?_
             refine pu_ 1 42 HT_ ?_
             refine pu_ 2 43 HT_ ?_
             refine pu_ 3 44 HT_ ?_
             refine pu_ 5 46 HT_ ?_
             refine pu_ 6 47 HT_ ?_
             refine pu_ 10 51 HT_ ?_
             refine ta_ 4 45 HT_ HW_ hHeld ?_
             refine pu_ 7 48 HT_ ?_
             refine pu_ 8 49 HT_ ?_
             refine ta_ 9 50 HT_ HW_ hHeld ?_
             refine ta_ 11 52 HT_ HW_ hHeld ?_
             refine pu_ 12 53 HT_ ?_
             refine pu_ 13 54 HT_ ?_
             refine done_ (done_of HT_.out B11x4_) ?_
             try go_wp2
             go_ret
             exact ⟨by first | rfl | (simp [errW_none, errW_some] <;> rfl) | (simp only [← hji29]; first | rfl | (simp [errW_none, errW_some] <;> rfl)) | (simp [*, errW_none, errW_some] <;> rfl), by repeat (first | (with_reducible first | exact HB.out | apply below_alloc | apply pw_below_drewN | apply below_drew1 | refine below_set ?_ GE211.out | refine below_set ?_ GE213.out) | exact HB.out)⟩
            ·rw [if_neg c32] at H
             have c32b0 : decide (((rd_T101 l0_0 x10_1).f0) ≤ ((rd_T101 l0_0 (ji29)).f0)) = false := decide_eq_false c32
             clear c32
             have H' := Aside0.mk H
             clear H
             try go_wp2
             have n0_ := Aside0.mk (blk_drew BK211.out)
             have n1_ := Aside0.mk (blk_drew BK213.out)
             have n2_ := Aside0.mk (below_drew1 HB.out)
             clear BK211
             clear BK213
             clear HB
             have BK211 := n0_
             have BK213 := n1_
             have HB := n2_
             clear n0_ n1_ n2_
             have p216 : 0 ≤ ((ji29) : Int) := of_decide_eq_true B11x3_
             have q216 : (ji29) < (l0_0.length : Int) := of_decide_eq_true B11x3_
             obtain ⟨ad216, e216, hx216_0, hx216_1, hx216_2⟩ := at_T101 HR0_0.out (ji29) p216 q216
             have hw216_2 := hx216_2
             have hw216_1 := hx216_1
             have hw216_0 := hx216_0
             obtain rfl : ad212 = ad216 := (by injection e216)
             replace hx216_0 := (HB.out.cell (World.block_lt_of_cell? w _ hx216_0)).trans hx216_0
             replace hx216_1 := (HB.out.cell (World.block_lt_of_cell? w _ hx216_1)).trans hx216_1
             replace hx216_2 := (HB.out.cell (World.block_lt_of_cell? w _ hx216_2)).trans hx216_2
             replace p216 := eq_true p216
             replace q216 := eq_true q216
             refine start_ (n := 14) (S := fun w' => w'.cell? ⟨gb211, 0, none⟩ = some (.slice (some ad212) l0_0.length c0_0) ∧ w'.cell? ⟨gb211, 1, none⟩ = some (.slice A0_1 l0_1.length c0_1) ∧ w'.cell? ⟨gb213, 0, none⟩ = some (.int .i64 ((rd_T101 l0_0 x10_1).f0)) ∧ w'.cell? ⟨gb213, 1, none⟩ = some (.int .i64 ((rd_T101 l0_0 x10_1).f1)) ∧ w'.cell? ⟨gb213, 2, none⟩ = some (.string ((rd_T101 l0_0 x10_1).f2)) ∧ w'.cell? (ad212.add (((ji29)).toNat * 3)) = some (.int .i64 ((rd_T101 l0_0 (ji29)).f0)) ∧ w'.cell? ⟨(ad212.add (((ji29)).toNat * 3)).block, (ad212.add (((ji29)).toNat * 3)).off + 1, none⟩ = some (.int .i64 ((rd_T101 l0_0 (ji29)).f1)) ∧ w'.cell? ⟨(ad212.add (((ji29)).toNat * 3)).block, (ad212.add (((ji29)).toNat * 3)).off + 2, none⟩ = some (.string ((rd_T101 l0_0 (ji29)).f2))) (ds := []) #[false, false, false, false, false, false, false, false, false, false, false, false, false, false] B11x4_ rfl rfl ⟨(blk_cell BK211.out 0).trans rfl, (blk_cell BK211.out 1).trans rfl, (blk_cell BK213.out 0).trans rfl, (blk_cell BK213.out 1).trans rfl, (blk_cell BK213.out 2).trans rfl, ((HB.out.cell (World.block_lt_of_cell? w _ hw216_0)).trans hw216_0), ((HB.out.cell (World.block_lt_of_cell? w _ hw216_1)).trans hw216_1), ((HB.out.cell (World.block_lt_of_cell? w _ hw216_2)).trans hw216_2)⟩ (fun hHeld => ?_); refine with_tabW impl_KeepOk.tab6 impl_KeepOk.bits6 (fun HT_ HW_ => ?_)
             generalize wc.drew = w34 at BK211 BK213 HB hx216_0 hx216_1 hx216_2 hHeld ⊢
             refine pu_ 0 41 HT_ ?_
             refine pu_ 1 42 HT_ ?_
             refine pu_ 2 43 HT_ ?_
             refine pu_ 3 44 HT_ ?_
             refine pu_ 5 46 HT_ ?_
             refine pu_ 6 47 HT_ ?_
             refine pu_ 10 51 HT_ ?_
             refine ta_ 4 45 HT_ HW_ hHeld ?_
             refine pu_ 7 48 HT_ ?_
             refine pu_ 8 49 HT_ ?_
             refine ta_ 9 50 HT_ HW_ hHeld ?_
             refine ta_ 11 52 HT_ HW_ hHeld ?_
             refine pu_ 12 53 HT_ ?_
             refine pu_ 13 54 HT_ ?_
             refine done_ (done_of HT_.out B11x4_) ?_
             try go_wp2
             go_roundg kj6
             case measure => have := HK1.out; have := HJ6.out; omega
             case rel => exact ⟨(wrap64 (x10_1 + 1)), (be_), H', ⟨by have := HK1.out; have := HJ6.out; omega⟩, ⟨by (with_reducible repeat (first | refine blk_drewN ?_ _ | refine blk_drew ?_ | refine blk_alloc ?_ _)); exact BK211.out⟩, ⟨by repeat (first | (with_reducible first | exact HB.out | apply below_alloc | apply pw_below_drewN | apply below_drew1 | refine below_set ?_ GE211.out | refine below_set ?_ GE213.out) | exact HB.out)⟩⟩
           ·rw [if_neg c31] at H
            exact absurd H (by simp)
          ·rw [if_neg c30] at H
           exact absurd H (by simp)
         ·rw [if_neg c28] at H
          have c28b0 : decide (0 < x10_1) = false := decide_eq_false c28
          clear c28
          have H' := Aside0.mk H
          clear H
          try go_wp2
          have n0_ := Aside0.mk (blk_drew BK211.out)
          have n1_ := Aside0.mk (blk_drew BK213.out)
          have n2_ := Aside0.mk (below_drew1 HB.out)
          clear BK211
          clear BK213
          clear HB
          have BK211 := n0_
          have BK213 := n1_
          have HB := n2_
          clear n0_ n1_ n2_
          refine start_ (n := 14) (S := fun w' => True) (ds := []) #[false, false, false, false, false, false, false, false, false, false, false, false, false, false] B11x4_ rfl rfl trivial (fun hHeld => ?_); refine with_tabW impl_KeepOk.tab6 impl_KeepOk.bits6 (fun HT_ HW_ => ?_)
          generalize wc.drew = w35 at BK211 BK213 HB hHeld ⊢
          refine pu_ 0 41 HT_ ?_
          refine pu_ 1 42 HT_ ?_
          refine pu_ 2 43 HT_ ?_
          refine of_ 3 44 HT_ ?_
          refine of_ 4 45 HT_ ?_
          refine of_ 5 46 HT_ ?_
          refine of_ 6 47 HT_ ?_
          refine of_ 7 48 HT_ ?_
          refine of_ 8 49 HT_ ?_
          refine of_ 9 50 HT_ ?_
          refine of_ 10 51 HT_ ?_
          refine of_ 11 52 HT_ ?_
          refine of_ 12 53 HT_ ?_
          refine pu_ 13 54 HT_ ?_
          refine done_ (done_of HT_.out B11x4_) ?_
          try go_wp2
          go_roundg kj6
          case measure => have := HK1.out; have := HJ6.out; omega
          case rel => exact ⟨(wrap64 (x10_1 + 1)), (be_), H', ⟨by have := HK1.out; have := HJ6.out; omega⟩, ⟨by (with_reducible repeat (first | refine blk_drewN ?_ _ | refine blk_drew ?_ | refine blk_alloc ?_ _)); exact BK211.out⟩, ⟨by repeat (first | (with_reducible first | exact HB.out | apply below_alloc | apply pw_below_drewN | apply below_drew1 | refine below_set ?_ GE211.out | refine below_set ?_ GE213.out) | exact HB.out)⟩⟩
     ·exact absurd H (by exfalso; (try have h0_ := of_decide_eq_true c4b0); (try have g0_ := c4); omega)
    ·rw [if_neg c5] at H
     exact absurd H (by simp)
   ·rw [if_neg c4] at H
    have c4b0 : decide (x10_1 < (l0_0.length : Int)) = false := decide_eq_false c4
    clear c4
    have H' := Aside0.mk H
    clear H
    obtain ⟨hcz36_0, hcz36_1⟩ := cl2 BK211.out
    obtain ⟨hfz36_0, hfz36_1⟩ := fr2 BK211.out
    go_wp2
    go_loopg [59] k1 (fun kq v59 w' => ∃ (x59_2 : Int), v59 = .int .i64 x59_2 ∧ Aside0 (impl_KeepOk.l1 kq l0_1 (l0_1.length : Int) x59_2 l0_0 l0_1 = some r) ∧ Aside0 (kq ≤ k1) ∧ Aside0 (w'.heap[gb211]? = some (.cells #[(.slice A0_0 l0_0.length c0_0), (.slice A0_1 l0_1.length c0_1)] 37 (0, 0))) ∧ Aside0 (Below w.heap.size w w'))
    case atStart => exact ⟨(0), (be_), H', ⟨Nat.le_refl _⟩, ⟨by (with_reducible repeat (first | refine blk_drewN ?_ _ | refine blk_drew ?_ | refine blk_alloc ?_ _)); exact BK211.out⟩, ⟨by repeat (first | (with_reducible first | exact HB.out | apply below_alloc | apply pw_below_drewN | apply below_drew1 | refine below_set ?_ GE211.out) | exact HB.out)⟩⟩
    case round =>
     clear H'
     try clear c1
     try clear c2
     try clear p2
     try clear q2
     try clear hx2
     try clear c3
     try clear c4
     try clear c4b0
     try clear c5
     try clear c5b0
     try clear c6
     try clear c6b0
     try clear p6
     try clear c8
     try clear c9
     try clear c12
     try clear c14
     try clear c15
     try clear c15b0
     try clear c15b1
     try clear c16
     try clear c18
     try clear c18b0
     try clear c18b1
     try clear c19
     try clear c21
     try clear p21
     try clear q21
     try clear hx21
     try clear c23
     try clear c25
     try clear c27
     try clear c28
     try clear c28b0
     try clear c30
     try clear c30b0
     try clear c31
     try clear c31b0
     try clear c32
     try clear c32b0
     try clear hcz10_0
     try clear hcz10_1
     try clear hcz10_2
     try clear hcz17_0
     try clear hcz17_1
     try clear hcz17_2
     try clear hcz20_0
     try clear hcz20_1
     try clear hcz20_2
     try clear hcz22_0
     try clear hcz22_1
     try clear hcz22_2
     try clear hcz24_0
     try clear hcz24_1
     try clear hcz24_2
     try clear hcz26_0
     try clear hcz26_1
     try clear hcz26_2
     try clear hcz36_0
     try clear hcz36_1
     try clear hcz3_0
     try clear hcz3_1
     try clear hfz10_0
     try clear hfz10_1
     try clear hfz10_2
     try clear hfz17_0
     try clear hfz17_1
     try clear hfz17_2
     try clear hfz20_0
     try clear hfz20_1
     try clear hfz20_2
     try clear hfz22_0
     try clear hfz22_1
     try clear hfz22_2
     try clear hfz24_0
     try clear hfz24_1
     try clear hfz24_2
     try clear hfz26_0
     try clear hfz26_1
     try clear hfz26_2
     try clear hfz36_0
     try clear hfz36_1
     try clear hfz3_0
     try clear hfz3_1
     try clear hx212_0
     try clear hx212_1
     try clear hx212_2
     try clear hx216_0
     try clear hx216_1
     try clear hx216_2
     try clear p2
     try clear p21
     try clear p212
     try clear p216
     try clear q2
     try clear q21
     try clear q212
     try clear q216
     obtain ⟨x59_2, rfl, HA, HK2, BK211, HB⟩ := hrel
     cases gk with
     | zero => exact absurd HA.out (by simp [impl_KeepOk.l1])
     | succ k2 =>
      have H := HA.out
      clear HA
      simp only [impl_KeepOk.l1] at H
      by_cases c37 : x59_2 < (l0_1.length : Int)
      ·rw [if_pos c37] at H
       have c37b0 : decide (x59_2 < (l0_1.length : Int)) = true := decide_eq_true c37
       clear c37
       by_cases c38 : 0 ≤ x59_2
       ·rw [if_pos c38] at H
        have c38b0 : decide (0 ≤ x59_2) = true := decide_eq_true c38
        clear c38
        by_cases c39 : x59_2 < (l0_1.length : Int)
        ·rw [if_pos c39] at H
         have c39b0 : decide (x59_2 < (l0_1.length : Int)) = true := decide_eq_true c39
         clear c39
         replace H := Option.bind_eq_some_iff.mp H
         obtain ⟨t219, A400, H⟩ := H
         (try dsimp only at H)
         have A40 := Aside0.mk A400
         clear A400
         by_cases c41 : t219 = true
         ·subst c41
          rw [if_pos rfl] at H
          replace H := Option.bind_eq_some_iff.mp H
          obtain ⟨t220, A420, H⟩ := H
          (try dsimp only at H)
          have A42 := Aside0.mk A420
          clear A420
          by_cases c43 : t220 = true
          ·subst c43
           rw [if_pos rfl] at H
           replace H := Option.bind_eq_some_iff.mp H
           obtain ⟨t221, A440, H⟩ := H
           (try dsimp only at H)
           have A44 := Aside0.mk A440
           clear A440
           by_cases c45 : t221 = true
           ·subst c45
            rw [if_pos rfl] at H
            by_cases c46 : x59_2 > 0
            ·rw [if_pos c46] at H
             have c46b0 : decide (0 < x59_2) = true := decide_eq_true c46
             clear c46
             obtain ⟨ji47, hji47⟩ : ∃ j_ : Int, (wrap64 (x59_2 - 1)) = j_ := ⟨_, rfl⟩
             replace H : (if 0 ≤ (ji47) then (if (ji47) < (l0_1.length : Int) then (if ((Op.bytesLess (((rd_T104 l0_1 (ji47)).f0).toList) (((rd_T104 l0_1 x59_2).f0).toList)) = true) then (impl_KeepOk.l1 k2 l0_1 (l0_1.length : Int) (wrap64 (x59_2 + 1)) l0_0 l0_1) else (some false)) else (none)) else (none)) = some r := by first | (rw [hji47] at H; exact H) | (simp only [hji47] at H ⊢; exact H)
             (try rw [hji47] at A40)
             (try rw [hji47] at A42)
             (try rw [hji47] at A44)
             have hji47w : (IntKind.i64.wrap (x59_2 - 1)) = ji47 := (i64_w _).trans hji47
             by_cases c48 : 0 ≤ (ji47)
             ·rw [if_pos c48] at H
              have c48b0 : decide (0 ≤ (ji47)) = true := decide_eq_true c48
              clear c48
              by_cases c49 : (ji47) < (l0_1.length : Int)
              ·rw [if_pos c49] at H
               have c49b0 : decide ((ji47) < (l0_1.length : Int)) = true := decide_eq_true c49
               clear c49
               by_cases c50 : ((Op.bytesLess (((rd_T104 l0_1 (ji47)).f0).toList) (((rd_T104 l0_1 x59_2).f0).toList)) = true)
               ·rw [if_pos c50] at H
                have c50b0 : (Op.bytesLess (((rd_T104 l0_1 (ji47)).f0).toList) (((rd_T104 l0_1 x59_2).f0).toList)) = true := c50
                clear c50
                have H' := Aside0.mk H
                clear H
                have p217 : 0 ≤ (x59_2 : Int) := of_decide_eq_true B11x3_
                have q217 : x59_2 < (l0_1.length : Int) := of_decide_eq_true B11x3_
                obtain ⟨ad217, e217, hx217_0, hx217_1, hx217_2⟩ := at_T104 HR0_1.out x59_2 p217 q217
                cases e217
                replace hx217_0 := (HB.out.cell (World.block_lt_of_cell? w _ hx217_0)).trans hx217_0
                replace hx217_1 := (HB.out.cell (World.block_lt_of_cell? w _ hx217_1)).trans hx217_1
                replace hx217_2 := (HB.out.cell (World.block_lt_of_cell? w _ hx217_2)).trans hx217_2
                replace p217 := eq_true p217
                replace q217 := eq_true q217
                try go_wp2_with (first | ((with_reducible refine gate_dst (N := 6) rfl ?_); (try (refine gate_guard (by rfl) ?_; dsimp only)); refine box_event ?hg (N := 6) ?hd (cs := #[.string (⟨#[]⟩ : ByteArray), .string (⟨#[]⟩ : ByteArray), .int .i64 0]) (t := 104) ?hr ?_; (case hd => rfl); (case hg => rfl); (case hr => first | (go_simp; done) | (go_simp; rfl)); intro gb218 hg w51 hbox hb; have n0_ := Aside0.mk (blk_below (g := gb211) (o := .cells #[.slice A0_0 l0_0.length c0_0, .slice (some ad217) l0_1.length c0_1] 37 (0, 0)) B11x2_ hb); have n1_ := Aside0.mk (below_step B11x0_ hb); have n2_ := Aside0.mk (hbox); have n3_ := Aside0.mk ((by rw [hg]; exact (below_size B11x0_) : w.heap.size ≤ gb218)); have n4_ := Aside0.mk ((by rw [hg]; exact (below_size B11x0_) : w.heap.size ≤ gb218)); have n5_ := Aside0.mk ((by rw [hg]; exact Nat.ne_of_lt (blk_lt (g := gb211) (o := .cells #[.slice A0_0 l0_0.length c0_0, .slice (some ad217) l0_1.length c0_1] 37 (0, 0)) B11x2_) : gb211 ≠ gb218)); have n6_ := Aside0.mk ((by rw [hg]; exact Nat.ne_of_gt (blk_lt (g := gb211) (o := .cells #[.slice A0_0 l0_0.length c0_0, .slice (some ad217) l0_1.length c0_1] 37 (0, 0)) B11x2_) : gb218 ≠ gb211)); clear BK211; clear HB; have BK211 := n0_; have HB := n1_; have BK218 := n2_; have GW218 := n3_; have GE218 := n4_; have NB211_218 := n5_; have NB218_211 := n6_; clear n0_ n1_ n2_ n3_ n4_ n5_ n6_; clear hb hbox hg; have hnb52 := NB218_211.out; have hnc52 := NB211_218.out; obtain ⟨hcz53_0, hcz53_1, hcz53_2⟩ := cl3 BK218.out; obtain ⟨hfz53_0, hfz53_1, hfz53_2⟩ := fr3 BK218.out))
                have n0_ : Aside0 ((((w51.setCell ⟨gb218, 0, none⟩ (.string ((rd_T104 l0_1 x59_2).f0))).setCell ⟨gb218, 1, none⟩ (.string ((rd_T104 l0_1 x59_2).f1))).setCell ⟨gb218, 2, none⟩ (.int .i64 ((rd_T104 l0_1 x59_2).f2))).heap[gb211]? = some (.cells #[.slice A0_0 l0_0.length c0_0, .slice (some ad217) l0_1.length c0_1] 37 (0, 0))) := ⟨by (with_reducible repeat (first | refine blk_drewN ?_ _ | refine blk_drew ?_ | refine blk_alloc ?_ _)); refine blk_far ?_ NB211_218.out _; (with_reducible repeat (first | refine blk_drewN ?_ _ | refine blk_drew ?_ | refine blk_alloc ?_ _)); refine blk_far ?_ NB211_218.out _; (with_reducible repeat (first | refine blk_drewN ?_ _ | refine blk_drew ?_ | refine blk_alloc ?_ _)); refine blk_far ?_ NB211_218.out _; (with_reducible repeat (first | refine blk_drewN ?_ _ | refine blk_drew ?_ | refine blk_alloc ?_ _)); exact BK211.out⟩
                have n1_ : Aside0 ((((w51.setCell ⟨gb218, 0, none⟩ (.string ((rd_T104 l0_1 x59_2).f0))).setCell ⟨gb218, 1, none⟩ (.string ((rd_T104 l0_1 x59_2).f1))).setCell ⟨gb218, 2, none⟩ (.int .i64 ((rd_T104 l0_1 x59_2).f2))).heap[gb218]? = some (.cells #[.string ((rd_T104 l0_1 x59_2).f0), .string ((rd_T104 l0_1 x59_2).f1), .int .i64 ((rd_T104 l0_1 x59_2).f2)] 104 (0, 0))) := ⟨by (with_reducible repeat (first | refine blk_drewN ?_ _ | refine blk_drew ?_ | refine blk_alloc ?_ _)); refine blk_put (cs := #[.string ((rd_T104 l0_1 x59_2).f0), .string ((rd_T104 l0_1 x59_2).f1), .int .i64 0]) ?_ 2 _ rfl; (with_reducible repeat (first | refine blk_drewN ?_ _ | refine blk_drew ?_ | refine blk_alloc ?_ _)); refine blk_put (cs := #[.string ((rd_T104 l0_1 x59_2).f0), .string (⟨#[]⟩ : ByteArray), .int .i64 0]) ?_ 1 _ rfl; (with_reducible repeat (first | refine blk_drewN ?_ _ | refine blk_drew ?_ | refine blk_alloc ?_ _)); refine blk_put (cs := #[.string (⟨#[]⟩ : ByteArray), .string (⟨#[]⟩ : ByteArray), .int .i64 0]) ?_ 0 _ rfl; (with_reducible repeat (first | refine blk_drewN ?_ _ | refine blk_drew ?_ | refine blk_alloc ?_ _)); exact BK218.out⟩
                have n2_ : Aside0 (Below w.heap.size w (((w51.setCell ⟨gb218, 0, none⟩ (.string ((rd_T104 l0_1 x59_2).f0))).setCell ⟨gb218, 1, none⟩ (.string ((rd_T104 l0_1 x59_2).f1))).setCell ⟨gb218, 2, none⟩ (.int .i64 ((rd_T104 l0_1 x59_2).f2)))) := ⟨by repeat (first | (with_reducible first | exact HB.out | apply below_alloc | apply pw_below_drewN | apply below_drew1 | refine below_set ?_ GE211.out | refine below_set ?_ GE218.out) | exact HB.out)⟩
                (try clear BK211)
                (try clear BK218)
                (try clear HB)
                generalize (((w51.setCell ⟨gb218, 0, none⟩ (.string ((rd_T104 l0_1 x59_2).f0))).setCell ⟨gb218, 1, none⟩ (.string ((rd_T104 l0_1 x59_2).f1))).setCell ⟨gb218, 2, none⟩ (.int .i64 ((rd_T104 l0_1 x59_2).f2))) = w54 at n0_ n1_ n2_ ⊢
                have BK211 := n0_
                have BK218 := n1_
                have HB := n2_
                clear n0_ n1_ n2_
                have n0_ := Aside0.mk (blk_drew BK211.out)
                have n1_ := Aside0.mk (blk_drew BK218.out)
                have n2_ := Aside0.mk (below_drew1 HB.out)
                clear BK211
                clear BK218
                clear HB
                have BK211 := n0_
                have BK218 := n1_
                have HB := n2_
                clear n0_ n1_ n2_
                have p222 : 0 ≤ ((ji47) : Int) := of_decide_eq_true B11x3_
                have q222 : (ji47) < (l0_1.length : Int) := of_decide_eq_true B11x3_
                obtain ⟨ad222, e222, hx222_0, hx222_1, hx222_2⟩ := at_T104 HR0_1.out (ji47) p222 q222
                have hw222_2 := hx222_2
                have hw222_1 := hx222_1
                have hw222_0 := hx222_0
                obtain rfl : ad217 = ad222 := (by injection e222)
                replace hx222_0 := (HB.out.cell (World.block_lt_of_cell? w _ hx222_0)).trans hx222_0
                replace hx222_1 := (HB.out.cell (World.block_lt_of_cell? w _ hx222_1)).trans hx222_1
                replace hx222_2 := (HB.out.cell (World.block_lt_of_cell? w _ hx222_2)).trans hx222_2
                replace p222 := eq_true p222
                replace q222 := eq_true q222
                refine start_ (n := 32) (S := fun w' => w'.cell? ⟨gb218, 0, none⟩ = some (.string ((rd_T104 l0_1 x59_2).f0)) ∧ w'.cell? ⟨gb218, 1, none⟩ = some (.string ((rd_T104 l0_1 x59_2).f1)) ∧ w'.cell? ⟨gb218, 2, none⟩ = some (.int .i64 ((rd_T104 l0_1 x59_2).f2)) ∧ w'.cell? ⟨gb211, 0, none⟩ = some (.slice A0_0 l0_0.length c0_0) ∧ w'.cell? ⟨gb211, 1, none⟩ = some (.slice (some ad217) l0_1.length c0_1) ∧ w'.cell? (ad217.add (((ji47)).toNat * 3)) = some (.string ((rd_T104 l0_1 (ji47)).f0)) ∧ w'.cell? ⟨(ad217.add (((ji47)).toNat * 3)).block, (ad217.add (((ji47)).toNat * 3)).off + 1, none⟩ = some (.string ((rd_T104 l0_1 (ji47)).f1)) ∧ w'.cell? ⟨(ad217.add (((ji47)).toNat * 3)).block, (ad217.add (((ji47)).toNat * 3)).off + 2, none⟩ = some (.int .i64 ((rd_T104 l0_1 (ji47)).f2))) (ds := []) #[false, false, false, false, false, false, false, false, false, false, false, false, false, false, false, false, false, false, false, false, false, false, false, false, false, false, false, false, false, false, false, false] B11x4_ rfl rfl ⟨(blk_cell BK218.out 0).trans rfl, (blk_cell BK218.out 1).trans rfl, (blk_cell BK218.out 2).trans rfl, (blk_cell BK211.out 0).trans rfl, (blk_cell BK211.out 1).trans rfl, ((HB.out.cell (World.block_lt_of_cell? w _ hw222_0)).trans hw222_0), ((HB.out.cell (World.block_lt_of_cell? w _ hw222_1)).trans hw222_1), ((HB.out.cell (World.block_lt_of_cell? w _ hw222_2)).trans hw222_2)⟩ (fun hHeld => ?_); refine with_tabW impl_KeepOk.tab12 impl_KeepOk.bits12 (fun HT_ HW_ => ?_)
                generalize w54.drew = w55 at BK211 BK218 HB hx222_0 hx222_1 hx222_2 hHeld ⊢
                refine pu_ 0 64 HT_ ?_
                refine ta_ 1 65 HT_ HW_ hHeld ?_
                refine one_ (i := 2) (N := some 66) #[true, true, true, false, false, false, false, false, false, false, false, false, false, false, false, false, false, false, false, false, false, false, false, false, false, false, false, false, false, false, false, false] rfl rfl (one_of HT_.out B11x4_) (by decide) (fun K hK => ?_)
                refine goes_ Try.func136 B11x4_ rfl #[.string ((rd_T104 l0_1 x59_2).f0)] (by rfl) rfl rfl B11x1_ ?_
                with_reducible refine (impl_keyOk.calls ((rd_T104 l0_1 x59_2).f0) true _ A40.out).mono ?_
                rintro e w' ⟨rfl, ⟨nd, rfl⟩⟩
                refine ⟨_, rfl, ?_⟩
                refine hK.out _ _ ⟨(blk_cell BK218.out 0).trans rfl, (blk_cell BK218.out 1).trans rfl, (blk_cell BK218.out 2).trans rfl, (blk_cell BK211.out 0).trans rfl, (blk_cell BK211.out 1).trans rfl, ((HB.out.cell (World.block_lt_of_cell? w _ hw222_0)).trans hw222_0), ((HB.out.cell (World.block_lt_of_cell? w _ hw222_1)).trans hw222_1), ((HB.out.cell (World.block_lt_of_cell? w _ hw222_2)).trans hw222_2)⟩ (fun hHeld => ?_)
                clear hK K
                refine norm_ (a' := ?_) ?_ ?_
                rotate_left
                ·show Act.put _ (some 66) _ = _
                 simp only [Act.put, List.setIfInBounds_toArray, List.set_cons_zero, List.set_cons_succ, i64_w, i32_w]
                 rfl
                refine pu_ 3 67 HT_ ?_
                refine pu_ 4 68 HT_ ?_
                refine pu_ 5 69 HT_ ?_
                refine ta_ 6 70 HT_ HW_ hHeld ?_
                refine one_ (i := 7) (N := some 71) #[true, true, true, true, true, true, true, true, false, false, false, false, false, false, false, false, false, false, false, false, false, false, false, false, false, false, false, false, false, false, false, false] rfl rfl (one_of HT_.out B11x4_) (by decide) (fun K hK => ?_)
                refine goes_ Try.func137 B11x4_ rfl #[.string ((rd_T104 l0_1 x59_2).f1)] (by rfl) rfl rfl B11x1_ ?_
                with_reducible refine (impl_valOk.calls ((rd_T104 l0_1 x59_2).f1) true _ A42.out).mono ?_
                rintro e w' ⟨rfl, ⟨nd, rfl⟩⟩
                refine ⟨_, rfl, ?_⟩
                refine hK.out _ _ ⟨(blk_cell BK218.out 0).trans rfl, (blk_cell BK218.out 1).trans rfl, (blk_cell BK218.out 2).trans rfl, (blk_cell BK211.out 0).trans rfl, (blk_cell BK211.out 1).trans rfl, ((HB.out.cell (World.block_lt_of_cell? w _ hw222_0)).trans hw222_0), ((HB.out.cell (World.block_lt_of_cell? w _ hw222_1)).trans hw222_1), ((HB.out.cell (World.block_lt_of_cell? w _ hw222_2)).trans hw222_2)⟩ (fun hHeld => ?_)
                clear hK K
                refine norm_ (a' := ?_) ?_ ?_
                rotate_left
                ·show Act.put _ (some 71) _ = _
                 simp only [Act.put, List.setIfInBounds_toArray, List.set_cons_zero, List.set_cons_succ, i64_w, i32_w]
                 rfl
                refine pu_ 8 72 HT_ ?_
                refine pu_ 9 73 HT_ ?_
                refine pu_ 10 74 HT_ ?_
                refine pu_ 11 75 HT_ ?_
                refine ta_ 12 76 HT_ HW_ hHeld ?_
                refine one_ (i := 13) (N := some 77) #[true, true, true, true, true, true, true, true, true, true, true, true, true, true, false, false, false, false, false, false, false, false, false, false, false, false, false, false, false, false, false, false] rfl rfl (one_of HT_.out B11x4_) (by decide) (fun K hK => ?_)
                refine goes_ Try.func68 B11x4_ rfl #[.int .i64 ((rd_T104 l0_1 x59_2).f2), .int .i64 1, .int .i64 1000000000] (by rfl) rfl rfl B11x1_ ?_
                with_reducible refine (impl_within.calls ((rd_T104 l0_1 x59_2).f2) 1 1000000000 true _ A44.out).mono ?_
                rintro e w' ⟨rfl, ⟨nd, rfl⟩⟩
                refine ⟨_, rfl, ?_⟩
                refine hK.out _ _ ⟨(blk_cell BK218.out 0).trans rfl, (blk_cell BK218.out 1).trans rfl, (blk_cell BK218.out 2).trans rfl, (blk_cell BK211.out 0).trans rfl, (blk_cell BK211.out 1).trans rfl, ((HB.out.cell (World.block_lt_of_cell? w _ hw222_0)).trans hw222_0), ((HB.out.cell (World.block_lt_of_cell? w _ hw222_1)).trans hw222_1), ((HB.out.cell (World.block_lt_of_cell? w _ hw222_2)).trans hw222_2)⟩ (fun hHeld => ?_)
                clear hK K
                refine norm_ (a' := ?_) ?_ ?_
                rotate_left
                ·show Act.put _ (some 77) _ = _
                 simp only [Act.put, List.setIfInBounds_toArray, List.set_cons_zero, List.set_cons_succ, i64_w, i32_w]
                 rfl
                refine pu_ 14 78 HT_ ?_
                refine pu_ 15 79 HT_ ?_
                refine pu_ 16 80 HT_ ?_
                refine pu_ 17 81 HT_ ?_
                refine pu_ 18 82 HT_ ?_
                refine pu_ 19 83 HT_ ?_
                refine pu_ 20 84 HT_ ?_
                refine pu_ 22 86 HT_ ?_
                refine pu_ 23 87 HT_ ?_
                refine pu_ 27 91 HT_ ?_
                refine ta_ 21 85 HT_ HW_ hHeld ?_
                refine pu_ 24 88 HT_ ?_
                refine pu_ 25 89 HT_ ?_
                refine ta_ 26 90 HT_ HW_ hHeld ?_
                refine ta_ 28 92 HT_ HW_ hHeld ?_
                refine pu_ 29 93 HT_ ?_
                refine pu_ 30 94 HT_ ?_
                refine pu_ 31 95 HT_ ?_
                refine done_ (done_of HT_.out B11x4_) ?_
                try go_wp2
                go_roundg k2
                case measure => have := HK1.out; have := HK2.out; omega
                case rel => exact ⟨(wrap64 (x59_2 + 1)), (be_), H', ⟨by have := HK1.out; have := HK2.out; omega⟩, ⟨by (with_reducible repeat (first | refine blk_drewN ?_ _ | refine blk_drew ?_ | refine blk_alloc ?_ _)); exact BK211.out⟩, ⟨by repeat (first | (with_reducible first | exact HB.out | apply below_alloc | apply pw_below_drewN | apply below_drew1 | refine below_set ?_ GE211.out | refine below_set ?_ GE218.out) | exact HB.out)⟩⟩
               ·rw [if_neg c50] at H
                have c50b0 : (Op.bytesLess (((rd_T104 l0_1 (ji47)).f0).toList) (((rd_T104 l0_1 x59_2).f0).toList)) = false := by simpa using c50
                clear c50
                obtain rfl := Option.some.inj H
                have p217 : 0 ≤ (x59_2 : Int) := of_decide_eq_true B11x3_
                have q217 : x59_2 < (l0_1.length : Int) := of_decide_eq_true B11x3_
                obtain ⟨ad217, e217, hx217_0, hx217_1, hx217_2⟩ := at_T104 HR0_1.out x59_2 p217 q217
                cases e217
                replace hx217_0 := (HB.out.cell (World.block_lt_of_cell? w _ hx217_0)).trans hx217_0
                replace hx217_1 := (HB.out.cell (World.block_lt_of_cell? w _ hx217_1)).trans hx217_1
                replace hx217_2 := (HB.out.cell (World.block_lt_of_cell? w _ hx217_2)).trans hx217_2
                replace p217 := eq_true p217
                replace q217 := eq_true q217
                try go_wp2_with (first | ((with_reducible refine gate_dst (N := 6) rfl ?_); (try (refine gate_guard (by rfl) ?_; dsimp only)); refine box_event ?hg (N := 6) ?hd (cs := #[.string (⟨#[]⟩ : ByteArray), .string (⟨#[]⟩ : ByteArray), .int .i64 0]) (t := 104) ?hr ?_; (case hd => rfl); (case hg => rfl); (case hr => first | (go_simp; done) | (go_simp; rfl)); intro gb218 hg w56 hbox hb; have n0_ := Aside0.mk (blk_below (g := gb211) (o := .cells #[.slice A0_0 l0_0.length c0_0, .slice (some ad217) l0_1.length c0_1] 37 (0, 0)) B11x2_ hb); have n1_ := Aside0.mk (below_step B11x0_ hb); have n2_ := Aside0.mk (hbox); have n3_ := Aside0.mk ((by rw [hg]; exact (below_size B11x0_) : w.heap.size ≤ gb218)); have n4_ := Aside0.mk ((by rw [hg]; exact (below_size B11x0_) : w.heap.size ≤ gb218)); have n5_ := Aside0.mk ((by rw [hg]; exact Nat.ne_of_lt (blk_lt (g := gb211) (o := .cells #[.slice A0_0 l0_0.length c0_0, .slice (some ad217) l0_1.length c0_1] 37 (0, 0)) B11x2_) : gb211 ≠ gb218)); have n6_ := Aside0.mk ((by rw [hg]; exact Nat.ne_of_gt (blk_lt (g := gb211) (o := .cells #[.slice A0_0 l0_0.length c0_0, .slice (some ad217) l0_1.length c0_1] 37 (0, 0)) B11x2_) : gb218 ≠ gb211)); clear BK211; clear HB; have BK211 := n0_; have HB := n1_; have BK218 := n2_; have GW218 := n3_; have GE218 := n4_; have NB211_218 := n5_; have NB218_211 := n6_; clear n0_ n1_ n2_ n3_ n4_ n5_ n6_; clear hb hbox hg; have hnb57 := NB218_211.out; have hnc57 := NB211_218.out; obtain ⟨hcz58_0, hcz58_1, hcz58_2⟩ := cl3 BK218.out; obtain ⟨hfz58_0, hfz58_1, hfz58_2⟩ := fr3 BK218.out))
                have n0_ : Aside0 ((((w56.setCell ⟨gb218, 0, none⟩ (.string ((rd_T104 l0_1 x59_2).f0))).setCell ⟨gb218, 1, none⟩ (.string ((rd_T104 l0_1 x59_2).f1))).setCell ⟨gb218, 2, none⟩ (.int .i64 ((rd_T104 l0_1 x59_2).f2))).heap[gb211]? = some (.cells #[.slice A0_0 l0_0.length c0_0, .slice (some ad217) l0_1.length c0_1] 37 (0, 0))) := ⟨by (with_reducible repeat (first | refine blk_drewN ?_ _ | refine blk_drew ?_ | refine blk_alloc ?_ _)); refine blk_far ?_ NB211_218.out _; (with_reducible repeat (first | refine blk_drewN ?_ _ | refine blk_drew ?_ | refine blk_alloc ?_ _)); refine blk_far ?_ NB211_218.out _; (with_reducible repeat (first | refine blk_drewN ?_ _ | refine blk_drew ?_ | refine blk_alloc ?_ _)); refine blk_far ?_ NB211_218.out _; (with_reducible repeat (first | refine blk_drewN ?_ _ | refine blk_drew ?_ | refine blk_alloc ?_ _)); exact BK211.out⟩
                have n1_ : Aside0 ((((w56.setCell ⟨gb218, 0, none⟩ (.string ((rd_T104 l0_1 x59_2).f0))).setCell ⟨gb218, 1, none⟩ (.string ((rd_T104 l0_1 x59_2).f1))).setCell ⟨gb218, 2, none⟩ (.int .i64 ((rd_T104 l0_1 x59_2).f2))).heap[gb218]? = some (.cells #[.string ((rd_T104 l0_1 x59_2).f0), .string ((rd_T104 l0_1 x59_2).f1), .int .i64 ((rd_T104 l0_1 x59_2).f2)] 104 (0, 0))) := ⟨by (with_reducible repeat (first | refine blk_drewN ?_ _ | refine blk_drew ?_ | refine blk_alloc ?_ _)); refine blk_put (cs := #[.string ((rd_T104 l0_1 x59_2).f0), .string ((rd_T104 l0_1 x59_2).f1), .int .i64 0]) ?_ 2 _ rfl; (with_reducible repeat (first | refine blk_drewN ?_ _ | refine blk_drew ?_ | refine blk_alloc ?_ _)); refine blk_put (cs := #[.string ((rd_T104 l0_1 x59_2).f0), .string (⟨#[]⟩ : ByteArray), .int .i64 0]) ?_ 1 _ rfl; (with_reducible repeat (first | refine blk_drewN ?_ _ | refine blk_drew ?_ | refine blk_alloc ?_ _)); refine blk_put (cs := #[.string (⟨#[]⟩ : ByteArray), .string (⟨#[]⟩ : ByteArray), .int .i64 0]) ?_ 0 _ rfl; (with_reducible repeat (first | refine blk_drewN ?_ _ | refine blk_drew ?_ | refine blk_alloc ?_ _)); exact BK218.out⟩
                have n2_ : Aside0 (Below w.heap.size w (((w56.setCell ⟨gb218, 0, none⟩ (.string ((rd_T104 l0_1 x59_2).f0))).setCell ⟨gb218, 1, none⟩ (.string ((rd_T104 l0_1 x59_2).f1))).setCell ⟨gb218, 2, none⟩ (.int .i64 ((rd_T104 l0_1 x59_2).f2)))) := ⟨by repeat (first | (with_reducible first | exact HB.out | apply below_alloc | apply pw_below_drewN | apply below_drew1 | refine below_set ?_ GE211.out | refine below_set ?_ GE218.out) | exact HB.out)⟩
                (try clear BK211)
                (try clear BK218)
                (try clear HB)
                generalize (((w56.setCell ⟨gb218, 0, none⟩ (.string ((rd_T104 l0_1 x59_2).f0))).setCell ⟨gb218, 1, none⟩ (.string ((rd_T104 l0_1 x59_2).f1))).setCell ⟨gb218, 2, none⟩ (.int .i64 ((rd_T104 l0_1 x59_2).f2))) = w59 at n0_ n1_ n2_ ⊢
                have BK211 := n0_
                have BK218 := n1_
                have HB := n2_
                clear n0_ n1_ n2_
                have n0_ := Aside0.mk (blk_drew BK211.out)
                have n1_ := Aside0.mk (blk_drew BK218.out)
                have n2_ := Aside0.mk (below_drew1 HB.out)
                clear BK211
                clear BK218
                clear HB
                have BK211 := n0_
                have BK218 := n1_
                have HB := n2_
                clear n0_ n1_ n2_
                have p222 : 0 ≤ ((ji47) : Int) := of_decide_eq_true B11x3_
                have q222 : (ji47) < (l0_1.length : Int) := of_decide_eq_true B11x3_
                obtain ⟨ad222, e222, hx222_0, hx222_1, hx222_2⟩ := at_T104 HR0_1.out (ji47) p222 q222
                have hw222_2 := hx222_2
                have hw222_1 := hx222_1
                have hw222_0 := hx222_0
                obtain rfl : ad217 = ad222 := (by injection e222)
                replace hx222_0 := (HB.out.cell (World.block_lt_of_cell? w _ hx222_0)).trans hx222_0
                replace hx222_1 := (HB.out.cell (World.block_lt_of_cell? w _ hx222_1)).trans hx222_1
                replace hx222_2 := (HB.out.cell (World.block_lt_of_cell? w _ hx222_2)).trans hx222_2
                replace p222 := eq_true p222
                replace q222 := eq_true q222
                refine start_ (n := 32) (S := fun w' => w'.cell? ⟨gb218, 0, none⟩ = some (.string ((rd_T104 l0_1 x59_2).f0)) ∧ w'.cell? ⟨gb218, 1, none⟩ = some (.string ((rd_T104 l0_1 x59_2).f1)) ∧ w'.cell? ⟨gb218, 2, none⟩ = some (.int .i64 ((rd_T104 l0_1 x59_2).f2)) ∧ w'.cell? ⟨gb211, 0, none⟩ = some (.slice A0_0 l0_0.length c0_0) ∧ w'.cell? ⟨gb211, 1, none⟩ = some (.slice (some ad217) l0_1.length c0_1) ∧ w'.cell? (ad217.add (((ji47)).toNat * 3)) = some (.string ((rd_T104 l0_1 (ji47)).f0)) ∧ w'.cell? ⟨(ad217.add (((ji47)).toNat * 3)).block, (ad217.add (((ji47)).toNat * 3)).off + 1, none⟩ = some (.string ((rd_T104 l0_1 (ji47)).f1)) ∧ w'.cell? ⟨(ad217.add (((ji47)).toNat * 3)).block, (ad217.add (((ji47)).toNat * 3)).off + 2, none⟩ = some (.int .i64 ((rd_T104 l0_1 (ji47)).f2))) (ds := []) #[false, false, false, false, false, false, false, false, false, false, false, false, false, false, false, false, false, false, false, false, false, false, false, false, false, false, false, false, false, false, false, false] B11x4_ rfl rfl ⟨(blk_cell BK218.out 0).trans rfl, (blk_cell BK218.out 1).trans rfl, (blk_cell BK218.out 2).trans rfl, (blk_cell BK211.out 0).trans rfl, (blk_cell BK211.out 1).trans rfl, ((HB.out.cell (World.block_lt_of_cell? w _ hw222_0)).trans hw222_0), ((HB.out.cell (World.block_lt_of_cell? w _ hw222_1)).trans hw222_1), ((HB.out.cell (World.block_lt_of_cell? w _ hw222_2)).trans hw222_2)⟩ (fun hHeld => ?_); refine with_tabW impl_KeepOk.tab12 impl_KeepOk.bits12 (fun HT_ HW_ => ?_)
                generalize w59.drew = w60 at BK211 BK218 HB hx222_0 hx222_1 hx222_2 hHeld ⊢
                refine pu_ 0 64 HT_ ?_
                refine ta_ 1 65 HT_ HW_ hHeld ?_
                refine one_ (i := 2) (N := some 66) #[true, true, true, false, false, false, false, false, false, false, false, false, false, false, false, false, false, false, false, false, false, false, false, false, false, false, false, false, false, false, false, false] rfl rfl (one_of HT_.out B11x4_) (by decide) (fun K hK => ?_)
                refine goes_ Try.func136 B11x4_ rfl #[.string ((rd_T104 l0_1 x59_2).f0)] (by rfl) rfl rfl B11x1_ ?_
                with_reducible refine (impl_keyOk.calls ((rd_T104 l0_1 x59_2).f0) true _ A40.out).mono ?_
                rintro e w' ⟨rfl, ⟨nd, rfl⟩⟩
                refine ⟨_, rfl, ?_⟩
                refine hK.out _ _ ⟨(blk_cell BK218.out 0).trans rfl, (blk_cell BK218.out 1).trans rfl, (blk_cell BK218.out 2).trans rfl, (blk_cell BK211.out 0).trans rfl, (blk_cell BK211.out 1).trans rfl, ((HB.out.cell (World.block_lt_of_cell? w _ hw222_0)).trans hw222_0), ((HB.out.cell (World.block_lt_of_cell? w _ hw222_1)).trans hw222_1), ((HB.out.cell (World.block_lt_of_cell? w _ hw222_2)).trans hw222_2)⟩ (fun hHeld => ?_)
                clear hK K
                refine norm_ (a' := ?_) ?_ ?_
                rotate_left
                ·show Act.put _ (some 66) _ = _
                 simp only [Act.put, List.setIfInBounds_toArray, List.set_cons_zero, List.set_cons_succ, i64_w, i32_w]
                 rfl
                refine pu_ 3 67 HT_ ?_
                refine pu_ 4 68 HT_ ?_
                refine pu_ 5 69 HT_ ?_
                refine ta_ 6 70 HT_ HW_ hHeld ?_
                refine one_ (i := 7) (N := some 71) #[true, true, true, true, true, true, true, true, false, false, false, false, false, false, false, false, false, false, false, false, false, false, false, false, false, false, false, false, false, false, false, false] rfl rfl (one_of HT_.out B11x4_) (by decide) (fun K hK => ?_)
                refine goes_ Try.func137 B11x4_ rfl #[.string ((rd_T104 l0_1 x59_2).f1)] (by rfl) rfl rfl B11x1_ ?_
                with_reducible refine (impl_valOk.calls ((rd_T104 l0_1 x59_2).f1) true _ A42.out).mono ?_
                rintro e w' ⟨rfl, ⟨nd, rfl⟩⟩
                refine ⟨_, rfl, ?_⟩
                refine hK.out _ _ ⟨(blk_cell BK218.out 0).trans rfl, (blk_cell BK218.out 1).trans rfl, (blk_cell BK218.out 2).trans rfl, (blk_cell BK211.out 0).trans rfl, (blk_cell BK211.out 1).trans rfl, ((HB.out.cell (World.block_lt_of_cell? w _ hw222_0)).trans hw222_0), ((HB.out.cell (World.block_lt_of_cell? w _ hw222_1)).trans hw222_1), ((HB.out.cell (World.block_lt_of_cell? w _ hw222_2)).trans hw222_2)⟩ (fun hHeld => ?_)
                clear hK K
                refine norm_ (a' := ?_) ?_ ?_
                rotate_left
                ·show Act.put _ (some 71) _ = _
                 simp only [Act.put, List.setIfInBounds_toArray, List.set_cons_zero, List.set_cons_succ, i64_w, i32_w]
                 rfl
                refine pu_ 8 72 HT_ ?_
                refine pu_ 9 73 HT_ ?_
                refine pu_ 10 74 HT_ ?_
                refine pu_ 11 75 HT_ ?_
                refine ta_ 12 76 HT_ HW_ hHeld ?_
                refine one_ (i := 13) (N := some 77) #[true, true, true, true, true, true, true, true, true, true, true, true, true, true, false, false, false, false, false, false, false, false, false, false, false, false, false, false, false, false, false, false] rfl rfl (one_of HT_.out B11x4_) (by decide) (fun K hK => ?_)
                refine goes_ Try.func68 B11x4_ rfl #[.int .i64 ((rd_T104 l0_1 x59_2).f2), .int .i64 1, .int .i64 1000000000] (by rfl) rfl rfl B11x1_ ?_
                with_reducible refine (impl_within.calls ((rd_T104 l0_1 x59_2).f2) 1 1000000000 true _ A44.out).mono ?_
                rintro e w' ⟨rfl, ⟨nd, rfl⟩⟩
                refine ⟨_, rfl, ?_⟩
                refine hK.out _ _ ⟨(blk_cell BK218.out 0).trans rfl, (blk_cell BK218.out 1).trans rfl, (blk_cell BK218.out 2).trans rfl, (blk_cell BK211.out 0).trans rfl, (blk_cell BK211.out 1).trans rfl, ((HB.out.cell (World.block_lt_of_cell? w _ hw222_0)).trans hw222_0), ((HB.out.cell (World.block_lt_of_cell? w _ hw222_1)).trans hw222_1), ((HB.out.cell (World.block_lt_of_cell? w _ hw222_2)).trans hw222_2)⟩ (fun hHeld => ?_)
                clear hK K
                refine norm_ (a' := ?_) ?_ ?_
                rotate_left
                ·show Act.put _ (some 77) _ = _
                 simp only [Act.put, List.setIfInBounds_toArray, List.set_cons_zero, List.set_cons_succ, i64_w, i32_w]
                 rfl
                refine pu_ 14 78 HT_ ?_
                refine pu_ 15 79 HT_ ?_
                refine pu_ 16 80 HT_ ?_
                refine pu_ 17 81 HT_ ?_
                refine pu_ 18 82 HT_ ?_
                refine pu_ 19 83 HT_ ?_
                refine pu_ 20 84 HT_ ?_
                refine pu_ 22 86 HT_ ?_
                refine pu_ 23 87 HT_ ?_
                refine pu_ 27 91 HT_ ?_
                refine ta_ 21 85 HT_ HW_ hHeld ?_
                refine pu_ 24 88 HT_ ?_
                refine pu_ 25 89 HT_ ?_
                refine ta_ 26 90 HT_ HW_ hHeld ?_
                refine ta_ 28 92 HT_ HW_ hHeld ?_
                refine pu_ 29 93 HT_ ?_
                refine pu_ 30 94 HT_ ?_
                refine pu_ 31 95 HT_ ?_
                refine done_ (done_of HT_.out B11x4_) ?_
                try go_wp2
                go_ret
                exact ⟨by first | rfl | (simp [errW_none, errW_some] <;> rfl) | (simp only [← hji47]; first | rfl | (simp [errW_none, errW_some] <;> rfl)) | (simp [*, errW_none, errW_some] <;> rfl), by repeat (first | (with_reducible first | exact HB.out | apply below_alloc | apply pw_below_drewN | apply below_drew1 | refine below_set ?_ GE211.out | refine below_set ?_ GE218.out) | exact HB.out)⟩
              ·rw [if_neg c49] at H
               exact absurd H (by simp)
             ·rw [if_neg c48] at H
              exact absurd H (by simp)
            ·rw [if_neg c46] at H
             have c46b0 : decide (0 < x59_2) = false := decide_eq_false c46
             clear c46
             have H' := Aside0.mk H
             clear H
             have p217 : 0 ≤ (x59_2 : Int) := of_decide_eq_true B11x3_
             have q217 : x59_2 < (l0_1.length : Int) := of_decide_eq_true B11x3_
             obtain ⟨ad217, e217, hx217_0, hx217_1, hx217_2⟩ := at_T104 HR0_1.out x59_2 p217 q217
             cases e217
             replace hx217_0 := (HB.out.cell (World.block_lt_of_cell? w _ hx217_0)).trans hx217_0
             replace hx217_1 := (HB.out.cell (World.block_lt_of_cell? w _ hx217_1)).trans hx217_1
             replace hx217_2 := (HB.out.cell (World.block_lt_of_cell? w _ hx217_2)).trans hx217_2
             replace p217 := eq_true p217
             replace q217 := eq_true q217
             try go_wp2_with (first | ((with_reducible refine gate_dst (N := 6) rfl ?_); (try (refine gate_guard (by rfl) ?_; dsimp only)); refine box_event ?hg (N := 6) ?hd (cs := #[.string (⟨#[]⟩ : ByteArray), .string (⟨#[]⟩ : ByteArray), .int .i64 0]) (t := 104) ?hr ?_; (case hd => rfl); (case hg => rfl); (case hr => first | (go_simp; done) | (go_simp; rfl)); intro gb218 hg w61 hbox hb; have n0_ := Aside0.mk (blk_below (g := gb211) (o := .cells #[.slice A0_0 l0_0.length c0_0, .slice (some ad217) l0_1.length c0_1] 37 (0, 0)) B11x2_ hb); have n1_ := Aside0.mk (below_step B11x0_ hb); have n2_ := Aside0.mk (hbox); have n3_ := Aside0.mk ((by rw [hg]; exact (below_size B11x0_) : w.heap.size ≤ gb218)); have n4_ := Aside0.mk ((by rw [hg]; exact (below_size B11x0_) : w.heap.size ≤ gb218)); have n5_ := Aside0.mk ((by rw [hg]; exact Nat.ne_of_lt (blk_lt (g := gb211) (o := .cells #[.slice A0_0 l0_0.length c0_0, .slice (some ad217) l0_1.length c0_1] 37 (0, 0)) B11x2_) : gb211 ≠ gb218)); have n6_ := Aside0.mk ((by rw [hg]; exact Nat.ne_of_gt (blk_lt (g := gb211) (o := .cells #[.slice A0_0 l0_0.length c0_0, .slice (some ad217) l0_1.length c0_1] 37 (0, 0)) B11x2_) : gb218 ≠ gb211)); clear BK211; clear HB; have BK211 := n0_; have HB := n1_; have BK218 := n2_; have GW218 := n3_; have GE218 := n4_; have NB211_218 := n5_; have NB218_211 := n6_; clear n0_ n1_ n2_ n3_ n4_ n5_ n6_; clear hb hbox hg; have hnb62 := NB218_211.out; have hnc62 := NB211_218.out; obtain ⟨hcz63_0, hcz63_1, hcz63_2⟩ := cl3 BK218.out; obtain ⟨hfz63_0, hfz63_1, hfz63_2⟩ := fr3 BK218.out))
             have n0_ : Aside0 ((((w61.setCell ⟨gb218, 0, none⟩ (.string ((rd_T104 l0_1 x59_2).f0))).setCell ⟨gb218, 1, none⟩ (.string ((rd_T104 l0_1 x59_2).f1))).setCell ⟨gb218, 2, none⟩ (.int .i64 ((rd_T104 l0_1 x59_2).f2))).heap[gb211]? = some (.cells #[.slice A0_0 l0_0.length c0_0, .slice (some ad217) l0_1.length c0_1] 37 (0, 0))) := ⟨by (with_reducible repeat (first | refine blk_drewN ?_ _ | refine blk_drew ?_ | refine blk_alloc ?_ _)); refine blk_far ?_ NB211_218.out _; (with_reducible repeat (first | refine blk_drewN ?_ _ | refine blk_drew ?_ | refine blk_alloc ?_ _)); refine blk_far ?_ NB211_218.out _; (with_reducible repeat (first | refine blk_drewN ?_ _ | refine blk_drew ?_ | refine blk_alloc ?_ _)); refine blk_far ?_ NB211_218.out _; (with_reducible repeat (first | refine blk_drewN ?_ _ | refine blk_drew ?_ | refine blk_alloc ?_ _)); exact BK211.out⟩
             have n1_ : Aside0 ((((w61.setCell ⟨gb218, 0, none⟩ (.string ((rd_T104 l0_1 x59_2).f0))).setCell ⟨gb218, 1, none⟩ (.string ((rd_T104 l0_1 x59_2).f1))).setCell ⟨gb218, 2, none⟩ (.int .i64 ((rd_T104 l0_1 x59_2).f2))).heap[gb218]? = some (.cells #[.string ((rd_T104 l0_1 x59_2).f0), .string ((rd_T104 l0_1 x59_2).f1), .int .i64 ((rd_T104 l0_1 x59_2).f2)] 104 (0, 0))) := ⟨by (with_reducible repeat (first | refine blk_drewN ?_ _ | refine blk_drew ?_ | refine blk_alloc ?_ _)); refine blk_put (cs := #[.string ((rd_T104 l0_1 x59_2).f0), .string ((rd_T104 l0_1 x59_2).f1), .int .i64 0]) ?_ 2 _ rfl; (with_reducible repeat (first | refine blk_drewN ?_ _ | refine blk_drew ?_ | refine blk_alloc ?_ _)); refine blk_put (cs := #[.string ((rd_T104 l0_1 x59_2).f0), .string (⟨#[]⟩ : ByteArray), .int .i64 0]) ?_ 1 _ rfl; (with_reducible repeat (first | refine blk_drewN ?_ _ | refine blk_drew ?_ | refine blk_alloc ?_ _)); refine blk_put (cs := #[.string (⟨#[]⟩ : ByteArray), .string (⟨#[]⟩ : ByteArray), .int .i64 0]) ?_ 0 _ rfl; (with_reducible repeat (first | refine blk_drewN ?_ _ | refine blk_drew ?_ | refine blk_alloc ?_ _)); exact BK218.out⟩
             have n2_ : Aside0 (Below w.heap.size w (((w61.setCell ⟨gb218, 0, none⟩ (.string ((rd_T104 l0_1 x59_2).f0))).setCell ⟨gb218, 1, none⟩ (.string ((rd_T104 l0_1 x59_2).f1))).setCell ⟨gb218, 2, none⟩ (.int .i64 ((rd_T104 l0_1 x59_2).f2)))) := ⟨by repeat (first | (with_reducible first | exact HB.out | apply below_alloc | apply pw_below_drewN | apply below_drew1 | refine below_set ?_ GE211.out | refine below_set ?_ GE218.out) | exact HB.out)⟩
             (try clear BK211)
             (try clear BK218)
             (try clear HB)
             generalize (((w61.setCell ⟨gb218, 0, none⟩ (.string ((rd_T104 l0_1 x59_2).f0))).setCell ⟨gb218, 1, none⟩ (.string ((rd_T104 l0_1 x59_2).f1))).setCell ⟨gb218, 2, none⟩ (.int .i64 ((rd_T104 l0_1 x59_2).f2))) = w64 at n0_ n1_ n2_ ⊢
             have BK211 := n0_
             have BK218 := n1_
             have HB := n2_
             clear n0_ n1_ n2_
             have n0_ := Aside0.mk (blk_drew BK211.out)
             have n1_ := Aside0.mk (blk_drew BK218.out)
             have n2_ := Aside0.mk (below_drew1 HB.out)
             clear BK211
             clear BK218
             clear HB
             have BK211 := n0_
             have BK218 := n1_
             have HB := n2_
             clear n0_ n1_ n2_
             refine start_ (n := 32) (S := fun w' => w'.cell? ⟨gb218, 0, none⟩ = some (.string ((rd_T104 l0_1 x59_2).f0)) ∧ w'.cell? ⟨gb218, 1, none⟩ = some (.string ((rd_T104 l0_1 x59_2).f1)) ∧ w'.cell? ⟨gb218, 2, none⟩ = some (.int .i64 ((rd_T104 l0_1 x59_2).f2))) (ds := []) #[false, false, false, false, false, false, false, false, false, false, false, false, false, false, false, false, false, false, false, false, false, false, false, false, false, false, false, false, false, false, false, false] B11x4_ rfl rfl ⟨(blk_cell BK218.out 0).trans rfl, (blk_cell BK218.out 1).trans rfl, (blk_cell BK218.out 2).trans rfl⟩ (fun hHeld => ?_); refine with_tabW impl_KeepOk.tab12 impl_KeepOk.bits12 (fun HT_ HW_ => ?_)
             generalize w64.drew = w65 at BK211 BK218 HB hHeld ⊢
             refine pu_ 0 64 HT_ ?_
             refine ta_ 1 65 HT_ HW_ hHeld ?_
             refine one_ (i := 2) (N := some 66) #[true, true, true, false, false, false, false, false, false, false, false, false, false, false, false, false, false, false, false, false, false, false, false, false, false, false, false, false, false, false, false, false] rfl rfl (one_of HT_.out B11x4_) (by decide) (fun K hK => ?_)
             refine goes_ Try.func136 B11x4_ rfl #[.string ((rd_T104 l0_1 x59_2).f0)] (by rfl) rfl rfl B11x1_ ?_
             with_reducible refine (impl_keyOk.calls ((rd_T104 l0_1 x59_2).f0) true _ A40.out).mono ?_
             rintro e w' ⟨rfl, ⟨nd, rfl⟩⟩
             refine ⟨_, rfl, ?_⟩
             refine hK.out _ _ ⟨(blk_cell BK218.out 0).trans rfl, (blk_cell BK218.out 1).trans rfl, (blk_cell BK218.out 2).trans rfl⟩ (fun hHeld => ?_)
             clear hK K
             refine norm_ (a' := ?_) ?_ ?_
             rotate_left
             ·show Act.put _ (some 66) _ = _
              simp only [Act.put, List.setIfInBounds_toArray, List.set_cons_zero, List.set_cons_succ, i64_w, i32_w]
              rfl
             refine pu_ 3 67 HT_ ?_
             refine pu_ 4 68 HT_ ?_
             refine pu_ 5 69 HT_ ?_
             refine ta_ 6 70 HT_ HW_ hHeld ?_
             refine one_ (i := 7) (N := some 71) #[true, true, true, true, true, true, true, true, false, false, false, false, false, false, false, false, false, false, false, false, false, false, false, false, false, false, false, false, false, false, false, false] rfl rfl (one_of HT_.out B11x4_) (by decide) (fun K hK => ?_)
             refine goes_ Try.func137 B11x4_ rfl #[.string ((rd_T104 l0_1 x59_2).f1)] (by rfl) rfl rfl B11x1_ ?_
             with_reducible refine (impl_valOk.calls ((rd_T104 l0_1 x59_2).f1) true _ A42.out).mono ?_
             rintro e w' ⟨rfl, ⟨nd, rfl⟩⟩
             refine ⟨_, rfl, ?_⟩
             refine hK.out _ _ ⟨(blk_cell BK218.out 0).trans rfl, (blk_cell BK218.out 1).trans rfl, (blk_cell BK218.out 2).trans rfl⟩ (fun hHeld => ?_)
             clear hK K
             refine norm_ (a' := ?_) ?_ ?_
             rotate_left
             ·show Act.put _ (some 71) _ = _
              simp only [Act.put, List.setIfInBounds_toArray, List.set_cons_zero, List.set_cons_succ, i64_w, i32_w]
              rfl
             refine pu_ 8 72 HT_ ?_
             refine pu_ 9 73 HT_ ?_
             refine pu_ 10 74 HT_ ?_
             refine pu_ 11 75 HT_ ?_
             refine ta_ 12 76 HT_ HW_ hHeld ?_
             refine one_ (i := 13) (N := some 77) #[true, true, true, true, true, true, true, true, true, true, true, true, true, true, false, false, false, false, false, false, false, false, false, false, false, false, false, false, false, false, false, false] rfl rfl (one_of HT_.out B11x4_) (by decide) (fun K hK => ?_)
             refine goes_ Try.func68 B11x4_ rfl #[.int .i64 ((rd_T104 l0_1 x59_2).f2), .int .i64 1, .int .i64 1000000000] (by rfl) rfl rfl B11x1_ ?_
             with_reducible refine (impl_within.calls ((rd_T104 l0_1 x59_2).f2) 1 1000000000 true _ A44.out).mono ?_
             rintro e w' ⟨rfl, ⟨nd, rfl⟩⟩
             refine ⟨_, rfl, ?_⟩
             refine hK.out _ _ ⟨(blk_cell BK218.out 0).trans rfl, (blk_cell BK218.out 1).trans rfl, (blk_cell BK218.out 2).trans rfl⟩ (fun hHeld => ?_)
             clear hK K
             refine norm_ (a' := ?_) ?_ ?_
             rotate_left
             ·show Act.put _ (some 77) _ = _
              simp only [Act.put, List.setIfInBounds_toArray, List.set_cons_zero, List.set_cons_succ, i64_w, i32_w]
              rfl
             refine pu_ 14 78 HT_ ?_
             refine pu_ 15 79 HT_ ?_
             refine pu_ 16 80 HT_ ?_
             refine pu_ 17 81 HT_ ?_
             refine pu_ 18 82 HT_ ?_
             refine pu_ 19 83 HT_ ?_
             refine of_ 20 84 HT_ ?_
             refine of_ 21 85 HT_ ?_
             refine of_ 22 86 HT_ ?_
             refine of_ 23 87 HT_ ?_
             refine of_ 24 88 HT_ ?_
             refine of_ 25 89 HT_ ?_
             refine of_ 26 90 HT_ ?_
             refine of_ 27 91 HT_ ?_
             refine of_ 28 92 HT_ ?_
             refine of_ 29 93 HT_ ?_
             refine pu_ 30 94 HT_ ?_
             refine pu_ 31 95 HT_ ?_
             refine done_ (done_of HT_.out B11x4_) ?_
             try go_wp2
             go_roundg k2
             case measure => have := HK1.out; have := HK2.out; omega
             case rel => exact ⟨(wrap64 (x59_2 + 1)), (be_), H', ⟨by have := HK1.out; have := HK2.out; omega⟩, ⟨by (with_reducible repeat (first | refine blk_drewN ?_ _ | refine blk_drew ?_ | refine blk_alloc ?_ _)); exact BK211.out⟩, ⟨by repeat (first | (with_reducible first | exact HB.out | apply below_alloc | apply pw_below_drewN | apply below_drew1 | refine below_set ?_ GE211.out | refine below_set ?_ GE218.out) | exact HB.out)⟩⟩
           ·replace c45 := Bool.eq_false_iff.mpr c45
            subst c45
            rw [if_neg (show ¬ (false = true) by decide)] at H
            obtain rfl := Option.some.inj H
            have p217 : 0 ≤ (x59_2 : Int) := of_decide_eq_true B11x3_
            have q217 : x59_2 < (l0_1.length : Int) := of_decide_eq_true B11x3_
            obtain ⟨ad217, e217, hx217_0, hx217_1, hx217_2⟩ := at_T104 HR0_1.out x59_2 p217 q217
            cases e217
            replace hx217_0 := (HB.out.cell (World.block_lt_of_cell? w _ hx217_0)).trans hx217_0
            replace hx217_1 := (HB.out.cell (World.block_lt_of_cell? w _ hx217_1)).trans hx217_1
            replace hx217_2 := (HB.out.cell (World.block_lt_of_cell? w _ hx217_2)).trans hx217_2
            replace p217 := eq_true p217
            replace q217 := eq_true q217
            try go_wp2_with (first | ((with_reducible refine gate_dst (N := 6) rfl ?_); (try (refine gate_guard (by rfl) ?_; dsimp only)); refine box_event ?hg (N := 6) ?hd (cs := #[.string (⟨#[]⟩ : ByteArray), .string (⟨#[]⟩ : ByteArray), .int .i64 0]) (t := 104) ?hr ?_; (case hd => rfl); (case hg => rfl); (case hr => first | (go_simp; done) | (go_simp; rfl)); intro gb218 hg w66 hbox hb; have n0_ := Aside0.mk (blk_below (g := gb211) (o := .cells #[.slice A0_0 l0_0.length c0_0, .slice (some ad217) l0_1.length c0_1] 37 (0, 0)) B11x2_ hb); have n1_ := Aside0.mk (below_step B11x0_ hb); have n2_ := Aside0.mk (hbox); have n3_ := Aside0.mk ((by rw [hg]; exact (below_size B11x0_) : w.heap.size ≤ gb218)); have n4_ := Aside0.mk ((by rw [hg]; exact (below_size B11x0_) : w.heap.size ≤ gb218)); have n5_ := Aside0.mk ((by rw [hg]; exact Nat.ne_of_lt (blk_lt (g := gb211) (o := .cells #[.slice A0_0 l0_0.length c0_0, .slice (some ad217) l0_1.length c0_1] 37 (0, 0)) B11x2_) : gb211 ≠ gb218)); have n6_ := Aside0.mk ((by rw [hg]; exact Nat.ne_of_gt (blk_lt (g := gb211) (o := .cells #[.slice A0_0 l0_0.length c0_0, .slice (some ad217) l0_1.length c0_1] 37 (0, 0)) B11x2_) : gb218 ≠ gb211)); clear BK211; clear HB; have BK211 := n0_; have HB := n1_; have BK218 := n2_; have GW218 := n3_; have GE218 := n4_; have NB211_218 := n5_; have NB218_211 := n6_; clear n0_ n1_ n2_ n3_ n4_ n5_ n6_; clear hb hbox hg; have hnb67 := NB218_211.out; have hnc67 := NB211_218.out; obtain ⟨hcz68_0, hcz68_1, hcz68_2⟩ := cl3 BK218.out; obtain ⟨hfz68_0, hfz68_1, hfz68_2⟩ := fr3 BK218.out))
            have n0_ : Aside0 ((((w66.setCell ⟨gb218, 0, none⟩ (.string ((rd_T104 l0_1 x59_2).f0))).setCell ⟨gb218, 1, none⟩ (.string ((rd_T104 l0_1 x59_2).f1))).setCell ⟨gb218, 2, none⟩ (.int .i64 ((rd_T104 l0_1 x59_2).f2))).heap[gb211]? = some (.cells #[.slice A0_0 l0_0.length c0_0, .slice (some ad217) l0_1.length c0_1] 37 (0, 0))) := ⟨by (with_reducible repeat (first | refine blk_drewN ?_ _ | refine blk_drew ?_ | refine blk_alloc ?_ _)); refine blk_far ?_ NB211_218.out _; (with_reducible repeat (first | refine blk_drewN ?_ _ | refine blk_drew ?_ | refine blk_alloc ?_ _)); refine blk_far ?_ NB211_218.out _; (with_reducible repeat (first | refine blk_drewN ?_ _ | refine blk_drew ?_ | refine blk_alloc ?_ _)); refine blk_far ?_ NB211_218.out _; (with_reducible repeat (first | refine blk_drewN ?_ _ | refine blk_drew ?_ | refine blk_alloc ?_ _)); exact BK211.out⟩
            have n1_ : Aside0 ((((w66.setCell ⟨gb218, 0, none⟩ (.string ((rd_T104 l0_1 x59_2).f0))).setCell ⟨gb218, 1, none⟩ (.string ((rd_T104 l0_1 x59_2).f1))).setCell ⟨gb218, 2, none⟩ (.int .i64 ((rd_T104 l0_1 x59_2).f2))).heap[gb218]? = some (.cells #[.string ((rd_T104 l0_1 x59_2).f0), .string ((rd_T104 l0_1 x59_2).f1), .int .i64 ((rd_T104 l0_1 x59_2).f2)] 104 (0, 0))) := ⟨by (with_reducible repeat (first | refine blk_drewN ?_ _ | refine blk_drew ?_ | refine blk_alloc ?_ _)); refine blk_put (cs := #[.string ((rd_T104 l0_1 x59_2).f0), .string ((rd_T104 l0_1 x59_2).f1), .int .i64 0]) ?_ 2 _ rfl; (with_reducible repeat (first | refine blk_drewN ?_ _ | refine blk_drew ?_ | refine blk_alloc ?_ _)); refine blk_put (cs := #[.string ((rd_T104 l0_1 x59_2).f0), .string (⟨#[]⟩ : ByteArray), .int .i64 0]) ?_ 1 _ rfl; (with_reducible repeat (first | refine blk_drewN ?_ _ | refine blk_drew ?_ | refine blk_alloc ?_ _)); refine blk_put (cs := #[.string (⟨#[]⟩ : ByteArray), .string (⟨#[]⟩ : ByteArray), .int .i64 0]) ?_ 0 _ rfl; (with_reducible repeat (first | refine blk_drewN ?_ _ | refine blk_drew ?_ | refine blk_alloc ?_ _)); exact BK218.out⟩
            have n2_ : Aside0 (Below w.heap.size w (((w66.setCell ⟨gb218, 0, none⟩ (.string ((rd_T104 l0_1 x59_2).f0))).setCell ⟨gb218, 1, none⟩ (.string ((rd_T104 l0_1 x59_2).f1))).setCell ⟨gb218, 2, none⟩ (.int .i64 ((rd_T104 l0_1 x59_2).f2)))) := ⟨by repeat (first | (with_reducible first | exact HB.out | apply below_alloc | apply pw_below_drewN | apply below_drew1 | refine below_set ?_ GE211.out | refine below_set ?_ GE218.out) | exact HB.out)⟩
            (try clear BK211)
            (try clear BK218)
            (try clear HB)
            generalize (((w66.setCell ⟨gb218, 0, none⟩ (.string ((rd_T104 l0_1 x59_2).f0))).setCell ⟨gb218, 1, none⟩ (.string ((rd_T104 l0_1 x59_2).f1))).setCell ⟨gb218, 2, none⟩ (.int .i64 ((rd_T104 l0_1 x59_2).f2))) = w69 at n0_ n1_ n2_ ⊢
            have BK211 := n0_
            have BK218 := n1_
            have HB := n2_
            clear n0_ n1_ n2_
            have n0_ := Aside0.mk (blk_drew BK211.out)
            have n1_ := Aside0.mk (blk_drew BK218.out)
            have n2_ := Aside0.mk (below_drew1 HB.out)
            clear BK211
            clear BK218
            clear HB
            have BK211 := n0_
            have BK218 := n1_
            have HB := n2_
            clear n0_ n1_ n2_
            refine start_ (n := 32) (S := fun w' => w'.cell? ⟨gb218, 0, none⟩ = some (.string ((rd_T104 l0_1 x59_2).f0)) ∧ w'.cell? ⟨gb218, 1, none⟩ = some (.string ((rd_T104 l0_1 x59_2).f1)) ∧ w'.cell? ⟨gb218, 2, none⟩ = some (.int .i64 ((rd_T104 l0_1 x59_2).f2))) (ds := []) #[false, false, false, false, false, false, false, false, false, false, false, false, false, false, false, false, false, false, false, false, false, false, false, false, false, false, false, false, false, false, false, false] B11x4_ rfl rfl ⟨(blk_cell BK218.out 0).trans rfl, (blk_cell BK218.out 1).trans rfl, (blk_cell BK218.out 2).trans rfl⟩ (fun hHeld => ?_); refine with_tabW impl_KeepOk.tab12 impl_KeepOk.bits12 (fun HT_ HW_ => ?_)
            generalize w69.drew = w70 at BK211 BK218 HB hHeld ⊢
            refine pu_ 0 64 HT_ ?_
            refine ta_ 1 65 HT_ HW_ hHeld ?_
            refine one_ (i := 2) (N := some 66) #[true, true, true, false, false, false, false, false, false, false, false, false, false, false, false, false, false, false, false, false, false, false, false, false, false, false, false, false, false, false, false, false] rfl rfl (one_of HT_.out B11x4_) (by decide) (fun K hK => ?_)
            refine goes_ Try.func136 B11x4_ rfl #[.string ((rd_T104 l0_1 x59_2).f0)] (by rfl) rfl rfl B11x1_ ?_
            with_reducible refine (impl_keyOk.calls ((rd_T104 l0_1 x59_2).f0) true _ A40.out).mono ?_
            rintro e w' ⟨rfl, ⟨nd, rfl⟩⟩
            refine ⟨_, rfl, ?_⟩
            refine hK.out _ _ ⟨(blk_cell BK218.out 0).trans rfl, (blk_cell BK218.out 1).trans rfl, (blk_cell BK218.out 2).trans rfl⟩ (fun hHeld => ?_)
            clear hK K
            refine norm_ (a' := ?_) ?_ ?_
            rotate_left
            ·show Act.put _ (some 66) _ = _
             simp only [Act.put, List.setIfInBounds_toArray, List.set_cons_zero, List.set_cons_succ, i64_w, i32_w]
             rfl
            refine pu_ 3 67 HT_ ?_
            refine pu_ 4 68 HT_ ?_
            refine pu_ 5 69 HT_ ?_
            refine ta_ 6 70 HT_ HW_ hHeld ?_
            refine one_ (i := 7) (N := some 71) #[true, true, true, true, true, true, true, true, false, false, false, false, false, false, false, false, false, false, false, false, false, false, false, false, false, false, false, false, false, false, false, false] rfl rfl (one_of HT_.out B11x4_) (by decide) (fun K hK => ?_)
            refine goes_ Try.func137 B11x4_ rfl #[.string ((rd_T104 l0_1 x59_2).f1)] (by rfl) rfl rfl B11x1_ ?_
            with_reducible refine (impl_valOk.calls ((rd_T104 l0_1 x59_2).f1) true _ A42.out).mono ?_
            rintro e w' ⟨rfl, ⟨nd, rfl⟩⟩
            refine ⟨_, rfl, ?_⟩
            refine hK.out _ _ ⟨(blk_cell BK218.out 0).trans rfl, (blk_cell BK218.out 1).trans rfl, (blk_cell BK218.out 2).trans rfl⟩ (fun hHeld => ?_)
            clear hK K
            refine norm_ (a' := ?_) ?_ ?_
            rotate_left
            ·show Act.put _ (some 71) _ = _
             simp only [Act.put, List.setIfInBounds_toArray, List.set_cons_zero, List.set_cons_succ, i64_w, i32_w]
             rfl
            refine pu_ 8 72 HT_ ?_
            refine pu_ 9 73 HT_ ?_
            refine pu_ 10 74 HT_ ?_
            refine pu_ 11 75 HT_ ?_
            refine ta_ 12 76 HT_ HW_ hHeld ?_
            refine one_ (i := 13) (N := some 77) #[true, true, true, true, true, true, true, true, true, true, true, true, true, true, false, false, false, false, false, false, false, false, false, false, false, false, false, false, false, false, false, false] rfl rfl (one_of HT_.out B11x4_) (by decide) (fun K hK => ?_)
            refine goes_ Try.func68 B11x4_ rfl #[.int .i64 ((rd_T104 l0_1 x59_2).f2), .int .i64 1, .int .i64 1000000000] (by rfl) rfl rfl B11x1_ ?_
            with_reducible refine (impl_within.calls ((rd_T104 l0_1 x59_2).f2) 1 1000000000 false _ A44.out).mono ?_
            rintro e w' ⟨rfl, ⟨nd, rfl⟩⟩
            refine ⟨_, rfl, ?_⟩
            refine hK.out _ _ ⟨(blk_cell BK218.out 0).trans rfl, (blk_cell BK218.out 1).trans rfl, (blk_cell BK218.out 2).trans rfl⟩ (fun hHeld => ?_)
            clear hK K
            refine norm_ (a' := ?_) ?_ ?_
            rotate_left
            ·show Act.put _ (some 77) _ = _
             simp only [Act.put, List.setIfInBounds_toArray, List.set_cons_zero, List.set_cons_succ, i64_w, i32_w]
             rfl
            refine pu_ 14 78 HT_ ?_
            refine pu_ 15 79 HT_ ?_
            refine pu_ 16 80 HT_ ?_
            refine of_ 17 81 HT_ ?_
            refine of_ 18 82 HT_ ?_
            refine of_ 19 83 HT_ ?_
            refine of_ 20 84 HT_ ?_
            refine of_ 21 85 HT_ ?_
            refine of_ 22 86 HT_ ?_
            refine of_ 23 87 HT_ ?_
            refine of_ 24 88 HT_ ?_
            refine of_ 25 89 HT_ ?_
            refine of_ 26 90 HT_ ?_
            refine of_ 27 91 HT_ ?_
            refine of_ 28 92 HT_ ?_
            refine of_ 29 93 HT_ ?_
            refine of_ 30 94 HT_ ?_
            refine pu_ 31 95 HT_ ?_
            refine done_ (done_of HT_.out B11x4_) ?_
            try go_wp2
            go_ret
            exact ⟨by first | rfl | (simp [errW_none, errW_some] <;> rfl) | (simp [*, errW_none, errW_some] <;> rfl), by repeat (first | (with_reducible first | exact HB.out | apply below_alloc | apply pw_below_drewN | apply below_drew1 | refine below_set ?_ GE211.out | refine below_set ?_ GE218.out) | exact HB.out)⟩
          ·replace c43 := Bool.eq_false_iff.mpr c43
           subst c43
           rw [if_neg (show ¬ (false = true) by decide)] at H
           obtain rfl := Option.some.inj H
           have p217 : 0 ≤ (x59_2 : Int) := of_decide_eq_true B11x3_
           have q217 : x59_2 < (l0_1.length : Int) := of_decide_eq_true B11x3_
           obtain ⟨ad217, e217, hx217_0, hx217_1, hx217_2⟩ := at_T104 HR0_1.out x59_2 p217 q217
           cases e217
           replace hx217_0 := (HB.out.cell (World.block_lt_of_cell? w _ hx217_0)).trans hx217_0
           replace hx217_1 := (HB.out.cell (World.block_lt_of_cell? w _ hx217_1)).trans hx217_1
           replace hx217_2 := (HB.out.cell (World.block_lt_of_cell? w _ hx217_2)).trans hx217_2
           replace p217 := eq_true p217
           replace q217 := eq_true q217
           try go_wp2_with (first | ((with_reducible refine gate_dst (N := 6) rfl ?_); (try (refine gate_guard (by rfl) ?_; dsimp only)); refine box_event ?hg (N := 6) ?hd (cs := #[.string (⟨#[]⟩ : ByteArray), .string (⟨#[]⟩ : ByteArray), .int .i64 0]) (t := 104) ?hr ?_; (case hd => rfl); (case hg => rfl); (case hr => first | (go_simp; done) | (go_simp; rfl)); intro gb218 hg w71 hbox hb; have n0_ := Aside0.mk (blk_below (g := gb211) (o := .cells #[.slice A0_0 l0_0.length c0_0, .slice (some ad217) l0_1.length c0_1] 37 (0, 0)) B11x2_ hb); have n1_ := Aside0.mk (below_step B11x0_ hb); have n2_ := Aside0.mk (hbox); have n3_ := Aside0.mk ((by rw [hg]; exact (below_size B11x0_) : w.heap.size ≤ gb218)); have n4_ := Aside0.mk ((by rw [hg]; exact (below_size B11x0_) : w.heap.size ≤ gb218)); have n5_ := Aside0.mk ((by rw [hg]; exact Nat.ne_of_lt (blk_lt (g := gb211) (o := .cells #[.slice A0_0 l0_0.length c0_0, .slice (some ad217) l0_1.length c0_1] 37 (0, 0)) B11x2_) : gb211 ≠ gb218)); have n6_ := Aside0.mk ((by rw [hg]; exact Nat.ne_of_gt (blk_lt (g := gb211) (o := .cells #[.slice A0_0 l0_0.length c0_0, .slice (some ad217) l0_1.length c0_1] 37 (0, 0)) B11x2_) : gb218 ≠ gb211)); clear BK211; clear HB; have BK211 := n0_; have HB := n1_; have BK218 := n2_; have GW218 := n3_; have GE218 := n4_; have NB211_218 := n5_; have NB218_211 := n6_; clear n0_ n1_ n2_ n3_ n4_ n5_ n6_; clear hb hbox hg; have hnb72 := NB218_211.out; have hnc72 := NB211_218.out; obtain ⟨hcz73_0, hcz73_1, hcz73_2⟩ := cl3 BK218.out; obtain ⟨hfz73_0, hfz73_1, hfz73_2⟩ := fr3 BK218.out))
           have n0_ : Aside0 ((((w71.setCell ⟨gb218, 0, none⟩ (.string ((rd_T104 l0_1 x59_2).f0))).setCell ⟨gb218, 1, none⟩ (.string ((rd_T104 l0_1 x59_2).f1))).setCell ⟨gb218, 2, none⟩ (.int .i64 ((rd_T104 l0_1 x59_2).f2))).heap[gb211]? = some (.cells #[.slice A0_0 l0_0.length c0_0, .slice (some ad217) l0_1.length c0_1] 37 (0, 0))) := ⟨by (with_reducible repeat (first | refine blk_drewN ?_ _ | refine blk_drew ?_ | refine blk_alloc ?_ _)); refine blk_far ?_ NB211_218.out _; (with_reducible repeat (first | refine blk_drewN ?_ _ | refine blk_drew ?_ | refine blk_alloc ?_ _)); refine blk_far ?_ NB211_218.out _; (with_reducible repeat (first | refine blk_drewN ?_ _ | refine blk_drew ?_ | refine blk_alloc ?_ _)); refine blk_far ?_ NB211_218.out _; (with_reducible repeat (first | refine blk_drewN ?_ _ | refine blk_drew ?_ | refine blk_alloc ?_ _)); exact BK211.out⟩
           have n1_ : Aside0 ((((w71.setCell ⟨gb218, 0, none⟩ (.string ((rd_T104 l0_1 x59_2).f0))).setCell ⟨gb218, 1, none⟩ (.string ((rd_T104 l0_1 x59_2).f1))).setCell ⟨gb218, 2, none⟩ (.int .i64 ((rd_T104 l0_1 x59_2).f2))).heap[gb218]? = some (.cells #[.string ((rd_T104 l0_1 x59_2).f0), .string ((rd_T104 l0_1 x59_2).f1), .int .i64 ((rd_T104 l0_1 x59_2).f2)] 104 (0, 0))) := ⟨by (with_reducible repeat (first | refine blk_drewN ?_ _ | refine blk_drew ?_ | refine blk_alloc ?_ _)); refine blk_put (cs := #[.string ((rd_T104 l0_1 x59_2).f0), .string ((rd_T104 l0_1 x59_2).f1), .int .i64 0]) ?_ 2 _ rfl; (with_reducible repeat (first | refine blk_drewN ?_ _ | refine blk_drew ?_ | refine blk_alloc ?_ _)); refine blk_put (cs := #[.string ((rd_T104 l0_1 x59_2).f0), .string (⟨#[]⟩ : ByteArray), .int .i64 0]) ?_ 1 _ rfl; (with_reducible repeat (first | refine blk_drewN ?_ _ | refine blk_drew ?_ | refine blk_alloc ?_ _)); refine blk_put (cs := #[.string (⟨#[]⟩ : ByteArray), .string (⟨#[]⟩ : ByteArray), .int .i64 0]) ?_ 0 _ rfl; (with_reducible repeat (first | refine blk_drewN ?_ _ | refine blk_drew ?_ | refine blk_alloc ?_ _)); exact BK218.out⟩
           have n2_ : Aside0 (Below w.heap.size w (((w71.setCell ⟨gb218, 0, none⟩ (.string ((rd_T104 l0_1 x59_2).f0))).setCell ⟨gb218, 1, none⟩ (.string ((rd_T104 l0_1 x59_2).f1))).setCell ⟨gb218, 2, none⟩ (.int .i64 ((rd_T104 l0_1 x59_2).f2)))) := ⟨by repeat (first | (with_reducible first | exact HB.out | apply below_alloc | apply pw_below_drewN | apply below_drew1 | refine below_set ?_ GE211.out | refine below_set ?_ GE218.out) | exact HB.out)⟩
           (try clear BK211)
           (try clear BK218)
           (try clear HB)
           generalize (((w71.setCell ⟨gb218, 0, none⟩ (.string ((rd_T104 l0_1 x59_2).f0))).setCell ⟨gb218, 1, none⟩ (.string ((rd_T104 l0_1 x59_2).f1))).setCell ⟨gb218, 2, none⟩ (.int .i64 ((rd_T104 l0_1 x59_2).f2))) = w74 at n0_ n1_ n2_ ⊢
           have BK211 := n0_
           have BK218 := n1_
           have HB := n2_
           clear n0_ n1_ n2_
           have n0_ := Aside0.mk (blk_drew BK211.out)
           have n1_ := Aside0.mk (blk_drew BK218.out)
           have n2_ := Aside0.mk (below_drew1 HB.out)
           clear BK211
           clear BK218
           clear HB
           have BK211 := n0_
           have BK218 := n1_
           have HB := n2_
           clear n0_ n1_ n2_
           refine start_ (n := 32) (S := fun w' => w'.cell? ⟨gb218, 0, none⟩ = some (.string ((rd_T104 l0_1 x59_2).f0)) ∧ w'.cell? ⟨gb218, 1, none⟩ = some (.string ((rd_T104 l0_1 x59_2).f1)) ∧ w'.cell? ⟨gb218, 2, none⟩ = some (.int .i64 ((rd_T104 l0_1 x59_2).f2))) (ds := []) #[false, false, false, false, false, false, false, false, false, false, false, false, false, false, false, false, false, false, false, false, false, false, false, false, false, false, false, false, false, false, false, false] B11x4_ rfl rfl ⟨(blk_cell BK218.out 0).trans rfl, (blk_cell BK218.out 1).trans rfl, (blk_cell BK218.out 2).trans rfl⟩ (fun hHeld => ?_); refine with_tabW impl_KeepOk.tab12 impl_KeepOk.bits12 (fun HT_ HW_ => ?_)
           generalize w74.drew = w75 at BK211 BK218 HB hHeld ⊢
           refine pu_ 0 64 HT_ ?_
           refine ta_ 1 65 HT_ HW_ hHeld ?_
           refine one_ (i := 2) (N := some 66) #[true, true, true, false, false, false, false, false, false, false, false, false, false, false, false, false, false, false, false, false, false, false, false, false, false, false, false, false, false, false, false, false] rfl rfl (one_of HT_.out B11x4_) (by decide) (fun K hK => ?_)
           refine goes_ Try.func136 B11x4_ rfl #[.string ((rd_T104 l0_1 x59_2).f0)] (by rfl) rfl rfl B11x1_ ?_
           with_reducible refine (impl_keyOk.calls ((rd_T104 l0_1 x59_2).f0) true _ A40.out).mono ?_
           rintro e w' ⟨rfl, ⟨nd, rfl⟩⟩
           refine ⟨_, rfl, ?_⟩
           refine hK.out _ _ ⟨(blk_cell BK218.out 0).trans rfl, (blk_cell BK218.out 1).trans rfl, (blk_cell BK218.out 2).trans rfl⟩ (fun hHeld => ?_)
           clear hK K
           refine norm_ (a' := ?_) ?_ ?_
           rotate_left
           ·show Act.put _ (some 66) _ = _
            simp only [Act.put, List.setIfInBounds_toArray, List.set_cons_zero, List.set_cons_succ, i64_w, i32_w]
            rfl
           refine pu_ 3 67 HT_ ?_
           refine pu_ 4 68 HT_ ?_
           refine pu_ 5 69 HT_ ?_
           refine ta_ 6 70 HT_ HW_ hHeld ?_
           refine one_ (i := 7) (N := some 71) #[true, true, true, true, true, true, true, true, false, false, false, false, false, false, false, false, false, false, false, false, false, false, false, false, false, false, false, false, false, false, false, false] rfl rfl (one_of HT_.out B11x4_) (by decide) (fun K hK => ?_)
           refine goes_ Try.func137 B11x4_ rfl #[.string ((rd_T104 l0_1 x59_2).f1)] (by rfl) rfl rfl B11x1_ ?_
           with_reducible refine (impl_valOk.calls ((rd_T104 l0_1 x59_2).f1) false _ A42.out).mono ?_
           rintro e w' ⟨rfl, ⟨nd, rfl⟩⟩
           refine ⟨_, rfl, ?_⟩
           refine hK.out _ _ ⟨(blk_cell BK218.out 0).trans rfl, (blk_cell BK218.out 1).trans rfl, (blk_cell BK218.out 2).trans rfl⟩ (fun hHeld => ?_)
           clear hK K
           refine norm_ (a' := ?_) ?_ ?_
           rotate_left
           ·show Act.put _ (some 71) _ = _
            simp only [Act.put, List.setIfInBounds_toArray, List.set_cons_zero, List.set_cons_succ, i64_w, i32_w]
            rfl
           refine pu_ 8 72 HT_ ?_
           refine pu_ 9 73 HT_ ?_
           refine pu_ 10 74 HT_ ?_
           refine of_ 11 75 HT_ ?_
           refine of_ 12 76 HT_ ?_
           refine of_ 13 77 HT_ ?_
           refine of_ 14 78 HT_ ?_
           refine pu_ 15 79 HT_ ?_
           refine pu_ 16 80 HT_ ?_
           refine of_ 17 81 HT_ ?_
           refine of_ 18 82 HT_ ?_
           refine of_ 19 83 HT_ ?_
           refine of_ 20 84 HT_ ?_
           refine of_ 21 85 HT_ ?_
           refine of_ 22 86 HT_ ?_
           refine of_ 23 87 HT_ ?_
           refine of_ 24 88 HT_ ?_
           refine of_ 25 89 HT_ ?_
           refine of_ 26 90 HT_ ?_
           refine of_ 27 91 HT_ ?_
           refine of_ 28 92 HT_ ?_
           refine of_ 29 93 HT_ ?_
           refine of_ 30 94 HT_ ?_
           refine pu_ 31 95 HT_ ?_
           refine done_ (done_of HT_.out B11x4_) ?_
           try go_wp2
           go_ret
           exact ⟨by first | rfl | (simp [errW_none, errW_some] <;> rfl) | (simp [*, errW_none, errW_some] <;> rfl), by repeat (first | (with_reducible first | exact HB.out | apply below_alloc | apply pw_below_drewN | apply below_drew1 | refine below_set ?_ GE211.out | refine below_set ?_ GE218.out) | exact HB.out)⟩
         ·replace c41 := Bool.eq_false_iff.mpr c41
          subst c41
          rw [if_neg (show ¬ (false = true) by decide)] at H
          obtain rfl := Option.some.inj H
          have p217 : 0 ≤ (x59_2 : Int) := of_decide_eq_true B11x3_
          have q217 : x59_2 < (l0_1.length : Int) := of_decide_eq_true B11x3_
          obtain ⟨ad217, e217, hx217_0, hx217_1, hx217_2⟩ := at_T104 HR0_1.out x59_2 p217 q217
          cases e217
          replace hx217_0 := (HB.out.cell (World.block_lt_of_cell? w _ hx217_0)).trans hx217_0
          replace hx217_1 := (HB.out.cell (World.block_lt_of_cell? w _ hx217_1)).trans hx217_1
          replace hx217_2 := (HB.out.cell (World.block_lt_of_cell? w _ hx217_2)).trans hx217_2
          replace p217 := eq_true p217
          replace q217 := eq_true q217
          try go_wp2_with (first | ((with_reducible refine gate_dst (N := 6) rfl ?_); (try (refine gate_guard (by rfl) ?_; dsimp only)); refine box_event ?hg (N := 6) ?hd (cs := #[.string (⟨#[]⟩ : ByteArray), .string (⟨#[]⟩ : ByteArray), .int .i64 0]) (t := 104) ?hr ?_; (case hd => rfl); (case hg => rfl); (case hr => first | (go_simp; done) | (go_simp; rfl)); intro gb218 hg w76 hbox hb; have n0_ := Aside0.mk (blk_below (g := gb211) (o := .cells #[.slice A0_0 l0_0.length c0_0, .slice (some ad217) l0_1.length c0_1] 37 (0, 0)) B11x2_ hb); have n1_ := Aside0.mk (below_step B11x0_ hb); have n2_ := Aside0.mk (hbox); have n3_ := Aside0.mk ((by rw [hg]; exact (below_size B11x0_) : w.heap.size ≤ gb218)); have n4_ := Aside0.mk ((by rw [hg]; exact (below_size B11x0_) : w.heap.size ≤ gb218)); have n5_ := Aside0.mk ((by rw [hg]; exact Nat.ne_of_lt (blk_lt (g := gb211) (o := .cells #[.slice A0_0 l0_0.length c0_0, .slice (some ad217) l0_1.length c0_1] 37 (0, 0)) B11x2_) : gb211 ≠ gb218)); have n6_ := Aside0.mk ((by rw [hg]; exact Nat.ne_of_gt (blk_lt (g := gb211) (o := .cells #[.slice A0_0 l0_0.length c0_0, .slice (some ad217) l0_1.length c0_1] 37 (0, 0)) B11x2_) : gb218 ≠ gb211)); clear BK211; clear HB; have BK211 := n0_; have HB := n1_; have BK218 := n2_; have GW218 := n3_; have GE218 := n4_; have NB211_218 := n5_; have NB218_211 := n6_; clear n0_ n1_ n2_ n3_ n4_ n5_ n6_; clear hb hbox hg; have hnb77 := NB218_211.out; have hnc77 := NB211_218.out; obtain ⟨hcz78_0, hcz78_1, hcz78_2⟩ := cl3 BK218.out; obtain ⟨hfz78_0, hfz78_1, hfz78_2⟩ := fr3 BK218.out))
          have n0_ : Aside0 ((((w76.setCell ⟨gb218, 0, none⟩ (.string ((rd_T104 l0_1 x59_2).f0))).setCell ⟨gb218, 1, none⟩ (.string ((rd_T104 l0_1 x59_2).f1))).setCell ⟨gb218, 2, none⟩ (.int .i64 ((rd_T104 l0_1 x59_2).f2))).heap[gb211]? = some (.cells #[.slice A0_0 l0_0.length c0_0, .slice (some ad217) l0_1.length c0_1] 37 (0, 0))) := ⟨by (with_reducible repeat (first | refine blk_drewN ?_ _ | refine blk_drew ?_ | refine blk_alloc ?_ _)); refine blk_far ?_ NB211_218.out _; (with_reducible repeat (first | refine blk_drewN ?_ _ | refine blk_drew ?_ | refine blk_alloc ?_ _)); refine blk_far ?_ NB211_218.out _; (with_reducible repeat (first | refine blk_drewN ?_ _ | refine blk_drew ?_ | refine blk_alloc ?_ _)); refine blk_far ?_ NB211_218.out _; (with_reducible repeat (first | refine blk_drewN ?_ _ | refine blk_drew ?_ | refine blk_alloc ?_ _)); exact BK211.out⟩
          have n1_ : Aside0 ((((w76.setCell ⟨gb218, 0, none⟩ (.string ((rd_T104 l0_1 x59_2).f0))).setCell ⟨gb218, 1, none⟩ (.string ((rd_T104 l0_1 x59_2).f1))).setCell ⟨gb218, 2, none⟩ (.int .i64 ((rd_T104 l0_1 x59_2).f2))).heap[gb218]? = some (.cells #[.string ((rd_T104 l0_1 x59_2).f0), .string ((rd_T104 l0_1 x59_2).f1), .int .i64 ((rd_T104 l0_1 x59_2).f2)] 104 (0, 0))) := ⟨by (with_reducible repeat (first | refine blk_drewN ?_ _ | refine blk_drew ?_ | refine blk_alloc ?_ _)); refine blk_put (cs := #[.string ((rd_T104 l0_1 x59_2).f0), .string ((rd_T104 l0_1 x59_2).f1), .int .i64 0]) ?_ 2 _ rfl; (with_reducible repeat (first | refine blk_drewN ?_ _ | refine blk_drew ?_ | refine blk_alloc ?_ _)); refine blk_put (cs := #[.string ((rd_T104 l0_1 x59_2).f0), .string (⟨#[]⟩ : ByteArray), .int .i64 0]) ?_ 1 _ rfl; (with_reducible repeat (first | refine blk_drewN ?_ _ | refine blk_drew ?_ | refine blk_alloc ?_ _)); refine blk_put (cs := #[.string (⟨#[]⟩ : ByteArray), .string (⟨#[]⟩ : ByteArray), .int .i64 0]) ?_ 0 _ rfl; (with_reducible repeat (first | refine blk_drewN ?_ _ | refine blk_drew ?_ | refine blk_alloc ?_ _)); exact BK218.out⟩
          have n2_ : Aside0 (Below w.heap.size w (((w76.setCell ⟨gb218, 0, none⟩ (.string ((rd_T104 l0_1 x59_2).f0))).setCell ⟨gb218, 1, none⟩ (.string ((rd_T104 l0_1 x59_2).f1))).setCell ⟨gb218, 2, none⟩ (.int .i64 ((rd_T104 l0_1 x59_2).f2)))) := ⟨by repeat (first | (with_reducible first | exact HB.out | apply below_alloc | apply pw_below_drewN | apply below_drew1 | refine below_set ?_ GE211.out | refine below_set ?_ GE218.out) | exact HB.out)⟩
          (try clear BK211)
          (try clear BK218)
          (try clear HB)
          generalize (((w76.setCell ⟨gb218, 0, none⟩ (.string ((rd_T104 l0_1 x59_2).f0))).setCell ⟨gb218, 1, none⟩ (.string ((rd_T104 l0_1 x59_2).f1))).setCell ⟨gb218, 2, none⟩ (.int .i64 ((rd_T104 l0_1 x59_2).f2))) = w79 at n0_ n1_ n2_ ⊢
          have BK211 := n0_
          have BK218 := n1_
          have HB := n2_
          clear n0_ n1_ n2_
          have n0_ := Aside0.mk (blk_drew BK211.out)
          have n1_ := Aside0.mk (blk_drew BK218.out)
          have n2_ := Aside0.mk (below_drew1 HB.out)
          clear BK211
          clear BK218
          clear HB
          have BK211 := n0_
          have BK218 := n1_
          have HB := n2_
          clear n0_ n1_ n2_
          refine start_ (n := 32) (S := fun w' => w'.cell? ⟨gb218, 0, none⟩ = some (.string ((rd_T104 l0_1 x59_2).f0)) ∧ w'.cell? ⟨gb218, 1, none⟩ = some (.string ((rd_T104 l0_1 x59_2).f1)) ∧ w'.cell? ⟨gb218, 2, none⟩ = some (.int .i64 ((rd_T104 l0_1 x59_2).f2))) (ds := []) #[false, false, false, false, false, false, false, false, false, false, false, false, false, false, false, false, false, false, false, false, false, false, false, false, false, false, false, false, false, false, false, false] B11x4_ rfl rfl ⟨(blk_cell BK218.out 0).trans rfl, (blk_cell BK218.out 1).trans rfl, (blk_cell BK218.out 2).trans rfl⟩ (fun hHeld => ?_); refine with_tabW impl_KeepOk.tab12 impl_KeepOk.bits12 (fun HT_ HW_ => ?_)
          generalize w79.drew = w80 at BK211 BK218 HB hHeld ⊢
          refine pu_ 0 64 HT_ ?_
          refine ta_ 1 65 HT_ HW_ hHeld ?_
          refine one_ (i := 2) (N := some 66) #[true, true, true, false, false, false, false, false, false, false, false, false, false, false, false, false, false, false, false, false, false, false, false, false, false, false, false, false, false, false, false, false] rfl rfl (one_of HT_.out B11x4_) (by decide) (fun K hK => ?_)
          refine goes_ Try.func136 B11x4_ rfl #[.string ((rd_T104 l0_1 x59_2).f0)] (by rfl) rfl rfl B11x1_ ?_
          with_reducible refine (impl_keyOk.calls ((rd_T104 l0_1 x59_2).f0) false _ A40.out).mono ?_
          rintro e w' ⟨rfl, ⟨nd, rfl⟩⟩
          refine ⟨_, rfl, ?_⟩
          refine hK.out _ _ ⟨(blk_cell BK218.out 0).trans rfl, (blk_cell BK218.out 1).trans rfl, (blk_cell BK218.out 2).trans rfl⟩ (fun hHeld => ?_)
          clear hK K
          refine norm_ (a' := ?_) ?_ ?_
          rotate_left
          ·show Act.put _ (some 66) _ = _
           simp only [Act.put, List.setIfInBounds_toArray, List.set_cons_zero, List.set_cons_succ, i64_w, i32_w]
           rfl
          refine pu_ 3 67 HT_ ?_
          refine pu_ 4 68 HT_ ?_
          refine of_ 5 69 HT_ ?_
          refine of_ 6 70 HT_ ?_
          refine of_ 7 71 HT_ ?_
          refine of_ 8 72 HT_ ?_
          refine pu_ 9 73 HT_ ?_
          refine pu_ 10 74 HT_ ?_
          refine of_ 11 75 HT_ ?_
          refine of_ 12 76 HT_ ?_
          refine of_ 13 77 HT_ ?_
          refine of_ 14 78 HT_ ?_
          refine pu_ 15 79 HT_ ?_
          refine pu_ 16 80 HT_ ?_
          refine of_ 17 81 HT_ ?_
          refine of_ 18 82 HT_ ?_
          refine of_ 19 83 HT_ ?_
          refine of_ 20 84 HT_ ?_
          refine of_ 21 85 HT_ ?_
          refine of_ 22 86 HT_ ?_
          refine of_ 23 87 HT_ ?_
          refine of_ 24 88 HT_ ?_
          refine of_ 25 89 HT_ ?_
          refine of_ 26 90 HT_ ?_
          refine of_ 27 91 HT_ ?_
          refine of_ 28 92 HT_ ?_
          refine of_ 29 93 HT_ ?_
          refine of_ 30 94 HT_ ?_
          refine pu_ 31 95 HT_ ?_
          refine done_ (done_of HT_.out B11x4_) ?_
          try go_wp2
          go_ret
          exact ⟨by first | rfl | (simp [errW_none, errW_some] <;> rfl) | (simp [*, errW_none, errW_some] <;> rfl), by repeat (first | (with_reducible first | exact HB.out | apply below_alloc | apply pw_below_drewN | apply below_drew1 | refine below_set ?_ GE211.out | refine below_set ?_ GE218.out) | exact HB.out)⟩
        ·exact absurd H (by exfalso; (try have h0_ := of_decide_eq_true c37b0); (try have g0_ := c37); omega)
       ·rw [if_neg c38] at H
        exact absurd H (by simp)
      ·rw [if_neg c37] at H
       have c37b0 : decide (x59_2 < (l0_1.length : Int)) = false := decide_eq_false c37
       clear c37
       by_cases c81 : (l0_0.length : Int) ≤ 3
       ·rw [if_pos c81] at H
        have c81b0 : decide ((l0_0.length : Int) ≤ 3) = true := decide_eq_true c81
        have c81b1 : decide (l0_0.length ≤ 3) = true := decide_eq_true (by omega)
        clear c81
        obtain rfl := Option.some.inj H
        obtain ⟨hcz82_0, hcz82_1⟩ := cl2 BK211.out
        obtain ⟨hfz82_0, hfz82_1⟩ := fr2 BK211.out
        go_wp2
        go_ret
        exact ⟨by first | rfl | (simp [errW_none, errW_some] <;> rfl) | (simp [*, errW_none, errW_some] <;> rfl), by repeat (first | (with_reducible first | exact HB.out | apply below_alloc | apply pw_below_drewN | apply below_drew1 | refine below_set ?_ GE211.out) | exact HB.out)⟩
       ·rw [if_neg c81] at H
        have c81b0 : decide ((l0_0.length : Int) ≤ 3) = false := decide_eq_false c81
        have c81b1 : decide (l0_0.length ≤ 3) = false := decide_eq_false (by omega)
        clear c81
        obtain rfl := Option.some.inj H
        obtain ⟨hcz83_0, hcz83_1⟩ := cl2 BK211.out
        obtain ⟨hfz83_0, hfz83_1⟩ := fr2 BK211.out
        go_wp2
        go_ret
        exact ⟨by first | rfl | (simp [errW_none, errW_some] <;> rfl) | (simp [*, errW_none, errW_some] <;> rfl), by repeat (first | (with_reducible first | exact HB.out | apply below_alloc | apply pw_below_drewN | apply below_drew1 | refine below_set ?_ GE211.out) | exact HB.out)⟩

end Go.Proofs.Ythgjcijcmacpmaa.QFnExactReadKeep
