/- Functions that a law reaches, as functions of Lean, and the walks that show that the calls come to their answers: written by a program of this project out of the translation. No condition. -/
import Derived.Test.YthgjcijcmacpmaaQFnExactReadKeepx0
import Derived.Test.YthgjcijcmacpmaaQFnExactReadKeepx3
import Derived.Test.YthgjcijcmacpmaaQFnExactReadKeepx4
import Derived.Test.YthgjcijcmacpmaaVFnExactReadKeephort3
import Derived.Test.YthgjcijcmacpmaaVFnExactReadKeepShort2
import Derived.Test.YthgjcijcmacpmaaVFnExactReadKeepShort
namespace Go.Proofs.Ythgjcijcmacpmaa.QFnExactReadKeep
open Go.RowKit Go.Proofs.YthgjcijcmacpmaaW.PrintWords Go.Proofs.YthgjcijcmacpmaaW.PrintLast Go.Proofs.YthgjcijcmacpmaaW.PrintMore Go.Proofs.Ythgjcijcmacpmaa.Short
attribute [local go_sem] max2_int min2_int max_two min_two max_three min_three max_four min_four   -- for this text's walks alone
set_option linter.unusedVariables false
set_option linter.unusedSimpArgs false

theorem B5x0_ {p : Prop} (h : p := by (with_reducible repeat (first | refine blk_drewN ?_ _ | refine blk_drew ?_ | refine blk_alloc ?_ _)); exact BK125.out) : p := h
theorem B5x1_ {p : Prop} (h : p := by repeat (first | (with_reducible first | exact HB.out | apply below_alloc | apply pw_below_drewN | apply below_drew1 | refine below_set ?_ GE125.out) | exact HB.out)) : p := h
theorem B5x2_ {p : Prop} (h : p := by (try simp only [List.map_toArray, List.map_cons, List.map_nil]); first | done | rfl | (simp only [List.length_drop, List.length_take]; rfl)) : p := h
theorem B5x3_ {p : Prop} (h : p := by repeat (first | (with_reducible first | exact HB.out | apply below_alloc | apply pw_below_drewN | apply below_drew1) | exact HB.out)) : p := h
theorem B5x4_ {p : Prop} (h : p := by repeat (first | (with_reducible first | exact HB.out | apply below_alloc | apply pw_below_drewN | apply below_drew1 | refine below_set ?_ GE125.out | refine below_set ?_ GE129.out) | exact HB.out)) : p := h
theorem B5x5_ {p : Prop} (h : p := by repeat (first | (with_reducible first | exact HB.out | apply below_alloc | apply pw_below_drewN | apply below_drew1 | refine below_set ?_ GE125.out | refine below_set ?_ GE135.out) | exact HB.out)) : p := h
theorem B5x6_ {p : Prop} (h : p := by (with_reducible repeat (first | refine blk_drewN ?_ _ | refine blk_drew ?_ | refine blk_alloc ?_ _)); exact BK129.out) : p := h
theorem B5x7_ {p : Prop} (h : p := by (with_reducible repeat (first | refine blk_drewN ?_ _ | refine blk_drew ?_ | refine blk_alloc ?_ _)); exact BK135.out) : p := h
theorem B5x8_ {p : Prop} (h : p := by kernel_rfl) : p := h
theorem B5x9_ {p : Prop} (h : p := by first | (with_reducible assumption) | assumption) : p := h
/-! ### spec_KeepText: function 23 -/
mutual
def spec_KeepText.l0 : Nat → ByteArray → Int → List (S101) → List (S104) → Option (ByteArray × Bool)
 | 0, _, _, _, _ => none
 | k + 1, x4, x5, x126000, x126001 => if x5 < (x126000.length : Int) then (if 0 ≤ x5 then ((spec_l01Var.f k ((rd_T101 x126000 x5).f0)).bind fun t130 => (if x4.size + t130.size ≤ 9223372036854775807 then ((spec_l01Var.f k ((rd_T101 x126000 x5).f1)).bind fun t131 => (if (x4 ++ t130).size + t131.size ≤ 9223372036854775807 then ((spec_l16Short.f k ((rd_T101 x126000 x5).f2)).bind fun t132 => (if ((x4 ++ t130) ++ t131).size + t132.size ≤ 9223372036854775807 then (spec_KeepText.l0 k (((x4 ++ t130) ++ t131) ++ t132) (wrap64 (x5 + 1)) x126000 x126001) else (none))) else (none))) else (none))) else (none)) else ((spec_l01Var.f k (x126001.length : Int)).bind fun t133 => (if x4.size + t133.size ≤ 9223372036854775807 then (spec_KeepText.l1 k (x4 ++ t133) 0 x126000 x126001) else (none)))
def spec_KeepText.l1 : Nat → ByteArray → Int → List (S101) → List (S104) → Option (ByteArray × Bool)
 | 0, _, _, _, _ => none
 | k + 1, x4, x7, x126000, x126001 => if x7 < (x126001.length : Int) then (if 0 ≤ x7 then ((spec_l16Short.f k ((rd_T104 x126001 x7).f0)).bind fun t136 => (if x4.size + t136.size ≤ 9223372036854775807 then ((spec_l16Short.f k ((rd_T104 x126001 x7).f1)).bind fun t137 => (if (x4 ++ t136).size + t137.size ≤ 9223372036854775807 then ((spec_l01Var.f k ((rd_T104 x126001 x7).f2)).bind fun t138 => (if ((x4 ++ t136) ++ t137).size + t138.size ≤ 9223372036854775807 then (spec_KeepText.l1 k (((x4 ++ t136) ++ t137) ++ t138) (wrap64 (x7 + 1)) x126000 x126001) else (none))) else (none))) else (none))) else (none)) else (some (x4, true))
end
def spec_KeepText.f (k : Nat) (l0_0 : List (S101)) (l0_1 : List (S104)) : Option (ByteArray × Bool) := (spec_KeepOk.f k l0_0 l0_1).bind fun t126 => (if t126 = true then ((spec_l01Var.f k (l0_0.length : Int)).bind fun t127 => (spec_KeepText.l0 k t127 0 l0_0 l0_1)) else (some ((⟨#[]⟩ : ByteArray), false)))
theorem spec_KeepText.mono_l : ∀ k, (∀ y0 y1 y2 y3, LeO (spec_KeepText.l0 k y0 y1 y2 y3) (spec_KeepText.l0 (k + 1) y0 y1 y2 y3)) ∧ (∀ y0 y1 y2 y3, LeO (spec_KeepText.l1 k y0 y1 y2 y3) (spec_KeepText.l1 (k + 1) y0 y1 y2 y3))
 | 0 => ⟨fun _ _ _ _ r h => by simp [spec_KeepText.l0] at h, fun _ _ _ _ r h => by simp [spec_KeepText.l1] at h⟩
 | k + 1 => by
  obtain ⟨ih0, ih1⟩ := spec_KeepText.mono_l k
  refine ⟨?_, ?_⟩
  ·intro y0 y1 y2 y3
   unfold spec_KeepText.l0
   repeat' first
   | (with_reducible exact ih0 _ _ _ _)
   | (with_reducible exact ih1 _ _ _ _)
   | (with_reducible exact spec_KeepOk.mono _ _ _)
   | (with_reducible exact spec_l01Var.mono _ _)
   | (with_reducible exact spec_l16Short.mono _ _)
   | (with_reducible exact LeO.refl _)
   | (with_reducible exact LeO.none _)
   | (with_reducible refine LeO.ite ?_ ?_)
   | (with_reducible refine LeO.bind ?_ (fun _ => ?_))
   | exact ih0 _ _ _ _
   | exact ih1 _ _ _ _
   | exact spec_KeepOk.mono _ _ _
   | exact spec_l01Var.mono _ _
   | exact spec_l16Short.mono _ _
   | exact LeO.none _
   | refine LeO.ite ?_ ?_
   | refine LeO.bind ?_ (fun _ => ?_)
  ·intro y0 y1 y2 y3
   unfold spec_KeepText.l1
   repeat' first
   | (with_reducible exact ih0 _ _ _ _)
   | (with_reducible exact ih1 _ _ _ _)
   | (with_reducible exact spec_KeepOk.mono _ _ _)
   | (with_reducible exact spec_l01Var.mono _ _)
   | (with_reducible exact spec_l16Short.mono _ _)
   | (with_reducible exact LeO.refl _)
   | (with_reducible exact LeO.none _)
   | (with_reducible refine LeO.ite ?_ ?_)
   | (with_reducible refine LeO.bind ?_ (fun _ => ?_))
   | exact ih0 _ _ _ _
   | exact ih1 _ _ _ _
   | exact spec_KeepOk.mono _ _ _
   | exact spec_l01Var.mono _ _
   | exact spec_l16Short.mono _ _
   | exact LeO.none _
   | refine LeO.ite ?_ ?_
   | refine LeO.bind ?_ (fun _ => ?_)
theorem spec_KeepText.mono : ∀ a0 a1 k, LeO (spec_KeepText.f k a0 a1) (spec_KeepText.f (k + 1) a0 a1) := by
 intro a0 a1 k
 obtain ⟨ih0, ih1⟩ := spec_KeepText.mono_l k
 unfold spec_KeepText.f
 repeat' first
   | (with_reducible exact ih0 _ _ _ _)
   | (with_reducible exact ih1 _ _ _ _)
   | (with_reducible exact spec_KeepOk.mono _ _ _)
   | (with_reducible exact spec_l01Var.mono _ _)
   | (with_reducible exact spec_l16Short.mono _ _)
   | (with_reducible exact LeO.refl _)
   | (with_reducible exact LeO.none _)
   | (with_reducible refine LeO.ite ?_ ?_)
   | (with_reducible refine LeO.bind ?_ (fun _ => ?_))
   | exact ih0 _ _ _ _
   | exact ih1 _ _ _ _
   | exact spec_KeepOk.mono _ _ _
   | exact spec_l01Var.mono _ _
   | exact spec_l16Short.mono _ _
   | exact LeO.none _
   | refine LeO.ite ?_ ?_
   | refine LeO.bind ?_ (fun _ => ?_)
def spec_KeepText.T8 : Bool × List (List Nat × List Nat) := (true, [([], []), ([], []), ([1], [1]), ([2], [2]), ([0, 3], [0, 3]), ([], []), ([5], [5]), ([6, 3], [6]), ([4, 7], [4, 7]), ([], []), ([9], [9]), ([10, 7], [10]), ([8, 11], [8, 11]), ([12, 11, 0, 1, 2, 3, 4, 5, 6, 7, 8, 9, 10, 11, 12], [0, 12])])
def spec_KeepText.B8 : List Nat := [0, 0, 2, 6, 15, 0, 32, 110, 255, 0, 512, 1774, 4095, 8191]
theorem spec_KeepText.tab8 : rtab .any (opsOf Try.f23 8) = spec_KeepText.T8 := by kernel_rfl
theorem spec_KeepText.bits8 : waitsOk spec_KeepText.T8.2 spec_KeepText.B8 = true := by kernel_rfl
def spec_KeepText.T14 : Bool × List (List Nat × List Nat) := (true, [([], []), ([], []), ([1], [1]), ([2], [2]), ([0, 3], [0, 3]), ([], []), ([5], [5]), ([6, 3], [6]), ([4, 7], [4, 7]), ([], []), ([9], [9]), ([10, 7], [10]), ([8, 11], [8, 11]), ([12, 11, 0, 1, 2, 3, 4, 5, 6, 7, 8, 9, 10, 11, 12], [0, 12])])
def spec_KeepText.B14 : List Nat := [0, 0, 2, 6, 15, 0, 32, 110, 255, 0, 512, 1774, 4095, 8191]
theorem spec_KeepText.tab14 : rtab .any (opsOf Try.f23 14) = spec_KeepText.T14 := by kernel_rfl
theorem spec_KeepText.bits14 : waitsOk spec_KeepText.T14.2 spec_KeepText.B14 = true := by kernel_rfl
set_option maxHeartbeats 8000000 in
set_option maxRecDepth 100000 in
theorem spec_KeepText.calls (k : Nat) (A0_0 : Option Addr) (c0_0 : Nat) (l0_0 : List (S101)) (A0_1 : Option Addr) (c0_1 : Nat) (l0_1 : List (S104)) (r1 : ByteArray) (r2 : Bool) (w : World) (hr0_0 : Kd.C k101 w A0_0 l0_0.length l0_0) (hc0_0 : l0_0.length ≤ c0_0) (hr0_1 : Kd.C k104 w A0_1 l0_1.length l0_1) (hc0_1 : l0_1.length ≤ c0_1) (h : spec_KeepText.f k l0_0 l0_1 = some (r1, r2)) :
  Calls Try.prog 23 #[.agg #[.slice A0_0 l0_0.length c0_0, .slice A0_1 l0_1.length c0_1]] w fun e w' => e = .returned (.tuple #[.string r1, .bool r2]) ∧ Below w.heap.size w w' := by
 have hu37 := Try.underlying37
 have hu101 := Try.underlying101
 have hu104 := Try.underlying104
 have HR0_0 := Aside0.mk hr0_0
 have HC0_0 := Aside0.mk hc0_0
 clear hr0_0 hc0_0
 have HR0_1 := Aside0.mk hr0_1
 have HC0_1 := Aside0.mk hc0_1
 clear hr0_1 hc0_1
 have HB := Aside0.mk (Below.refl w.heap.size w)
 have H : ((spec_KeepOk.f k l0_0 l0_1).bind fun t126 => (if t126 = true then ((spec_l01Var.f k (l0_0.length : Int)).bind fun t127 => (spec_KeepText.l0 k t127 0 l0_0 l0_1)) else (some ((⟨#[]⟩ : ByteArray), false)))) = some (r1, r2) := h
 clear h
 replace H := Option.bind_eq_some_iff.mp H
 obtain ⟨t126, A20, H⟩ := H
 (try dsimp only at H)
 have A2 := Aside0.mk A20
 clear A20
 by_cases c3 : t126 = true
 ·subst c3
  rw [if_pos rfl] at H
  replace H := Option.bind_eq_some_iff.mp H
  obtain ⟨t127, A40, H⟩ := H
  (try dsimp only at H)
  have A4 := Aside0.mk A40
  clear A40
  have H' := Aside0.mk H
  clear H
  go_enter Try.func23, Try.ntmps23
  go_wp2_with (first | ((with_reducible refine gate_dst (N := 1) rfl ?_); refine box_event ?hg (N := 1) ?hd (cs := #[.slice A0_0 l0_0.length c0_0, .slice A0_1 l0_1.length c0_1]) (t := 37) ?hr ?_; (case hd => rfl); (case hg => rfl); (case hr => first | (go_simp; done) | (go_simp; rfl)); intro gb125 hg w5 hbox hb; have n0_ := Aside0.mk (below_step B5x3_ hb); have n1_ := Aside0.mk (hbox); have n2_ := Aside0.mk ((by rw [hg]; exact (below_size B5x3_) : w.heap.size ≤ gb125)); have n3_ := Aside0.mk ((by rw [hg]; exact (below_size B5x3_) : w.heap.size ≤ gb125)); clear HB; have HB := n0_; have BK125 := n1_; have GW125 := n2_; have GE125 := n3_; clear n0_ n1_ n2_ n3_; clear hb hbox hg; obtain ⟨hcz6_0, hcz6_1⟩ := cl2 BK125.out; obtain ⟨hfz6_0, hfz6_1⟩ := fr2 BK125.out) | ((with_reducible refine gate_callee (f := 54) rfl ?_); refine goesL_ (some 10) rfl rfl Try.func54 B5x8_ rfl #[.agg #[.slice A0_0 l0_0.length c0_0, .slice A0_1 l0_1.length c0_1]] rfl B5x2_ ?_; (with_reducible refine (spec_KeepOk.calls k _ _ l0_0 _ _ l0_1 true _ ?side1 ?side2 ?side3 ?side4 A2.out).mono ?_); (case side1 => repeat (first | exact (Kd.C_below HR0_0.out HB.out) | (with_reducible refine Kd.C_alloc ?_ _) | (with_reducible refine Kd.C_drewN ?_ _) | (with_reducible refine Kd.C_drew ?_))); (case side2 => exact HC0_0.out); (case side3 => repeat (first | exact (Kd.C_below HR0_1.out HB.out) | (with_reducible refine Kd.C_alloc ?_ _) | (with_reducible refine Kd.C_drewN ?_ _) | (with_reducible refine Kd.C_drew ?_))); (case side4 => exact HC0_1.out); rintro e w7 ⟨rfl, hb⟩; refine ⟨_, rfl, ?_⟩; have n0_ := Aside0.mk (blk_below (g := gb125) (o := .cells #[.slice A0_0 l0_0.length c0_0, .slice A0_1 l0_1.length c0_1] 37 (0, 0)) B5x0_ hb); have n1_ := Aside0.mk (below_step B5x1_ hb); clear BK125; clear HB; have BK125 := n0_; have HB := n1_; clear n0_ n1_; (try clear hb); (try clear hb2); (try clear hk); (try clear hi); obtain ⟨hcz8_0, hcz8_1⟩ := cl2 BK125.out; obtain ⟨hfz8_0, hfz8_1⟩ := fr2 BK125.out) | ((with_reducible refine gate_callee (f := 92) rfl ?_); refine goesL_ (some 15) rfl rfl Try.func92 B5x8_ rfl #[.int .i64 (l0_0.length : Int)] rfl B5x2_ ?_; (with_reducible refine (spec_l01Var.calls k (l0_0.length : Int) t127 _ A4.out).mono ?_); rintro e w9 ⟨rfl, hb⟩; refine ⟨_, rfl, ?_⟩; have n0_ := Aside0.mk (blk_below (g := gb125) (o := .cells #[.slice A0_0 l0_0.length c0_0, .slice A0_1 l0_1.length c0_1] 37 (0, 0)) B5x0_ hb); have n1_ := Aside0.mk (below_step B5x1_ hb); clear BK125; clear HB; have BK125 := n0_; have HB := n1_; clear n0_ n1_; (try clear hb); (try clear hb2); (try clear hk); (try clear hi)))
  go_loopg [4, 5] k (fun kq v4 v5 w' => ∃ (x4_1 : ByteArray) (x5_1 : Int), v4 = .string x4_1 ∧ v5 = .int .i64 x5_1 ∧ Aside0 (spec_KeepText.l0 kq x4_1 x5_1 l0_0 l0_1 = some (r1, r2)) ∧ Aside0 (kq ≤ k) ∧ Aside0 (w'.heap[gb125]? = some (.cells #[(.slice A0_0 l0_0.length c0_0), (.slice A0_1 l0_1.length c0_1)] 37 (0, 0))) ∧ Aside0 (Below w.heap.size w w'))
  case atStart => exact ⟨(t127), (0), (be_), (be_), H', ⟨Nat.le_refl _⟩, ⟨by (with_reducible repeat (first | refine blk_drewN ?_ _ | refine blk_drew ?_ | refine blk_alloc ?_ _)); exact BK125.out⟩, ⟨by repeat (first | (with_reducible first | exact HB.out | apply below_alloc | apply pw_below_drewN | apply below_drew1 | refine below_set ?_ GE125.out) | exact HB.out)⟩⟩
  case round =>
   clear H'
   try clear c2
   try clear p2
   try clear c3
   try clear c5
   try clear c9
   try clear hcz6_0
   try clear hcz6_1
   try clear hcz8_0
   try clear hcz8_1
   try clear hfz6_0
   try clear hfz6_1
   try clear hfz8_0
   try clear hfz8_1
   obtain ⟨x4_1, x5_1, rfl, rfl, HA, HK1, BK125, HB⟩ := hrel
   cases gk with
   | zero => exact absurd HA.out (by simp [spec_KeepText.l0])
   | succ k1 =>
    have H := HA.out
    clear HA
    simp only [spec_KeepText.l0] at H
    by_cases c10 : x5_1 < (l0_0.length : Int)
    ·rw [if_pos c10] at H
     have c10b0 : decide (x5_1 < (l0_0.length : Int)) = true := decide_eq_true c10
     clear c10
     by_cases c11 : 0 ≤ x5_1
     ·rw [if_pos c11] at H
      have c11b0 : decide (0 ≤ x5_1) = true := decide_eq_true c11
      clear c11
      replace H := Option.bind_eq_some_iff.mp H
      obtain ⟨t130, A120, H⟩ := H
      (try dsimp only at H)
      have A12 := Aside0.mk A120
      clear A120
      by_cases c13 : x4_1.size + t130.size ≤ 9223372036854775807
      ·rw [if_pos c13] at H
       have c13b0 := eq_true c13
       have c13b1 : decide (x4_1.size + t130.size ≤ 9223372036854775807) = true := decide_eq_true c13
       try have c13b2 : (9223372036854775807 < x4_1.size + t130.size) = False := eq_false (Nat.not_lt.2 c13)
       try (have c13b9 := c13b2; simp only [ByteArray.size_append] at c13b9)
       replace H := Option.bind_eq_some_iff.mp H
       obtain ⟨t131, A140, H⟩ := H
       (try dsimp only at H)
       have A14 := Aside0.mk A140
       clear A140
       by_cases c15 : (x4_1 ++ t130).size + t131.size ≤ 9223372036854775807
       ·rw [if_pos c15] at H
        have c15b0 := eq_true c15
        have c15b1 : decide ((x4_1 ++ t130).size + t131.size ≤ 9223372036854775807) = true := decide_eq_true c15
        try have c15b2 : (9223372036854775807 < (x4_1 ++ t130).size + t131.size) = False := eq_false (Nat.not_lt.2 c15)
        try have c15b8 : (9223372036854775807 < x4_1.size + t130.size + t131.size) = False := eq_false (by have h_ := c15; simp only [ByteArray.size_append, ByteArray.size_extract, decide_eq_true_eq, decide_eq_false_iff_not] at *; omega)
        try (have c15b9 := c15b2; simp only [ByteArray.size_append] at c15b9)
        replace H := Option.bind_eq_some_iff.mp H
        obtain ⟨t132, A160, H⟩ := H
        (try dsimp only at H)
        have A16 := Aside0.mk A160
        clear A160
        by_cases c17 : ((x4_1 ++ t130) ++ t131).size + t132.size ≤ 9223372036854775807
        ·rw [if_pos c17] at H
         have c17b0 := eq_true c17
         have c17b1 : decide (((x4_1 ++ t130) ++ t131).size + t132.size ≤ 9223372036854775807) = true := decide_eq_true c17
         try have c17b2 : (9223372036854775807 < ((x4_1 ++ t130) ++ t131).size + t132.size) = False := eq_false (Nat.not_lt.2 c17)
         try have c17b8 : (9223372036854775807 < x4_1.size + t130.size + t131.size + t132.size) = False := eq_false (by have h_ := c17; simp only [ByteArray.size_append, ByteArray.size_extract, decide_eq_true_eq, decide_eq_false_iff_not] at *; omega)
         try (have c17b9 := c17b2; simp only [ByteArray.size_append] at c17b9)
         have H' := Aside0.mk H
         clear H
         obtain ⟨hcz18_0, hcz18_1⟩ := cl2 BK125.out
         obtain ⟨hfz18_0, hfz18_1⟩ := fr2 BK125.out
         have p128 : 0 ≤ (x5_1 : Int) := of_decide_eq_true B5x9_
         have q128 : x5_1 < (l0_0.length : Int) := of_decide_eq_true B5x9_
         obtain ⟨ad128, e128, hx128_0, hx128_1, hx128_2⟩ := at_T101 HR0_0.out x5_1 p128 q128
         cases e128
         replace hx128_0 := (HB.out.cell (World.block_lt_of_cell? w _ hx128_0)).trans hx128_0
         replace hx128_1 := (HB.out.cell (World.block_lt_of_cell? w _ hx128_1)).trans hx128_1
         replace hx128_2 := (HB.out.cell (World.block_lt_of_cell? w _ hx128_2)).trans hx128_2
         replace p128 := eq_true p128
         replace q128 := eq_true q128
         try go_wp2_with (first | ((with_reducible refine gate_dst (N := 6) rfl ?_); refine box_event ?hg (N := 6) ?hd (cs := #[.int .i64 0, .int .i64 0, .string (⟨#[]⟩ : ByteArray)]) (t := 101) ?hr ?_; (case hd => rfl); (case hg => rfl); (case hr => first | (go_simp; done) | (go_simp; rfl)); intro gb129 hg w19 hbox hb; have n0_ := Aside0.mk (blk_below (g := gb125) (o := .cells #[.slice (some ad128) l0_0.length c0_0, .slice A0_1 l0_1.length c0_1] 37 (0, 0)) B5x0_ hb); have n1_ := Aside0.mk (below_step B5x1_ hb); have n2_ := Aside0.mk (hbox); have n3_ := Aside0.mk ((by rw [hg]; exact (below_size B5x1_) : w.heap.size ≤ gb129)); have n4_ := Aside0.mk ((by rw [hg]; exact (below_size B5x1_) : w.heap.size ≤ gb129)); have n5_ := Aside0.mk ((by rw [hg]; exact Nat.ne_of_lt (blk_lt (g := gb125) (o := .cells #[.slice (some ad128) l0_0.length c0_0, .slice A0_1 l0_1.length c0_1] 37 (0, 0)) B5x0_) : gb125 ≠ gb129)); have n6_ := Aside0.mk ((by rw [hg]; exact Nat.ne_of_gt (blk_lt (g := gb125) (o := .cells #[.slice (some ad128) l0_0.length c0_0, .slice A0_1 l0_1.length c0_1] 37 (0, 0)) B5x0_) : gb129 ≠ gb125)); clear BK125; clear HB; have BK125 := n0_; have HB := n1_; have BK129 := n2_; have GW129 := n3_; have GE129 := n4_; have NB125_129 := n5_; have NB129_125 := n6_; clear n0_ n1_ n2_ n3_ n4_ n5_ n6_; clear hb hbox hg; have hnb20 := NB129_125.out; have hnc20 := NB125_129.out; obtain ⟨hcz21_0, hcz21_1, hcz21_2⟩ := cl3 BK129.out; obtain ⟨hfz21_0, hfz21_1, hfz21_2⟩ := fr3 BK129.out))
         have n0_ : Aside0 ((((w19.setCell ⟨gb129, 0, none⟩ (.int .i64 ((rd_T101 l0_0 x5_1).f0))).setCell ⟨gb129, 1, none⟩ (.int .i64 ((rd_T101 l0_0 x5_1).f1))).setCell ⟨gb129, 2, none⟩ (.string ((rd_T101 l0_0 x5_1).f2))).heap[gb125]? = some (.cells #[.slice (some ad128) l0_0.length c0_0, .slice A0_1 l0_1.length c0_1] 37 (0, 0))) := ⟨by (with_reducible repeat (first | refine blk_drewN ?_ _ | refine blk_drew ?_ | refine blk_alloc ?_ _)); refine blk_far ?_ NB125_129.out _; (with_reducible repeat (first | refine blk_drewN ?_ _ | refine blk_drew ?_ | refine blk_alloc ?_ _)); refine blk_far ?_ NB125_129.out _; (with_reducible repeat (first | refine blk_drewN ?_ _ | refine blk_drew ?_ | refine blk_alloc ?_ _)); refine blk_far ?_ NB125_129.out _; (with_reducible repeat (first | refine blk_drewN ?_ _ | refine blk_drew ?_ | refine blk_alloc ?_ _)); exact BK125.out⟩
         have n1_ : Aside0 ((((w19.setCell ⟨gb129, 0, none⟩ (.int .i64 ((rd_T101 l0_0 x5_1).f0))).setCell ⟨gb129, 1, none⟩ (.int .i64 ((rd_T101 l0_0 x5_1).f1))).setCell ⟨gb129, 2, none⟩ (.string ((rd_T101 l0_0 x5_1).f2))).heap[gb129]? = some (.cells #[.int .i64 ((rd_T101 l0_0 x5_1).f0), .int .i64 ((rd_T101 l0_0 x5_1).f1), .string ((rd_T101 l0_0 x5_1).f2)] 101 (0, 0))) := ⟨by (with_reducible repeat (first | refine blk_drewN ?_ _ | refine blk_drew ?_ | refine blk_alloc ?_ _)); refine blk_put (cs := #[.int .i64 ((rd_T101 l0_0 x5_1).f0), .int .i64 ((rd_T101 l0_0 x5_1).f1), .string (⟨#[]⟩ : ByteArray)]) ?_ 2 _ rfl; (with_reducible repeat (first | refine blk_drewN ?_ _ | refine blk_drew ?_ | refine blk_alloc ?_ _)); refine blk_put (cs := #[.int .i64 ((rd_T101 l0_0 x5_1).f0), .int .i64 0, .string (⟨#[]⟩ : ByteArray)]) ?_ 1 _ rfl; (with_reducible repeat (first | refine blk_drewN ?_ _ | refine blk_drew ?_ | refine blk_alloc ?_ _)); refine blk_put (cs := #[.int .i64 0, .int .i64 0, .string (⟨#[]⟩ : ByteArray)]) ?_ 0 _ rfl; (with_reducible repeat (first | refine blk_drewN ?_ _ | refine blk_drew ?_ | refine blk_alloc ?_ _)); exact BK129.out⟩
         have n2_ : Aside0 (Below w.heap.size w (((w19.setCell ⟨gb129, 0, none⟩ (.int .i64 ((rd_T101 l0_0 x5_1).f0))).setCell ⟨gb129, 1, none⟩ (.int .i64 ((rd_T101 l0_0 x5_1).f1))).setCell ⟨gb129, 2, none⟩ (.string ((rd_T101 l0_0 x5_1).f2)))) := ⟨by repeat (first | (with_reducible first | exact HB.out | apply below_alloc | apply pw_below_drewN | apply below_drew1 | refine below_set ?_ GE125.out | refine below_set ?_ GE129.out) | exact HB.out)⟩
         (try clear BK125)
         (try clear BK129)
         (try clear HB)
         generalize (((w19.setCell ⟨gb129, 0, none⟩ (.int .i64 ((rd_T101 l0_0 x5_1).f0))).setCell ⟨gb129, 1, none⟩ (.int .i64 ((rd_T101 l0_0 x5_1).f1))).setCell ⟨gb129, 2, none⟩ (.string ((rd_T101 l0_0 x5_1).f2))) = w22 at n0_ n1_ n2_ ⊢
         have BK125 := n0_
         have BK129 := n1_
         have HB := n2_
         clear n0_ n1_ n2_
         have n0_ := Aside0.mk (blk_drew BK125.out)
         have n1_ := Aside0.mk (blk_drew BK129.out)
         have n2_ := Aside0.mk (below_drew1 HB.out)
         clear BK125
         clear BK129
         clear HB
         have BK125 := n0_
         have BK129 := n1_
         have HB := n2_
         clear n0_ n1_ n2_
         refine start_ (n := 14) (S := fun w' => w'.cell? ⟨gb129, 0, none⟩ = some (.int .i64 ((rd_T101 l0_0 x5_1).f0)) ∧ w'.cell? ⟨gb129, 1, none⟩ = some (.int .i64 ((rd_T101 l0_0 x5_1).f1)) ∧ w'.cell? ⟨gb129, 2, none⟩ = some (.string ((rd_T101 l0_0 x5_1).f2))) (ds := []) #[false, false, false, false, false, false, false, false, false, false, false, false, false, false] B5x8_ rfl rfl ⟨(blk_cell BK129.out 0).trans rfl, (blk_cell BK129.out 1).trans rfl, (blk_cell BK129.out 2).trans rfl⟩ (fun hHeld => ?_); refine with_tabW spec_KeepText.tab8 spec_KeepText.bits8 (fun HT_ HW_ => ?_)
         generalize w22.drew = w23 at BK125 BK129 HB hHeld ⊢
         refine pu_ 0 28 HT_ ?_
         refine pu_ 1 29 HT_ ?_
         refine pu_ 5 33 HT_ ?_
         refine pu_ 9 37 HT_ ?_
         refine ta_ 2 30 HT_ HW_ hHeld ?_
         refine ta_ 6 34 HT_ HW_ hHeld ?_
         refine ta_ 10 38 HT_ HW_ hHeld ?_
         refine one_ (i := 3) (N := some 31) #[true, true, true, true, false, true, true, false, false, true, true, false, false, false] rfl rfl (one_of HT_.out B5x8_) (by decide) (fun K hK => ?_)
         refine goes_ Try.func92 B5x8_ rfl #[.int .i64 ((rd_T101 l0_0 x5_1).f0)] (by rfl) rfl rfl B5x2_ ?_
         with_reducible refine (spec_l01Var.calls k1 ((rd_T101 l0_0 x5_1).f0) t130 _ A12.out).mono ?_
         rintro e w24 ⟨rfl, hb⟩
         refine ⟨_, rfl, ?_⟩
         have n0_ := Aside0.mk (blk_below (g := gb125) (o := .cells #[.slice (some ad128) l0_0.length c0_0, .slice A0_1 l0_1.length c0_1] 37 (0, 0)) B5x0_ hb)
         have n1_ := Aside0.mk (blk_below (g := gb129) (o := .cells #[.int .i64 ((rd_T101 l0_0 x5_1).f0), .int .i64 ((rd_T101 l0_0 x5_1).f1), .string ((rd_T101 l0_0 x5_1).f2)] 101 (0, 0)) B5x6_ hb)
         have n2_ := Aside0.mk (below_step B5x4_ hb)
         clear BK125
         clear BK129
         clear HB
         have BK125 := n0_
         have BK129 := n1_
         have HB := n2_
         clear n0_ n1_ n2_
         (try clear hb)
         (try clear hb2)
         (try clear hk)
         (try clear hi)
         refine hK.out _ _ ⟨(blk_cell BK129.out 0).trans rfl, (blk_cell BK129.out 1).trans rfl, (blk_cell BK129.out 2).trans rfl⟩ (fun hHeld => ?_)
         clear hK K
         refine norm_ (a' := ?_) ?_ ?_
         rotate_left
         ·show Act.put _ (some 31) _ = _
          simp only [Act.put, List.setIfInBounds_toArray, List.set_cons_zero, List.set_cons_succ, i64_w, i32_w]
          rfl
         refine pu_ 4 32 HT_ ?_
         refine one_ (i := 7) (N := some 35) #[true, true, true, true, true, true, true, true, false, true, true, false, false, false] rfl rfl (one_of HT_.out B5x8_) (by decide) (fun K hK => ?_)
         refine goes_ Try.func92 B5x8_ rfl #[.int .i64 ((rd_T101 l0_0 x5_1).f1)] (by rfl) rfl rfl B5x2_ ?_
         with_reducible refine (spec_l01Var.calls k1 ((rd_T101 l0_0 x5_1).f1) t131 _ A14.out).mono ?_
         rintro e w25 ⟨rfl, hb⟩
         refine ⟨_, rfl, ?_⟩
         have n0_ := Aside0.mk (blk_below (g := gb125) (o := .cells #[.slice (some ad128) l0_0.length c0_0, .slice A0_1 l0_1.length c0_1] 37 (0, 0)) B5x0_ hb)
         have n1_ := Aside0.mk (blk_below (g := gb129) (o := .cells #[.int .i64 ((rd_T101 l0_0 x5_1).f0), .int .i64 ((rd_T101 l0_0 x5_1).f1), .string ((rd_T101 l0_0 x5_1).f2)] 101 (0, 0)) B5x6_ hb)
         have n2_ := Aside0.mk (below_step B5x4_ hb)
         clear BK125
         clear BK129
         clear HB
         have BK125 := n0_
         have BK129 := n1_
         have HB := n2_
         clear n0_ n1_ n2_
         (try clear hb)
         (try clear hb2)
         (try clear hk)
         (try clear hi)
         refine hK.out _ _ ⟨(blk_cell BK129.out 0).trans rfl, (blk_cell BK129.out 1).trans rfl, (blk_cell BK129.out 2).trans rfl⟩ (fun hHeld => ?_)
         clear hK K
         refine norm_ (a' := ?_) ?_ ?_
         rotate_left
         ·show Act.put _ (some 35) _ = _
          simp only [Act.put, List.setIfInBounds_toArray, List.set_cons_zero, List.set_cons_succ, i64_w, i32_w]
          rfl
         refine pu_ 8 36 HT_ ?_
         refine one_ (i := 11) (N := some 39) #[true, true, true, true, true, true, true, true, true, true, true, true, false, false] rfl rfl (one_of HT_.out B5x8_) (by decide) (fun K hK => ?_)
         refine goes_ Try.func93 B5x8_ rfl #[.string ((rd_T101 l0_0 x5_1).f2)] (by rfl) rfl rfl B5x2_ ?_
         with_reducible refine (spec_l16Short.calls k1 ((rd_T101 l0_0 x5_1).f2) t132 _ A16.out).mono ?_
         rintro e w26 ⟨rfl, hb⟩
         refine ⟨_, rfl, ?_⟩
         have n0_ := Aside0.mk (blk_below (g := gb125) (o := .cells #[.slice (some ad128) l0_0.length c0_0, .slice A0_1 l0_1.length c0_1] 37 (0, 0)) B5x0_ hb)
         have n1_ := Aside0.mk (blk_below (g := gb129) (o := .cells #[.int .i64 ((rd_T101 l0_0 x5_1).f0), .int .i64 ((rd_T101 l0_0 x5_1).f1), .string ((rd_T101 l0_0 x5_1).f2)] 101 (0, 0)) B5x6_ hb)
         have n2_ := Aside0.mk (below_step B5x4_ hb)
         clear BK125
         clear BK129
         clear HB
         have BK125 := n0_
         have BK129 := n1_
         have HB := n2_
         clear n0_ n1_ n2_
         (try clear hb)
         (try clear hb2)
         (try clear hk)
         (try clear hi)
         refine hK.out _ _ ⟨(blk_cell BK129.out 0).trans rfl, (blk_cell BK129.out 1).trans rfl, (blk_cell BK129.out 2).trans rfl⟩ (fun hHeld => ?_)
         clear hK K
         refine norm_ (a' := ?_) ?_ ?_
         rotate_left
         ·show Act.put _ (some 39) _ = _
          simp only [Act.put, List.setIfInBounds_toArray, List.set_cons_zero, List.set_cons_succ, i64_w, i32_w]
          rfl
         refine pu_ 12 40 HT_ ?_
         refine pu_ 13 4 HT_ ?_
         refine done_ (done_of HT_.out B5x8_) ?_
         try go_wp2
         go_roundg k1
         case measure => have := HK1.out; omega
         case rel => exact ⟨(((x4_1 ++ t130) ++ t131) ++ t132), (wrap64 (x5_1 + 1)), (be_), (be_), H', ⟨by have := HK1.out; omega⟩, ⟨by (with_reducible repeat (first | refine blk_drewN ?_ _ | refine blk_drew ?_ | refine blk_alloc ?_ _)); exact BK125.out⟩, ⟨by repeat (first | (with_reducible first | exact HB.out | apply below_alloc | apply pw_below_drewN | apply below_drew1 | refine below_set ?_ GE125.out | refine below_set ?_ GE129.out) | exact HB.out)⟩⟩
        ·rw [if_neg c17] at H
         exact absurd H (by simp)
       ·rw [if_neg c15] at H
        exact absurd H (by simp)
      ·rw [if_neg c13] at H
       exact absurd H (by simp)
     ·rw [if_neg c11] at H
      exact absurd H (by simp)
    ·rw [if_neg c10] at H
     have c10b0 : decide (x5_1 < (l0_0.length : Int)) = false := decide_eq_false c10
     clear c10
     replace H := Option.bind_eq_some_iff.mp H
     obtain ⟨t133, A270, H⟩ := H
     (try dsimp only at H)
     have A27 := Aside0.mk A270
     clear A270
     by_cases c28 : x4_1.size + t133.size ≤ 9223372036854775807
     ·rw [if_pos c28] at H
      have c28b0 := eq_true c28
      have c28b1 : decide (x4_1.size + t133.size ≤ 9223372036854775807) = true := decide_eq_true c28
      try have c28b2 : (9223372036854775807 < x4_1.size + t133.size) = False := eq_false (Nat.not_lt.2 c28)
      try (have c28b9 := c28b2; simp only [ByteArray.size_append] at c28b9)
      have H' := Aside0.mk H
      clear H
      obtain ⟨hcz29_0, hcz29_1⟩ := cl2 BK125.out
      obtain ⟨hfz29_0, hfz29_1⟩ := fr2 BK125.out
      go_wp2_with (first | ((with_reducible refine gate_callee (f := 92) rfl ?_); refine goesL_ (some 45) rfl rfl Try.func92 B5x8_ rfl #[.int .i64 (l0_1.length : Int)] rfl B5x2_ ?_; (with_reducible refine (spec_l01Var.calls k1 (l0_1.length : Int) t133 _ A27.out).mono ?_); rintro e w30 ⟨rfl, hb⟩; refine ⟨_, rfl, ?_⟩; have n0_ := Aside0.mk (blk_below (g := gb125) (o := .cells #[.slice A0_0 l0_0.length c0_0, .slice A0_1 l0_1.length c0_1] 37 (0, 0)) B5x0_ hb); have n1_ := Aside0.mk (below_step B5x1_ hb); clear BK125; clear HB; have BK125 := n0_; have HB := n1_; clear n0_ n1_; (try clear hb); (try clear hb2); (try clear hk); (try clear hi)))
      go_loopg [4, 7] k1 (fun kq v4 v7 w' => ∃ (x4_2 : ByteArray) (x7_2 : Int), v4 = .string x4_2 ∧ v7 = .int .i64 x7_2 ∧ Aside0 (spec_KeepText.l1 kq x4_2 x7_2 l0_0 l0_1 = some (r1, r2)) ∧ Aside0 (kq ≤ k1) ∧ Aside0 (w'.heap[gb125]? = some (.cells #[(.slice A0_0 l0_0.length c0_0), (.slice A0_1 l0_1.length c0_1)] 37 (0, 0))) ∧ Aside0 (Below w.heap.size w w'))
      case atStart => exact ⟨(x4_1 ++ t133), (0), (be_), (be_), H', ⟨Nat.le_refl _⟩, ⟨by (with_reducible repeat (first | refine blk_drewN ?_ _ | refine blk_drew ?_ | refine blk_alloc ?_ _)); exact BK125.out⟩, ⟨by repeat (first | (with_reducible first | exact HB.out | apply below_alloc | apply pw_below_drewN | apply below_drew1 | refine below_set ?_ GE125.out) | exact HB.out)⟩⟩
      case round =>
       clear H'
       try clear c1
       try clear p1
       try clear q1
       try clear hx1
       try clear c2
       try clear p2
       try clear c3
       try clear c5
       try clear p6
       try clear c9
       try clear c10
       try clear c10b0
       try clear c11
       try clear c11b0
       try clear p12
       try clear q12
       try clear hx12
       try clear c13
       try clear c13b0
       try clear c13b1
       try clear c13b2
       try clear c15
       try clear c15b0
       try clear c15b1
       try clear c15b2
       try clear c17
       try clear c17b0
       try clear c17b1
       try clear c17b2
       try clear c20
       try clear c23
       try clear c28
       try clear c28b0
       try clear c28b1
       try clear c28b2
       try clear hcz18_0
       try clear hcz18_1
       try clear hcz21_0
       try clear hcz21_1
       try clear hcz21_2
       try clear hcz29_0
       try clear hcz29_1
       try clear hcz6_0
       try clear hcz6_1
       try clear hcz8_0
       try clear hcz8_1
       try clear hfz18_0
       try clear hfz18_1
       try clear hfz21_0
       try clear hfz21_1
       try clear hfz21_2
       try clear hfz29_0
       try clear hfz29_1
       try clear hfz6_0
       try clear hfz6_1
       try clear hfz8_0
       try clear hfz8_1
       try clear hx128_0
       try clear hx128_1
       try clear hx128_2
       try clear p128
       try clear p2
       try clear q128
       obtain ⟨x4_2, x7_2, rfl, rfl, HA, HK2, BK125, HB⟩ := hrel
       cases gk with
       | zero => exact absurd HA.out (by simp [spec_KeepText.l1])
       | succ k2 =>
        have H := HA.out
        clear HA
        simp only [spec_KeepText.l1] at H
        by_cases c31 : x7_2 < (l0_1.length : Int)
        ·rw [if_pos c31] at H
         have c31b0 : decide (x7_2 < (l0_1.length : Int)) = true := decide_eq_true c31
         clear c31
         by_cases c32 : 0 ≤ x7_2
         ·rw [if_pos c32] at H
          have c32b0 : decide (0 ≤ x7_2) = true := decide_eq_true c32
          clear c32
          replace H := Option.bind_eq_some_iff.mp H
          obtain ⟨t136, A330, H⟩ := H
          (try dsimp only at H)
          have A33 := Aside0.mk A330
          clear A330
          by_cases c34 : x4_2.size + t136.size ≤ 9223372036854775807
          ·rw [if_pos c34] at H
           have c34b0 := eq_true c34
           have c34b1 : decide (x4_2.size + t136.size ≤ 9223372036854775807) = true := decide_eq_true c34
           try have c34b2 : (9223372036854775807 < x4_2.size + t136.size) = False := eq_false (Nat.not_lt.2 c34)
           try (have c34b9 := c34b2; simp only [ByteArray.size_append] at c34b9)
           replace H := Option.bind_eq_some_iff.mp H
           obtain ⟨t137, A350, H⟩ := H
           (try dsimp only at H)
           have A35 := Aside0.mk A350
           clear A350
           by_cases c36 : (x4_2 ++ t136).size + t137.size ≤ 9223372036854775807
           ·rw [if_pos c36] at H
            have c36b0 := eq_true c36
            have c36b1 : decide ((x4_2 ++ t136).size + t137.size ≤ 9223372036854775807) = true := decide_eq_true c36
            try have c36b2 : (9223372036854775807 < (x4_2 ++ t136).size + t137.size) = False := eq_false (Nat.not_lt.2 c36)
            try have c36b8 : (9223372036854775807 < x4_2.size + t136.size + t137.size) = False := eq_false (by have h_ := c36; simp only [ByteArray.size_append, ByteArray.size_extract, decide_eq_true_eq, decide_eq_false_iff_not] at *; omega)
            try (have c36b9 := c36b2; simp only [ByteArray.size_append] at c36b9)
            replace H := Option.bind_eq_some_iff.mp H
            obtain ⟨t138, A370, H⟩ := H
            (try dsimp only at H)
            have A37 := Aside0.mk A370
            clear A370
            by_cases c38 : ((x4_2 ++ t136) ++ t137).size + t138.size ≤ 9223372036854775807
            ·rw [if_pos c38] at H
             have c38b0 := eq_true c38
             have c38b1 : decide (((x4_2 ++ t136) ++ t137).size + t138.size ≤ 9223372036854775807) = true := decide_eq_true c38
             try have c38b2 : (9223372036854775807 < ((x4_2 ++ t136) ++ t137).size + t138.size) = False := eq_false (Nat.not_lt.2 c38)
             try have c38b8 : (9223372036854775807 < x4_2.size + t136.size + t137.size + t138.size) = False := eq_false (by have h_ := c38; simp only [ByteArray.size_append, ByteArray.size_extract, decide_eq_true_eq, decide_eq_false_iff_not] at *; omega)
             try (have c38b9 := c38b2; simp only [ByteArray.size_append] at c38b9)
             have H' := Aside0.mk H
             clear H
             obtain ⟨hcz39_0, hcz39_1⟩ := cl2 BK125.out
             obtain ⟨hfz39_0, hfz39_1⟩ := fr2 BK125.out
             have p134 : 0 ≤ (x7_2 : Int) := of_decide_eq_true B5x9_
             have q134 : x7_2 < (l0_1.length : Int) := of_decide_eq_true B5x9_
             obtain ⟨ad134, e134, hx134_0, hx134_1, hx134_2⟩ := at_T104 HR0_1.out x7_2 p134 q134
             cases e134
             replace hx134_0 := (HB.out.cell (World.block_lt_of_cell? w _ hx134_0)).trans hx134_0
             replace hx134_1 := (HB.out.cell (World.block_lt_of_cell? w _ hx134_1)).trans hx134_1
             replace hx134_2 := (HB.out.cell (World.block_lt_of_cell? w _ hx134_2)).trans hx134_2
             replace p134 := eq_true p134
             replace q134 := eq_true q134
             try go_wp2_with (first | ((with_reducible refine gate_dst (N := 8) rfl ?_); refine box_event ?hg (N := 8) ?hd (cs := #[.string (⟨#[]⟩ : ByteArray), .string (⟨#[]⟩ : ByteArray), .int .i64 0]) (t := 104) ?hr ?_; (case hd => rfl); (case hg => rfl); (case hr => first | (go_simp; done) | (go_simp; rfl)); intro gb135 hg w40 hbox hb; have n0_ := Aside0.mk (blk_below (g := gb125) (o := .cells #[.slice A0_0 l0_0.length c0_0, .slice (some ad134) l0_1.length c0_1] 37 (0, 0)) B5x0_ hb); have n1_ := Aside0.mk (below_step B5x1_ hb); have n2_ := Aside0.mk (hbox); have n3_ := Aside0.mk ((by rw [hg]; exact (below_size B5x1_) : w.heap.size ≤ gb135)); have n4_ := Aside0.mk ((by rw [hg]; exact (below_size B5x1_) : w.heap.size ≤ gb135)); have n5_ := Aside0.mk ((by rw [hg]; exact Nat.ne_of_lt (blk_lt (g := gb125) (o := .cells #[.slice A0_0 l0_0.length c0_0, .slice (some ad134) l0_1.length c0_1] 37 (0, 0)) B5x0_) : gb125 ≠ gb135)); have n6_ := Aside0.mk ((by rw [hg]; exact Nat.ne_of_gt (blk_lt (g := gb125) (o := .cells #[.slice A0_0 l0_0.length c0_0, .slice (some ad134) l0_1.length c0_1] 37 (0, 0)) B5x0_) : gb135 ≠ gb125)); clear BK125; clear HB; have BK125 := n0_; have HB := n1_; have BK135 := n2_; have GW135 := n3_; have GE135 := n4_; have NB125_135 := n5_; have NB135_125 := n6_; clear n0_ n1_ n2_ n3_ n4_ n5_ n6_; clear hb hbox hg; have hnb41 := NB135_125.out; have hnc41 := NB125_135.out; obtain ⟨hcz42_0, hcz42_1, hcz42_2⟩ := cl3 BK135.out; obtain ⟨hfz42_0, hfz42_1, hfz42_2⟩ := fr3 BK135.out))
             have n0_ : Aside0 ((((w40.setCell ⟨gb135, 0, none⟩ (.string ((rd_T104 l0_1 x7_2).f0))).setCell ⟨gb135, 1, none⟩ (.string ((rd_T104 l0_1 x7_2).f1))).setCell ⟨gb135, 2, none⟩ (.int .i64 ((rd_T104 l0_1 x7_2).f2))).heap[gb125]? = some (.cells #[.slice A0_0 l0_0.length c0_0, .slice (some ad134) l0_1.length c0_1] 37 (0, 0))) := ⟨by (with_reducible repeat (first | refine blk_drewN ?_ _ | refine blk_drew ?_ | refine blk_alloc ?_ _)); refine blk_far ?_ NB125_135.out _; (with_reducible repeat (first | refine blk_drewN ?_ _ | refine blk_drew ?_ | refine blk_alloc ?_ _)); refine blk_far ?_ NB125_135.out _; (with_reducible repeat (first | refine blk_drewN ?_ _ | refine blk_drew ?_ | refine blk_alloc ?_ _)); refine blk_far ?_ NB125_135.out _; (with_reducible repeat (first | refine blk_drewN ?_ _ | refine blk_drew ?_ | refine blk_alloc ?_ _)); exact BK125.out⟩
             have n1_ : Aside0 ((((w40.setCell ⟨gb135, 0, none⟩ (.string ((rd_T104 l0_1 x7_2).f0))).setCell ⟨gb135, 1, none⟩ (.string ((rd_T104 l0_1 x7_2).f1))).setCell ⟨gb135, 2, none⟩ (.int .i64 ((rd_T104 l0_1 x7_2).f2))).heap[gb135]? = some (.cells #[.string ((rd_T104 l0_1 x7_2).f0), .string ((rd_T104 l0_1 x7_2).f1), .int .i64 ((rd_T104 l0_1 x7_2).f2)] 104 (0, 0))) := ⟨by (with_reducible repeat (first | refine blk_drewN ?_ _ | refine blk_drew ?_ | refine blk_alloc ?_ _)); refine blk_put (cs := #[.string ((rd_T104 l0_1 x7_2).f0), .string ((rd_T104 l0_1 x7_2).f1), .int .i64 0]) ?_ 2 _ rfl; (with_reducible repeat (first | refine blk_drewN ?_ _ | refine blk_drew ?_ | refine blk_alloc ?_ _)); refine blk_put (cs := #[.string ((rd_T104 l0_1 x7_2).f0), .string (⟨#[]⟩ : ByteArray), .int .i64 0]) ?_ 1 _ rfl; (with_reducible repeat (first | refine blk_drewN ?_ _ | refine blk_drew ?_ | refine blk_alloc ?_ _)); refine blk_put (cs := #[.string (⟨#[]⟩ : ByteArray), .string (⟨#[]⟩ : ByteArray), .int .i64 0]) ?_ 0 _ rfl; (with_reducible repeat (first | refine blk_drewN ?_ _ | refine blk_drew ?_ | refine blk_alloc ?_ _)); exact BK135.out⟩
             have n2_ : Aside0 (Below w.heap.size w (((w40.setCell ⟨gb135, 0, none⟩ (.string ((rd_T104 l0_1 x7_2).f0))).setCell ⟨gb135, 1, none⟩ (.string ((rd_T104 l0_1 x7_2).f1))).setCell ⟨gb135, 2, none⟩ (.int .i64 ((rd_T104 l0_1 x7_2).f2)))) := ⟨by repeat (first | (with_reducible first | exact HB.out | apply below_alloc | apply pw_below_drewN | apply below_drew1 | refine below_set ?_ GE125.out | refine below_set ?_ GE135.out) | exact HB.out)⟩
             (try clear BK125)
             (try clear BK135)
             (try clear HB)
             generalize (((w40.setCell ⟨gb135, 0, none⟩ (.string ((rd_T104 l0_1 x7_2).f0))).setCell ⟨gb135, 1, none⟩ (.string ((rd_T104 l0_1 x7_2).f1))).setCell ⟨gb135, 2, none⟩ (.int .i64 ((rd_T104 l0_1 x7_2).f2))) = w43 at n0_ n1_ n2_ ⊢
             have BK125 := n0_
             have BK135 := n1_
             have HB := n2_
             clear n0_ n1_ n2_
             have n0_ := Aside0.mk (blk_drew BK125.out)
             have n1_ := Aside0.mk (blk_drew BK135.out)
             have n2_ := Aside0.mk (below_drew1 HB.out)
             clear BK125
             clear BK135
             clear HB
             have BK125 := n0_
             have BK135 := n1_
             have HB := n2_
             clear n0_ n1_ n2_
             refine start_ (n := 14) (S := fun w' => w'.cell? ⟨gb135, 0, none⟩ = some (.string ((rd_T104 l0_1 x7_2).f0)) ∧ w'.cell? ⟨gb135, 1, none⟩ = some (.string ((rd_T104 l0_1 x7_2).f1)) ∧ w'.cell? ⟨gb135, 2, none⟩ = some (.int .i64 ((rd_T104 l0_1 x7_2).f2))) (ds := []) #[false, false, false, false, false, false, false, false, false, false, false, false, false, false] B5x8_ rfl rfl ⟨(blk_cell BK135.out 0).trans rfl, (blk_cell BK135.out 1).trans rfl, (blk_cell BK135.out 2).trans rfl⟩ (fun hHeld => ?_); refine with_tabW spec_KeepText.tab14 spec_KeepText.bits14 (fun HT_ HW_ => ?_)
             generalize w43.drew = w44 at BK125 BK135 HB hHeld ⊢
             refine pu_ 0 59 HT_ ?_
             refine pu_ 1 60 HT_ ?_
             refine pu_ 5 64 HT_ ?_
             refine pu_ 9 68 HT_ ?_
             refine ta_ 2 61 HT_ HW_ hHeld ?_
             refine ta_ 6 65 HT_ HW_ hHeld ?_
             refine ta_ 10 69 HT_ HW_ hHeld ?_
             refine one_ (i := 3) (N := some 62) #[true, true, true, true, false, true, true, false, false, true, true, false, false, false] rfl rfl (one_of HT_.out B5x8_) (by decide) (fun K hK => ?_)
             refine goes_ Try.func93 B5x8_ rfl #[.string ((rd_T104 l0_1 x7_2).f0)] (by rfl) rfl rfl B5x2_ ?_
             with_reducible refine (spec_l16Short.calls k2 ((rd_T104 l0_1 x7_2).f0) t136 _ A33.out).mono ?_
             rintro e w45 ⟨rfl, hb⟩
             refine ⟨_, rfl, ?_⟩
             have n0_ := Aside0.mk (blk_below (g := gb125) (o := .cells #[.slice A0_0 l0_0.length c0_0, .slice (some ad134) l0_1.length c0_1] 37 (0, 0)) B5x0_ hb)
             have n1_ := Aside0.mk (blk_below (g := gb135) (o := .cells #[.string ((rd_T104 l0_1 x7_2).f0), .string ((rd_T104 l0_1 x7_2).f1), .int .i64 ((rd_T104 l0_1 x7_2).f2)] 104 (0, 0)) B5x7_ hb)
             have n2_ := Aside0.mk (below_step B5x5_ hb)
             clear BK125
             clear BK135
             clear HB
             have BK125 := n0_
             have BK135 := n1_
             have HB := n2_
             clear n0_ n1_ n2_
             (try clear hb)
             (try clear hb2)
             (try clear hk)
             (try clear hi)
             refine hK.out _ _ ⟨(blk_cell BK135.out 0).trans rfl, (blk_cell BK135.out 1).trans rfl, (blk_cell BK135.out 2).trans rfl⟩ (fun hHeld => ?_)
             clear hK K
             refine norm_ (a' := ?_) ?_ ?_
             rotate_left
             ·show Act.put _ (some 62) _ = _
              simp only [Act.put, List.setIfInBounds_toArray, List.set_cons_zero, List.set_cons_succ, i64_w, i32_w]
              rfl
             refine pu_ 4 63 HT_ ?_
             refine one_ (i := 7) (N := some 66) #[true, true, true, true, true, true, true, true, false, true, true, false, false, false] rfl rfl (one_of HT_.out B5x8_) (by decide) (fun K hK => ?_)
             refine goes_ Try.func93 B5x8_ rfl #[.string ((rd_T104 l0_1 x7_2).f1)] (by rfl) rfl rfl B5x2_ ?_
             with_reducible refine (spec_l16Short.calls k2 ((rd_T104 l0_1 x7_2).f1) t137 _ A35.out).mono ?_
             rintro e w46 ⟨rfl, hb⟩
             refine ⟨_, rfl, ?_⟩
             have n0_ := Aside0.mk (blk_below (g := gb125) (o := .cells #[.slice A0_0 l0_0.length c0_0, .slice (some ad134) l0_1.length c0_1] 37 (0, 0)) B5x0_ hb)
             have n1_ := Aside0.mk (blk_below (g := gb135) (o := .cells #[.string ((rd_T104 l0_1 x7_2).f0), .string ((rd_T104 l0_1 x7_2).f1), .int .i64 ((rd_T104 l0_1 x7_2).f2)] 104 (0, 0)) B5x7_ hb)
             have n2_ := Aside0.mk (below_step B5x5_ hb)
             clear BK125
             clear BK135
             clear HB
             have BK125 := n0_
             have BK135 := n1_
             have HB := n2_
             clear n0_ n1_ n2_
             (try clear hb)
             (try clear hb2)
             (try clear hk)
             (try clear hi)
             refine hK.out _ _ ⟨(blk_cell BK135.out 0).trans rfl, (blk_cell BK135.out 1).trans rfl, (blk_cell BK135.out 2).trans rfl⟩ (fun hHeld => ?_)
             clear hK K
             refine norm_ (a' := ?_) ?_ ?_
             rotate_left
             ·show Act.put _ (some 66) _ = _
              simp only [Act.put, List.setIfInBounds_toArray, List.set_cons_zero, List.set_cons_succ, i64_w, i32_w]
              rfl
             refine pu_ 8 67 HT_ ?_
             refine one_ (i := 11) (N := some 70) #[true, true, true, true, true, true, true, true, true, true, true, true, false, false] rfl rfl (one_of HT_.out B5x8_) (by decide) (fun K hK => ?_)
             refine goes_ Try.func92 B5x8_ rfl #[.int .i64 ((rd_T104 l0_1 x7_2).f2)] (by rfl) rfl rfl B5x2_ ?_
             with_reducible refine (spec_l01Var.calls k2 ((rd_T104 l0_1 x7_2).f2) t138 _ A37.out).mono ?_
             rintro e w47 ⟨rfl, hb⟩
             refine ⟨_, rfl, ?_⟩
             have n0_ := Aside0.mk (blk_below (g := gb125) (o := .cells #[.slice A0_0 l0_0.length c0_0, .slice (some ad134) l0_1.length c0_1] 37 (0, 0)) B5x0_ hb)
             have n1_ := Aside0.mk (blk_below (g := gb135) (o := .cells #[.string ((rd_T104 l0_1 x7_2).f0), .string ((rd_T104 l0_1 x7_2).f1), .int .i64 ((rd_T104 l0_1 x7_2).f2)] 104 (0, 0)) B5x7_ hb)
             have n2_ := Aside0.mk (below_step B5x5_ hb)
             clear BK125
             clear BK135
             clear HB
             have BK125 := n0_
             have BK135 := n1_
             have HB := n2_
             clear n0_ n1_ n2_
             (try clear hb)
             (try clear hb2)
             (try clear hk)
             (try clear hi)
             refine hK.out _ _ ⟨(blk_cell BK135.out 0).trans rfl, (blk_cell BK135.out 1).trans rfl, (blk_cell BK135.out 2).trans rfl⟩ (fun hHeld => ?_)
             clear hK K
             refine norm_ (a' := ?_) ?_ ?_
             rotate_left
             ·show Act.put _ (some 70) _ = _
              simp only [Act.put, List.setIfInBounds_toArray, List.set_cons_zero, List.set_cons_succ, i64_w, i32_w]
              rfl
             refine pu_ 12 71 HT_ ?_
             refine pu_ 13 4 HT_ ?_
             refine done_ (done_of HT_.out B5x8_) ?_
             try go_wp2
             go_roundg k2
             case measure => have := HK1.out; have := HK2.out; omega
             case rel => exact ⟨(((x4_2 ++ t136) ++ t137) ++ t138), (wrap64 (x7_2 + 1)), (be_), (be_), H', ⟨by have := HK1.out; have := HK2.out; omega⟩, ⟨by (with_reducible repeat (first | refine blk_drewN ?_ _ | refine blk_drew ?_ | refine blk_alloc ?_ _)); exact BK125.out⟩, ⟨by repeat (first | (with_reducible first | exact HB.out | apply below_alloc | apply pw_below_drewN | apply below_drew1 | refine below_set ?_ GE125.out | refine below_set ?_ GE135.out) | exact HB.out)⟩⟩
            ·rw [if_neg c38] at H
             exact absurd H (by simp)
           ·rw [if_neg c36] at H
            exact absurd H (by simp)
          ·rw [if_neg c34] at H
           exact absurd H (by simp)
         ·rw [if_neg c32] at H
          exact absurd H (by simp)
        ·rw [if_neg c31] at H
         have c31b0 : decide (x7_2 < (l0_1.length : Int)) = false := decide_eq_false c31
         clear c31
         simp only [Option.some.injEq, Prod.mk.injEq] at H
         obtain ⟨rfl, rfl⟩ := H
         obtain ⟨hcz48_0, hcz48_1⟩ := cl2 BK125.out
         obtain ⟨hfz48_0, hfz48_1⟩ := fr2 BK125.out
         go_wp2
         go_ret2
         exact ⟨by first | rfl | (simp [errW_none, errW_some] <;> rfl) | (simp [*, errW_none, errW_some] <;> rfl), by repeat (first | (with_reducible first | exact HB.out | apply below_alloc | apply pw_below_drewN | apply below_drew1 | refine below_set ?_ GE125.out) | exact HB.out)⟩
     ·rw [if_neg c28] at H
      exact absurd H (by simp)
 ·replace c3 := Bool.eq_false_iff.mpr c3
  subst c3
  rw [if_neg (show ¬ (false = true) by decide)] at H
  simp only [Option.some.injEq, Prod.mk.injEq] at H
  obtain ⟨rfl, rfl⟩ := H
  go_enter Try.func23, Try.ntmps23
  go_wp2_with (first | ((with_reducible refine gate_dst (N := 1) rfl ?_); refine box_event ?hg (N := 1) ?hd (cs := #[.slice A0_0 l0_0.length c0_0, .slice A0_1 l0_1.length c0_1]) (t := 37) ?hr ?_; (case hd => rfl); (case hg => rfl); (case hr => first | (go_simp; done) | (go_simp; rfl)); intro gb125 hg w49 hbox hb; have n0_ := Aside0.mk (below_step B5x3_ hb); have n1_ := Aside0.mk (hbox); have n2_ := Aside0.mk ((by rw [hg]; exact (below_size B5x3_) : w.heap.size ≤ gb125)); have n3_ := Aside0.mk ((by rw [hg]; exact (below_size B5x3_) : w.heap.size ≤ gb125)); clear HB; have HB := n0_; have BK125 := n1_; have GW125 := n2_; have GE125 := n3_; clear n0_ n1_ n2_ n3_; clear hb hbox hg; obtain ⟨hcz50_0, hcz50_1⟩ := cl2 BK125.out; obtain ⟨hfz50_0, hfz50_1⟩ := fr2 BK125.out) | ((with_reducible refine gate_callee (f := 54) rfl ?_); refine goesL_ (some 10) rfl rfl Try.func54 B5x8_ rfl #[.agg #[.slice A0_0 l0_0.length c0_0, .slice A0_1 l0_1.length c0_1]] rfl B5x2_ ?_; (with_reducible refine (spec_KeepOk.calls k _ _ l0_0 _ _ l0_1 false _ ?side1 ?side2 ?side3 ?side4 A2.out).mono ?_); (case side1 => repeat (first | exact (Kd.C_below HR0_0.out HB.out) | (with_reducible refine Kd.C_alloc ?_ _) | (with_reducible refine Kd.C_drewN ?_ _) | (with_reducible refine Kd.C_drew ?_))); (case side2 => exact HC0_0.out); (case side3 => repeat (first | exact (Kd.C_below HR0_1.out HB.out) | (with_reducible refine Kd.C_alloc ?_ _) | (with_reducible refine Kd.C_drewN ?_ _) | (with_reducible refine Kd.C_drew ?_))); (case side4 => exact HC0_1.out); rintro e w51 ⟨rfl, hb⟩; refine ⟨_, rfl, ?_⟩; have n0_ := Aside0.mk (blk_below (g := gb125) (o := .cells #[.slice A0_0 l0_0.length c0_0, .slice A0_1 l0_1.length c0_1] 37 (0, 0)) B5x0_ hb); have n1_ := Aside0.mk (below_step B5x1_ hb); clear BK125; clear HB; have BK125 := n0_; have HB := n1_; clear n0_ n1_; (try clear hb); (try clear hb2); (try clear hk); (try clear hi)))
  go_ret2
  exact ⟨by first | rfl | (simp [errW_none, errW_some] <;> rfl) | (simp [*, errW_none, errW_some] <;> rfl), by repeat (first | (with_reducible first | exact HB.out | apply below_alloc | apply pw_below_drewN | apply below_drew1 | refine below_set ?_ GE125.out) | exact HB.out)⟩

end Go.Proofs.Ythgjcijcmacpmaa.QFnExactReadKeep
