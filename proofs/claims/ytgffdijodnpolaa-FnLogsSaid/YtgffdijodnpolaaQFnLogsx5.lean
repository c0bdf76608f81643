/- Functions that a law reaches, as functions of Lean, and the walks that show that the calls come to their answers: written by a program of this project out of the translation. No condition. -/
import Derived.Test.YtgffdijodnpolaaQFnLogsx0
import Derived.Test.YtgffdijodnpolaaQFnLogsx2
import Derived.Test.YtgffdijodnpolaaVFnLogsShort4
import Derived.Test.YtgffdijodnpolaaVFnLogsShort2
import Derived.Test.YtgffdijodnpolaaVFnLogsShort
namespace Go.Proofs.Ytgffdijodnpolaa.QFnLogs
open Go.RowKit Go.Proofs.YtgffdijodnpolaaW.PrintWords Go.Proofs.YtgffdijodnpolaaW.PrintLast Go.Proofs.YtgffdijodnpolaaW.PrintMore Go.Proofs.Ytgffdijodnpolaa.Short
attribute [local go_sem] max2_int min2_int max_two min_two max_three min_three max_four min_four   -- for this text's walks alone
set_option linter.unusedVariables false
set_option linter.unusedSimpArgs false

theorem B5x0_ {p : Prop} (h : p := by repeat (first | (with_reducible first | exact HI0.out | apply IsS107.alloc | apply IsS107.drewN | apply IsS107.drew | apply IsS107.set_1 | apply IsS107.set_2) | exact HI0.out)) : p := h
theorem B5x1_ {p : Prop} (h : p := by repeat (first | (with_reducible first | exact HB.out | apply below_alloc | apply pw_below_drewN | apply below_drew1 | refine below_set ?_ (IsS107.ge HI0.out)) | exact HB.out)) : p := h
theorem B5x2_ {p : Prop} (h : p := by repeat (first | (with_reducible first | exact HK.out | apply KeepBut.set_ | apply keep_drewN | apply keep_drew | apply keep_alloc) | exact HK.out)) : p := h
theorem B5x3_ {p : Prop} (h : p := by first | (with_reducible assumption) | assumption) : p := h
theorem B5x4_ {p : Prop} (h : p := by (try simp only [List.map_toArray, List.map_cons, List.map_nil]); first | done | rfl | (simp only [List.length_drop, List.length_take]; rfl)) : p := h
theorem B5x5_ {p : Prop} (h : p := by repeat (first | (with_reducible first | exact HB.out | apply below_alloc | apply pw_below_drewN | apply below_drew1) | exact HB.out)) : p := h
theorem B5x6_ {p : Prop} (h : p := by first | rfl | (simp [errW_none, errW_some] <;> rfl) | (simp [*, errW_none, errW_some] <;> rfl)) : p := h
theorem B5x7_ {p : Prop} (h : p := by (with_reducible repeat (first | apply Kd.R_alloc | apply Kd.R_drewN | apply Kd.R_drew)); exact HO_3.out) : p := h
theorem B5x8_ {p : Prop} (h : p := by repeat (first | exact HR0.out | (with_reducible refine Kd.C_alloc ?_ _) | (with_reducible refine Kd.C_drewN ?_ _) | (with_reducible refine Kd.C_drew ?_))) : p := h
theorem B5x9_ {p : Prop} (h : p := by repeat (first | exact Drawn0.refl _ | apply Drawn0.step)) : p := h
theorem B5x10_ {p : Prop} (h : p := by kernel_rfl) : p := h
theorem B5x11_ {p : Prop} (h : p := by first | rfl | (simp; done) | (simp [*]; done)) : p := h
theorem B5x12_ {p : Prop} (h : p := by have := HK1.out; omega) : p := h
theorem B5x13_ {p : Prop} (h : p := by exfalso; (try have h0_ := of_decide_eq_false c3b0); (try have g0_ := c3); omega) : p := h
theorem B5x14_ {p : Prop} (h : p := by injection e153) : p := h
theorem B5x15_ {p : Prop} (h : p := by injection e154) : p := h
theorem B5x16_ {p : Prop} (h : p := by exact (keep_size (w := w) (g := g) (row := none) B5x2_)) : p := h
/-! ### spec_l01Byte: function 52 -/
def spec_l01Byte.f (s0_0 : List Int) (s0_1 : Int) (s0_2 : Int) : Option (Int × Int × Int) := if s0_1 < (s0_0.length : Int) then (if 0 ≤ s0_1 then (some (Go.bits .and .i64 (wrap64 ((Go.bits .and .i64 (Go.bits .xor .i64 ((wrap64 ((wrap64 (s0_2 * 6364136223846793005)) + 1442695040888963407)) / 8589934592) ((wrap64 ((wrap64 (s0_2 * 6364136223846793005)) + 1442695040888963407)) / 35184372088832)) 255) + (wrap64 (rd s0_0 s0_1)))) 255, wrap64 (s0_1 + 1), wrap64 ((wrap64 (s0_2 * 6364136223846793005)) + 1442695040888963407))) else (none)) else (some (Go.bits .and .i64 (Go.bits .xor .i64 ((wrap64 ((wrap64 (s0_2 * 6364136223846793005)) + 1442695040888963407)) / 8589934592) ((wrap64 ((wrap64 (s0_2 * 6364136223846793005)) + 1442695040888963407)) / 35184372088832)) 255, s0_1, wrap64 ((wrap64 (s0_2 * 6364136223846793005)) + 1442695040888963407)))
set_option maxHeartbeats 8000000 in
set_option maxRecDepth 100000 in
theorem spec_l01Byte.calls (g : Nat) (s0_0 : List Int) (s0_1 : Int) (s0_2 : Int) (r1 : Int) (r2 : Int) (r3 : Int) (w0 w : World) (hI : IsS107 w0 w g s0_0 s0_1 s0_2) (hB : Below w0.heap.size w0 w) (h : spec_l01Byte.f s0_0 s0_1 s0_2 = some (r1, r2, r3)) :
  Calls Try.prog 52 #[.pointer (some ⟨g, 0, none⟩)] w fun e w' => e = .returned (.int .i64 r1) ∧ IsS107 w0 w' g s0_0 r2 r3 ∧ Below w0.heap.size w0 w' ∧ KeepBut w w' g none := by
 have HI0 := Aside0.mk hI
 have HK := Aside0.mk (KeepBut.refl w g none)
 have HL := Aside0.mk hB.size
 clear hI
 have HW0 := Aside0.mk hB.size
 have HB := Aside0.mk hB
 clear hB
 have H : (if s0_1 < (s0_0.length : Int) then (if 0 ≤ s0_1 then (some (Go.bits .and .i64 (wrap64 ((Go.bits .and .i64 (Go.bits .xor .i64 ((wrap64 ((wrap64 (s0_2 * 6364136223846793005)) + 1442695040888963407)) / 8589934592) ((wrap64 ((wrap64 (s0_2 * 6364136223846793005)) + 1442695040888963407)) / 35184372088832)) 255) + (wrap64 (rd s0_0 s0_1)))) 255, wrap64 (s0_1 + 1), wrap64 ((wrap64 (s0_2 * 6364136223846793005)) + 1442695040888963407))) else (none)) else (some (Go.bits .and .i64 (Go.bits .xor .i64 ((wrap64 ((wrap64 (s0_2 * 6364136223846793005)) + 1442695040888963407)) / 8589934592) ((wrap64 ((wrap64 (s0_2 * 6364136223846793005)) + 1442695040888963407)) / 35184372088832)) 255, s0_1, wrap64 ((wrap64 (s0_2 * 6364136223846793005)) + 1442695040888963407)))) = some (r1, r2, r3) := h
 clear h
 by_cases c2 : s0_1 < (s0_0.length : Int)
 ·rw [if_pos c2] at H
  have c2b0 : decide (s0_1 < (s0_0.length : Int)) = true := decide_eq_true c2
  clear c2
  by_cases c3 : 0 ≤ s0_1
  rotate_left
  ·rw [if_neg c3] at H
   exact absurd H (by simp)
  rw [if_pos c3] at H
  have c3b0 : decide (0 ≤ s0_1) = true := decide_eq_true c3
  clear c3
  simp only [Option.some.injEq, Prod.mk.injEq] at H
  obtain ⟨rfl, rfl, rfl⟩ := H
  obtain ⟨ASz4_0, cSz4_0, HGz4, hgz4, HSz4_0⟩ := HI0.out
  have hcz4_0 := cellS107_0 HGz4
  have hcz4_1 := cellS107_1 HGz4
  have hcz4_2 := cellS107_2 HGz4
  have hfz4_1 := blk_frozen HGz4 1
  have hfz4_2 := blk_frozen HGz4 2
  clear HGz4 hgz4
  have p131 : 0 ≤ (s0_1 : Int) := of_decide_eq_true B5x3_
  have q131 : s0_1 < (s0_0.length : Int) := of_decide_eq_true B5x3_
  obtain ⟨ad131, e131, hx131_0⟩ := Kd.at_int HSz4_0 s0_1 p131 q131
  cases e131
  have hn131_0 : ad131.block ≠ g := Nat.ne_of_lt (Nat.lt_of_lt_of_le (by have := World.block_lt_of_cell? _ _ hx131_0; first | rwa [add_block] at this | exact this) (IsS107.ge HI0.out))
  replace hx131_0 := pw_cell_below HB.out hx131_0
  replace hx131_0 := (cell_far (p := ⟨g, 2, none⟩) (by first | (rw [add_block]; exact hn131_0) | (show (Addr.add _ _).block ≠ _; rw [add_block]; exact hn131_0) | exact hn131_0) (.int .i64 (wrap64 ((wrap64 (s0_2 * 6364136223846793005)) + 1442695040888963407)))).trans hx131_0
  (try have hy131_0 := fun (n_ : Nat) => (show (((w.drewN n_).setCell ⟨g, 2, none⟩ (.int .i64 (wrap64 ((wrap64 (s0_2 * 6364136223846793005)) + 1442695040888963407))))).cell? _ = some _ from hx131_0))
  clear hn131_0
  replace p131 := eq_true p131
  replace q131 := eq_true q131
  go_enter Try.func52, Try.ntmps52
  go_wp2
  repeat (go_quiet (fail); try go_wp2)
  go_ret
  exact ⟨B5x6_, B5x0_, B5x1_, B5x2_⟩
 ·rw [if_neg c2] at H
  have c2b0 : decide (s0_1 < (s0_0.length : Int)) = false := decide_eq_false c2
  clear c2
  simp only [Option.some.injEq, Prod.mk.injEq] at H
  obtain ⟨rfl, rfl, rfl⟩ := H
  obtain ⟨ASz5_0, cSz5_0, HGz5, hgz5, HSz5_0⟩ := HI0.out
  have hcz5_0 := cellS107_0 HGz5
  have hcz5_1 := cellS107_1 HGz5
  have hcz5_2 := cellS107_2 HGz5
  have hfz5_1 := blk_frozen HGz5 1
  have hfz5_2 := blk_frozen HGz5 2
  clear HGz5 hgz5
  go_enter Try.func52, Try.ntmps52
  go_wp2
  repeat (go_quiet (fail); try go_wp2)
  go_ret
  exact ⟨B5x6_, B5x0_, B5x1_, B5x2_⟩

/-! ### spec_l01Below: function 41 -/
def spec_l01Below.f (s0_0 : List Int) (s0_1 : Int) (s0_2 : Int) (a1 : Int) : Option (Int × Int × Int) := if a1 ≤ 0 then (some (0, s0_1, s0_2)) else (if a1 ≤ 256 then ((spec_l01Byte.f s0_0 s0_1 s0_2).bind fun bt132 => (if a1 = 0 then (none) else (some (Int.tmod bt132.1 a1, bt132.2.1, bt132.2.2)))) else ((spec_l01Byte.f s0_0 s0_1 s0_2).bind fun bt135 => ((spec_l01Byte.f s0_0 bt135.2.1 bt135.2.2).bind fun bt138 => ((spec_l01Byte.f s0_0 bt138.2.1 bt138.2.2).bind fun bt141 => ((spec_l01Byte.f s0_0 bt141.2.1 bt141.2.2).bind fun bt144 => (if a1 = 0 then (none) else (some (Int.tmod (wrap64 ((wrap64 ((wrap64 ((wrap64 (bt135.1 * 16777216)) + (wrap64 (bt138.1 * 65536)))) + (wrap64 (bt141.1 * 256)))) + bt144.1)) a1, bt144.2.1, bt144.2.2))))))))
set_option maxHeartbeats 8000000 in
set_option maxRecDepth 100000 in
theorem spec_l01Below.calls (g : Nat) (s0_0 : List Int) (s0_1 : Int) (s0_2 : Int) (a1 : Int) (r1 : Int) (r2 : Int) (r3 : Int) (w0 w : World) (hI : IsS107 w0 w g s0_0 s0_1 s0_2) (hB : Below w0.heap.size w0 w) (h : spec_l01Below.f s0_0 s0_1 s0_2 a1 = some (r1, r2, r3)) :
  Calls Try.prog 41 #[.pointer (some ⟨g, 0, none⟩), .int .i64 a1] w fun e w' => e = .returned (.int .i64 r1) ∧ IsS107 w0 w' g s0_0 r2 r3 ∧ Below w0.heap.size w0 w' ∧ KeepBut w w' g none := by
 have HI0 := Aside0.mk hI
 have HK := Aside0.mk (KeepBut.refl w g none)
 have HL := Aside0.mk hB.size
 clear hI
 have HW0 := Aside0.mk hB.size
 have HB := Aside0.mk hB
 clear hB
 have H : (if a1 ≤ 0 then (some (0, s0_1, s0_2)) else (if a1 ≤ 256 then ((spec_l01Byte.f s0_0 s0_1 s0_2).bind fun bt132 => (if a1 = 0 then (none) else (some (Int.tmod bt132.1 a1, bt132.2.1, bt132.2.2)))) else ((spec_l01Byte.f s0_0 s0_1 s0_2).bind fun bt135 => ((spec_l01Byte.f s0_0 bt135.2.1 bt135.2.2).bind fun bt138 => ((spec_l01Byte.f s0_0 bt138.2.1 bt138.2.2).bind fun bt141 => ((spec_l01Byte.f s0_0 bt141.2.1 bt141.2.2).bind fun bt144 => (if a1 = 0 then (none) else (some (Int.tmod (wrap64 ((wrap64 ((wrap64 ((wrap64 (bt135.1 * 16777216)) + (wrap64 (bt138.1 * 65536)))) + (wrap64 (bt141.1 * 256)))) + bt144.1)) a1, bt144.2.1, bt144.2.2))))))))) = some (r1, r2, r3) := h
 clear h
 by_cases c3 : a1 ≤ 0
 ·rw [if_pos c3] at H
  have c3b0 : decide (a1 ≤ 0) = true := decide_eq_true c3
  clear c3
  simp only [Option.some.injEq, Prod.mk.injEq] at H
  obtain ⟨rfl, rfl, rfl⟩ := H
  go_enter Try.func41, Try.ntmps41
  go_wp2
  go_ret
  exact ⟨B5x6_, B5x0_, B5x1_, B5x2_⟩
 ·rw [if_neg c3] at H
  have c3b0 : decide (a1 ≤ 0) = false := decide_eq_false c3
  clear c3
  by_cases c4 : a1 ≤ 256
  ·rw [if_pos c4] at H
   have c4b0 : decide (a1 ≤ 256) = true := decide_eq_true c4
   clear c4
   replace H := bsi H
   obtain ⟨⟨t132, t133, t134⟩, A5, H⟩ := H
   (try dsimp only at H)
   by_cases c6 : a1 = 0
   ·exact absurd H B5x13_
   rw [if_neg c6] at H
   have c6b0 := beq_eq_false_iff_ne.mpr c6
   have c6b1 := bne_iff_ne.mpr c6
   simp only [Option.some.injEq, Prod.mk.injEq] at H
   obtain ⟨rfl, rfl, rfl⟩ := H
   go_enter Try.func41, Try.ntmps41
   go_wp2_with (first | ((with_reducible refine gate_callee (f := 52) rfl ?_); refine goesL_ (some 14) rfl rfl Try.func52 B5x10_ rfl #[.pointer (some ⟨g, 0, none⟩)] rfl B5x4_ ?_; (with_reducible refine (spec_l01Byte.calls g s0_0 s0_1 s0_2 t132 t133 t134 w0 _ ?side1 ?side2 A5.out).mono ?_); (case side1 => exact B5x0_); (case side2 => exact B5x1_); rintro e w7 ⟨rfl, hi, hb, hk⟩; refine ⟨_, rfl, ?_⟩; replace HK := Aside0.mk (KeepBut.trans B5x2_ hk (.inl rfl)); replace HB := Aside0.mk (hb); replace HI0 := Aside0.mk (hi); (try clear hb hk hi)))
   go_ret
   exact ⟨B5x6_, B5x0_, B5x1_, B5x2_⟩
  ·rw [if_neg c4] at H
   have c4b0 : decide (a1 ≤ 256) = false := decide_eq_false c4
   clear c4
   replace H := bsi H
   obtain ⟨⟨t135, t136, t137⟩, A8, H⟩ := H
   (try dsimp only at H)
   replace H := bsi H
   obtain ⟨⟨t138, t139, t140⟩, A9, H⟩ := H
   (try dsimp only at H)
   replace H := bsi H
   obtain ⟨⟨t141, t142, t143⟩, A10, H⟩ := H
   (try dsimp only at H)
   replace H := bsi H
   obtain ⟨⟨t144, t145, t146⟩, A11, H⟩ := H
   (try dsimp only at H)
   by_cases c12 : a1 = 0
   ·exact absurd H B5x13_
   rw [if_neg c12] at H
   have c12b0 := beq_eq_false_iff_ne.mpr c12
   have c12b1 := bne_iff_ne.mpr c12
   simp only [Option.some.injEq, Prod.mk.injEq] at H
   obtain ⟨rfl, rfl, rfl⟩ := H
   go_enter Try.func41, Try.ntmps41
   go_wp2_with (first | ((with_reducible refine gate_callee (f := 52) rfl ?_); refine goesL_ (some 18) rfl rfl Try.func52 B5x10_ rfl #[.pointer (some ⟨g, 0, none⟩)] rfl B5x4_ ?_; (with_reducible refine (spec_l01Byte.calls g s0_0 s0_1 s0_2 t135 t136 t137 w0 _ ?side1 ?side2 A8.out).mono ?_); (case side1 => exact B5x0_); (case side2 => exact B5x1_); rintro e w13 ⟨rfl, hi, hb, hk⟩; refine ⟨_, rfl, ?_⟩; replace HK := Aside0.mk (KeepBut.trans B5x2_ hk (.inl rfl)); replace HB := Aside0.mk (hb); replace HI0 := Aside0.mk (hi); (try clear hb hk hi)) | ((with_reducible refine gate_callee (f := 52) rfl ?_); refine goesL_ (some 20) rfl rfl Try.func52 B5x10_ rfl #[.pointer (some ⟨g, 0, none⟩)] rfl B5x4_ ?_; (with_reducible refine (spec_l01Byte.calls g s0_0 t136 t137 t138 t139 t140 w0 _ ?side1 ?side2 A9.out).mono ?_); (case side1 => exact B5x0_); (case side2 => exact B5x1_); rintro e w14 ⟨rfl, hi, hb, hk⟩; refine ⟨_, rfl, ?_⟩; replace HK := Aside0.mk (KeepBut.trans B5x2_ hk (.inl rfl)); replace HB := Aside0.mk (hb); replace HI0 := Aside0.mk (hi); (try clear hb hk hi)) | ((with_reducible refine gate_callee (f := 52) rfl ?_); refine goesL_ (some 22) rfl rfl Try.func52 B5x10_ rfl #[.pointer (some ⟨g, 0, none⟩)] rfl B5x4_ ?_; (with_reducible refine (spec_l01Byte.calls g s0_0 t139 t140 t141 t142 t143 w0 _ ?side1 ?side2 A10.out).mono ?_); (case side1 => exact B5x0_); (case side2 => exact B5x1_); rintro e w15 ⟨rfl, hi, hb, hk⟩; refine ⟨_, rfl, ?_⟩; replace HK := Aside0.mk (KeepBut.trans B5x2_ hk (.inl rfl)); replace HB := Aside0.mk (hb); replace HI0 := Aside0.mk (hi); (try clear hb hk hi)) | ((with_reducible refine gate_callee (f := 52) rfl ?_); refine goesL_ (some 24) rfl rfl Try.func52 B5x10_ rfl #[.pointer (some ⟨g, 0, none⟩)] rfl B5x4_ ?_; (with_reducible refine (spec_l01Byte.calls g s0_0 t142 t143 t144 t145 t146 w0 _ ?side1 ?side2 A11.out).mono ?_); (case side1 => exact B5x0_); (case side2 => exact B5x1_); rintro e w16 ⟨rfl, hi, hb, hk⟩; refine ⟨_, rfl, ?_⟩; replace HK := Aside0.mk (KeepBut.trans B5x2_ hk (.inl rfl)); replace HB := Aside0.mk (hb); replace HI0 := Aside0.mk (hi); (try clear hb hk hi)))
   go_ret
   exact ⟨B5x6_, B5x0_, B5x1_, B5x2_⟩

/-! ### spec_l01PickInt: function 80 -/
def spec_l01PickInt.f (s0_0 : List Int) (s0_1 : Int) (s0_2 : Int) (l1 : List Int) : Option (Int × Int × Int) := (spec_l01Below.f s0_0 s0_1 s0_2 (l1.length : Int)).bind fun bt147 => (if 0 ≤ bt147.1 then (if bt147.1 < (l1.length : Int) then (some (rd l1 bt147.1, bt147.2.1, bt147.2.2)) else (none)) else (none))
set_option maxHeartbeats 8000000 in
set_option maxRecDepth 100000 in
theorem spec_l01PickInt.calls (g : Nat) (s0_0 : List Int) (s0_1 : Int) (s0_2 : Int) (A1 : Option Addr) (c1 : Nat) (l1 : List Int) (r1 : Int) (r2 : Int) (r3 : Int) (w0 w : World) (hI : IsS107 w0 w g s0_0 s0_1 s0_2) (hB : Below w0.heap.size w0 w) (hr1 : Kd.C (Kd.int .i64) w A1 l1.length l1) (hc1 : l1.length ≤ c1) (hf1 : ∀ ad, A1 = some ad → 0 < l1.length → ad.block ≠ g) (h : spec_l01PickInt.f s0_0 s0_1 s0_2 l1 = some (r1, r2, r3)) :
  Calls Try.prog 80 #[.pointer (some ⟨g, 0, none⟩), .slice A1 l1.length c1] w fun e w' => e = .returned (.int .i64 r1) ∧ IsS107 w0 w' g s0_0 r2 r3 ∧ Below w0.heap.size w0 w' ∧ KeepBut w w' g none := by
 have HR1 := Aside0.mk hr1
 have HC1 := Aside0.mk hc1
 clear hr1 hc1
 have HI0 := Aside0.mk hI
 have HK := Aside0.mk (KeepBut.refl w g none)
 have HL := Aside0.mk hB.size
 clear hI
 have HW0 := Aside0.mk hB.size
 have HB := Aside0.mk hB
 clear hB
 have H : ((spec_l01Below.f s0_0 s0_1 s0_2 (l1.length : Int)).bind fun bt147 => (if 0 ≤ bt147.1 then (if bt147.1 < (l1.length : Int) then (some (rd l1 bt147.1, bt147.2.1, bt147.2.2)) else (none)) else (none))) = some (r1, r2, r3) := h
 clear h
 replace H := bsi H
 obtain ⟨⟨t147, t148, t149⟩, A3, H⟩ := H
 (try dsimp only at H)
 by_cases c4 : 0 ≤ t147
 rotate_left
 ·rw [if_neg c4] at H
  exact absurd H (by simp)
 rw [if_pos c4] at H
 have c4b0 : decide (0 ≤ t147) = true := decide_eq_true c4
 clear c4
 by_cases c5 : t147 < (l1.length : Int)
 rotate_left
 ·rw [if_neg c5] at H
  exact absurd H (by simp)
 rw [if_pos c5] at H
 have c5b0 : decide (t147 < (l1.length : Int)) = true := decide_eq_true c5
 clear c5
 simp only [Option.some.injEq, Prod.mk.injEq] at H
 obtain ⟨rfl, rfl, rfl⟩ := H
 go_enter Try.func80, Try.ntmps80
 go_wp2_with (first | ((with_reducible refine gate_callee (f := 41) rfl ?_); refine goesL_ (some 9) rfl rfl Try.func41 B5x10_ rfl #[.pointer (some ⟨g, 0, none⟩), .int .i64 (l1.length : Int)] rfl B5x4_ ?_; (with_reducible refine (spec_l01Below.calls g s0_0 s0_1 s0_2 (l1.length : Int) t147 t148 t149 w0 _ ?side1 ?side2 A3.out).mono ?_); (case side1 => exact B5x0_); (case side2 => exact B5x1_); rintro e w6 ⟨rfl, hi, hb, hk⟩; refine ⟨_, rfl, ?_⟩; replace HK := Aside0.mk (KeepBut.trans B5x2_ hk (.inl rfl)); replace HB := Aside0.mk (hb); replace HI0 := Aside0.mk (hi); (try clear hb hk hi); have p150 : 0 ≤ (t147 : Int) := of_decide_eq_true B5x3_; have q150 : t147 < (l1.length : Int) := of_decide_eq_true B5x3_; obtain ⟨ad150, e150, hx150_0⟩ := Kd.at_int HR1.out t147 p150 q150; cases e150; replace hx150_0 := keep_cell HK.out hx150_0 (by first | (rw [add_block]; exact hf1 _ rfl (by omega)) | exact hf1 _ rfl (by omega) | exact hf1 ad150 rfl (by omega)); replace p150 := eq_true p150; replace q150 := eq_true q150))
 go_ret
 exact ⟨B5x6_, B5x0_, B5x1_, B5x2_⟩

/-! ### spec_l05Rise: function 108 -/
def spec_l05Rise.l0 : Nat → List Int → Int → Int → Int → Option (Bool)
 | 0, _, _, _, _ => none
 | k + 1, x0, x1, x2, x7 => if x7 < (x0.length : Int) then (if 0 ≤ x7 then ((spec_l01In.f (rd x0 x7) x1 x2).bind fun t152 => (if t152 = true then (if x7 > 0 then (if 0 ≤ (wrap64 (x7 - 1)) then (if (wrap64 (x7 - 1)) < (x0.length : Int) then (if (rd x0 (wrap64 (x7 - 1))) ≥ (rd x0 x7) then (some false) else (spec_l05Rise.l0 k x0 x1 x2 (wrap64 (x7 + 1)))) else (none)) else (none)) else (spec_l05Rise.l0 k x0 x1 x2 (wrap64 (x7 + 1)))) else (some false))) else (none)) else (some true)
def spec_l05Rise.f (k : Nat) (l0 : List Int) (a1 : Int) (a2 : Int) : Option (Bool) := spec_l05Rise.l0 k l0 a1 a2 0
theorem spec_l05Rise.mono_l : ∀ k, (∀ y0 y1 y2 y3, LeO (spec_l05Rise.l0 k y0 y1 y2 y3) (spec_l05Rise.l0 (k + 1) y0 y1 y2 y3))
 | 0 => fun _ _ _ _ r h => by simp [spec_l05Rise.l0] at h
 | k + 1 => by
  have ih0 := spec_l05Rise.mono_l k
  ·intro y0 y1 y2 y3
   unfold spec_l05Rise.l0
   repeat' first
   | (with_reducible exact ih0 _ _ _ _)
   | (with_reducible first | exact LeO.refl _ | exact LeO.none _ | refine LeO.ite ?_ ?_ | refine LeO.bind ?_ (fun _ => ?_))
   | exact ih0 _ _ _ _
theorem spec_l05Rise.mono : ∀ a0 a1 a2 k, LeO (spec_l05Rise.f k a0 a1 a2) (spec_l05Rise.f (k + 1) a0 a1 a2) := by
 intro a0 a1 a2 k
 have ih0 := spec_l05Rise.mono_l k
 unfold spec_l05Rise.f
 repeat' first
   | (with_reducible exact ih0 _ _ _ _)
   | (with_reducible first | exact LeO.refl _ | exact LeO.none _ | refine LeO.ite ?_ ?_ | refine LeO.bind ?_ (fun _ => ?_))
   | exact ih0 _ _ _ _
set_option maxHeartbeats 8000000 in
set_option maxRecDepth 100000 in
theorem spec_l05Rise.calls (k : Nat) (A0 : Option Addr) (c0 : Nat) (l0 : List Int) (a1 : Int) (a2 : Int) (r : Bool) (w : World) (hr0 : Kd.C (Kd.int .i64) w A0 l0.length l0) (hc0 : l0.length ≤ c0) (h : spec_l05Rise.f k l0 a1 a2 = some r) :
  Calls Try.prog 108 #[.slice A0 l0.length c0, .int .i64 a1, .int .i64 a2] w fun e w' => e = .returned (.bool r) ∧ Drawn0 w w' := by
 have HR0 := Aside0.mk hr0
 have HC0 := Aside0.mk hc0
 clear hr0 hc0
 have H : (spec_l05Rise.l0 k l0 a1 a2 0) = some r := h
 clear h
 have H' := Aside0.mk H
 clear H
 go_enter Try.func108, Try.ntmps108
 go_wp2
 repeat (go_quiet (fail); try go_wp2)
 go_loopg [7] k (fun kq v7 w' => ∃ (x7_1 : Int), v7 = .int .i64 x7_1 ∧ Aside0 (spec_l05Rise.l0 kq l0 a1 a2 x7_1 = some r) ∧ Aside0 (kq ≤ k) ∧ Drawn0 w w')
 case atStart => exact ⟨(0), (be_), H', ⟨Nat.le_refl _⟩, by repeat (first | exact Drawn0.refl _ | apply Drawn0.step)⟩
 case round =>
  clear H'
  obtain ⟨x7_1, rfl, HA, HK1, ⟨m1, rfl⟩⟩ := hrel
  cases gk with
  | zero => exact absurd HA.out (by simp [spec_l05Rise.l0])
  | succ k1 =>
   have H := HA.out
   clear HA
   simp only [spec_l05Rise.l0] at H
   by_cases c4 : x7_1 < (l0.length : Int)
   ·rw [if_pos c4] at H
    have c4b0 : decide (x7_1 < (l0.length : Int)) = true := decide_eq_true c4
    clear c4
    by_cases c5 : 0 ≤ x7_1
    rotate_left
    ·rw [if_neg c5] at H
     exact absurd H (by simp)
    rw [if_pos c5] at H
    have c5b0 : decide (0 ≤ x7_1) = true := decide_eq_true c5
    clear c5
    replace H := bsi H
    obtain ⟨t152, A6, H⟩ := H
    (try dsimp only at H)
    by_cases c7 : t152 = true
    ·subst c7
     rw [if_pos rfl] at H
     by_cases c8 : x7_1 > 0
     ·rw [if_pos c8] at H
      have c8b0 : decide (0 < x7_1) = true := decide_eq_true c8
      clear c8
      obtain ⟨ji9, hji9⟩ : ∃ j_ : Int, (wrap64 (x7_1 - 1)) = j_ := ⟨_, rfl⟩
      replace H : (if 0 ≤ (ji9) then (if (ji9) < (l0.length : Int) then (if (rd l0 (ji9)) ≥ (rd l0 x7_1) then (some false) else (spec_l05Rise.l0 k1 l0 a1 a2 (wrap64 (x7_1 + 1)))) else (none)) else (none)) = some r := by first | (rw [hji9] at H; exact H) | (simp only [hji9] at H ⊢; exact H)
      (try rw [hji9] at A6)
      have hji9w : (IntKind.i64.wrap (x7_1 - 1)) = ji9 := (i64_w _).trans hji9
      by_cases c10 : 0 ≤ (ji9)
      rotate_left
      ·rw [if_neg c10] at H
       exact absurd H (by simp)
      rw [if_pos c10] at H
      have c10b0 : decide (0 ≤ (ji9)) = true := decide_eq_true c10
      clear c10
      by_cases c11 : (ji9) < (l0.length : Int)
      rotate_left
      ·rw [if_neg c11] at H
       exact absurd H (by simp)
      rw [if_pos c11] at H
      have c11b0 : decide ((ji9) < (l0.length : Int)) = true := decide_eq_true c11
      clear c11
      by_cases c12 : (rd l0 (ji9)) ≥ (rd l0 x7_1)
      ·rw [if_pos c12] at H
       have c12b0 : decide ((rd l0 x7_1) ≤ (rd l0 (ji9))) = true := decide_eq_true c12
       clear c12
       obtain rfl := Option.some.inj H
       have p151 : 0 ≤ (x7_1 : Int) := of_decide_eq_true B5x3_
       have q151 : x7_1 < (l0.length : Int) := of_decide_eq_true B5x3_
       obtain ⟨ad151, e151, hx151_0⟩ := Kd.at_int HR0.out x7_1 p151 q151
       cases e151
       replace p151 := eq_true p151
       replace q151 := eq_true q151
       go_wp2_with (first | (go_at_call 47; (with_reducible refine (spec_l01In.calls (rd l0 x7_1) a1 a2 true _ A6.out).mono ?_); rintro e w' ⟨rfl, ⟨nd, rfl⟩⟩; (try first | exact ⟨rfl, _, World.drewN_drewN _ _ _⟩ | exact ⟨rfl, _, Eq.trans (World.drewN_drewN _ _ _) (congrArg (World.drewN _) (Nat.add_assoc _ _ _))⟩); have p153 : 0 ≤ ((ji9) : Int) := of_decide_eq_true B5x3_; have q153 : (ji9) < (l0.length : Int) := of_decide_eq_true B5x3_; obtain ⟨ad153, e153, hx153_0⟩ := Kd.at_int HR0.out (ji9) p153 q153; obtain rfl : ad151 = ad153 := B5x14_; replace p153 := eq_true p153; replace q153 := eq_true q153; have p154 : 0 ≤ (x7_1 : Int) := of_decide_eq_true B5x3_; have q154 : x7_1 < (l0.length : Int) := of_decide_eq_true B5x3_; obtain ⟨ad154, e154, hx154_0⟩ := Kd.at_int HR0.out x7_1 p154 q154; obtain rfl : ad151 = ad154 := B5x15_; replace p154 := eq_true p154; replace q154 := eq_true q154))
       repeat (go_quiet (first | (go_at_call 47; (with_reducible refine (spec_l01In.calls (rd l0 x7_1) a1 a2 true _ A6.out).mono ?_); rintro e w' ⟨rfl, ⟨nd, rfl⟩⟩; (try first | exact ⟨rfl, _, World.drewN_drewN _ _ _⟩ | exact ⟨rfl, _, Eq.trans (World.drewN_drewN _ _ _) (congrArg (World.drewN _) (Nat.add_assoc _ _ _))⟩); have p153 : 0 ≤ ((ji9) : Int) := of_decide_eq_true B5x3_; have q153 : (ji9) < (l0.length : Int) := of_decide_eq_true B5x3_; obtain ⟨ad153, e153, hx153_0⟩ := Kd.at_int HR0.out (ji9) p153 q153; obtain rfl : ad151 = ad153 := B5x14_; replace p153 := eq_true p153; replace q153 := eq_true q153; have p154 : 0 ≤ (x7_1 : Int) := of_decide_eq_true B5x3_; have q154 : x7_1 < (l0.length : Int) := of_decide_eq_true B5x3_; obtain ⟨ad154, e154, hx154_0⟩ := Kd.at_int HR0.out x7_1 p154 q154; obtain rfl : ad151 = ad154 := B5x15_; replace p154 := eq_true p154; replace q154 := eq_true q154)); try go_wp2_with (first | (go_at_call 47; (with_reducible refine (spec_l01In.calls (rd l0 x7_1) a1 a2 true _ A6.out).mono ?_); rintro e w' ⟨rfl, ⟨nd, rfl⟩⟩; (try first | exact ⟨rfl, _, World.drewN_drewN _ _ _⟩ | exact ⟨rfl, _, Eq.trans (World.drewN_drewN _ _ _) (congrArg (World.drewN _) (Nat.add_assoc _ _ _))⟩); have p153 : 0 ≤ ((ji9) : Int) := of_decide_eq_true B5x3_; have q153 : (ji9) < (l0.length : Int) := of_decide_eq_true B5x3_; obtain ⟨ad153, e153, hx153_0⟩ := Kd.at_int HR0.out (ji9) p153 q153; obtain rfl : ad151 = ad153 := B5x14_; replace p153 := eq_true p153; replace q153 := eq_true q153; have p154 : 0 ≤ (x7_1 : Int) := of_decide_eq_true B5x3_; have q154 : x7_1 < (l0.length : Int) := of_decide_eq_true B5x3_; obtain ⟨ad154, e154, hx154_0⟩ := Kd.at_int HR0.out x7_1 p154 q154; obtain rfl : ad151 = ad154 := B5x15_; replace p154 := eq_true p154; replace q154 := eq_true q154)))
       go_ret
       exact ⟨(by first | rfl | (simp; done) | (simp only [← hji9] <;> (first | rfl | simp)) | (simp [*]; done)), B5x9_⟩
      ·rw [if_neg c12] at H
       have c12b0 : decide ((rd l0 x7_1) ≤ (rd l0 (ji9))) = false := decide_eq_false c12
       clear c12
       have H' := Aside0.mk H
       clear H
       have p151 : 0 ≤ (x7_1 : Int) := of_decide_eq_true B5x3_
       have q151 : x7_1 < (l0.length : Int) := of_decide_eq_true B5x3_
       obtain ⟨ad151, e151, hx151_0⟩ := Kd.at_int HR0.out x7_1 p151 q151
       cases e151
       replace p151 := eq_true p151
       replace q151 := eq_true q151
       go_wp2_with (first | (go_at_call 47; (with_reducible refine (spec_l01In.calls (rd l0 x7_1) a1 a2 true _ A6.out).mono ?_); rintro e w' ⟨rfl, ⟨nd, rfl⟩⟩; (try first | exact ⟨rfl, _, World.drewN_drewN _ _ _⟩ | exact ⟨rfl, _, Eq.trans (World.drewN_drewN _ _ _) (congrArg (World.drewN _) (Nat.add_assoc _ _ _))⟩); have p153 : 0 ≤ ((ji9) : Int) := of_decide_eq_true B5x3_; have q153 : (ji9) < (l0.length : Int) := of_decide_eq_true B5x3_; obtain ⟨ad153, e153, hx153_0⟩ := Kd.at_int HR0.out (ji9) p153 q153; obtain rfl : ad151 = ad153 := B5x14_; replace p153 := eq_true p153; replace q153 := eq_true q153; have p154 : 0 ≤ (x7_1 : Int) := of_decide_eq_true B5x3_; have q154 : x7_1 < (l0.length : Int) := of_decide_eq_true B5x3_; obtain ⟨ad154, e154, hx154_0⟩ := Kd.at_int HR0.out x7_1 p154 q154; obtain rfl : ad151 = ad154 := B5x15_; replace p154 := eq_true p154; replace q154 := eq_true q154))
       repeat (go_quiet (first | (go_at_call 47; (with_reducible refine (spec_l01In.calls (rd l0 x7_1) a1 a2 true _ A6.out).mono ?_); rintro e w' ⟨rfl, ⟨nd, rfl⟩⟩; (try first | exact ⟨rfl, _, World.drewN_drewN _ _ _⟩ | exact ⟨rfl, _, Eq.trans (World.drewN_drewN _ _ _) (congrArg (World.drewN _) (Nat.add_assoc _ _ _))⟩); have p153 : 0 ≤ ((ji9) : Int) := of_decide_eq_true B5x3_; have q153 : (ji9) < (l0.length : Int) := of_decide_eq_true B5x3_; obtain ⟨ad153, e153, hx153_0⟩ := Kd.at_int HR0.out (ji9) p153 q153; obtain rfl : ad151 = ad153 := B5x14_; replace p153 := eq_true p153; replace q153 := eq_true q153; have p154 : 0 ≤ (x7_1 : Int) := of_decide_eq_true B5x3_; have q154 : x7_1 < (l0.length : Int) := of_decide_eq_true B5x3_; obtain ⟨ad154, e154, hx154_0⟩ := Kd.at_int HR0.out x7_1 p154 q154; obtain rfl : ad151 = ad154 := B5x15_; replace p154 := eq_true p154; replace q154 := eq_true q154)); try go_wp2_with (first | (go_at_call 47; (with_reducible refine (spec_l01In.calls (rd l0 x7_1) a1 a2 true _ A6.out).mono ?_); rintro e w' ⟨rfl, ⟨nd, rfl⟩⟩; (try first | exact ⟨rfl, _, World.drewN_drewN _ _ _⟩ | exact ⟨rfl, _, Eq.trans (World.drewN_drewN _ _ _) (congrArg (World.drewN _) (Nat.add_assoc _ _ _))⟩); have p153 : 0 ≤ ((ji9) : Int) := of_decide_eq_true B5x3_; have q153 : (ji9) < (l0.length : Int) := of_decide_eq_true B5x3_; obtain ⟨ad153, e153, hx153_0⟩ := Kd.at_int HR0.out (ji9) p153 q153; obtain rfl : ad151 = ad153 := B5x14_; replace p153 := eq_true p153; replace q153 := eq_true q153; have p154 : 0 ≤ (x7_1 : Int) := of_decide_eq_true B5x3_; have q154 : x7_1 < (l0.length : Int) := of_decide_eq_true B5x3_; obtain ⟨ad154, e154, hx154_0⟩ := Kd.at_int HR0.out x7_1 p154 q154; obtain rfl : ad151 = ad154 := B5x15_; replace p154 := eq_true p154; replace q154 := eq_true q154)))
       go_roundg k1
       case measure => have := HK1.out; omega
       case rel => exact ⟨(wrap64 (x7_1 + 1)), (be_), H', ⟨B5x12_⟩, by repeat (first | exact Drawn0.refl _ | apply Drawn0.step)⟩
     ·rw [if_neg c8] at H
      have c8b0 : decide (0 < x7_1) = false := decide_eq_false c8
      clear c8
      have H' := Aside0.mk H
      clear H
      have p151 : 0 ≤ (x7_1 : Int) := of_decide_eq_true B5x3_
      have q151 : x7_1 < (l0.length : Int) := of_decide_eq_true B5x3_
      obtain ⟨ad151, e151, hx151_0⟩ := Kd.at_int HR0.out x7_1 p151 q151
      cases e151
      replace p151 := eq_true p151
      replace q151 := eq_true q151
      go_wp2_with (first | (go_at_call 47; (with_reducible refine (spec_l01In.calls (rd l0 x7_1) a1 a2 true _ A6.out).mono ?_); rintro e w' ⟨rfl, ⟨nd, rfl⟩⟩; (try first | exact ⟨rfl, _, World.drewN_drewN _ _ _⟩ | exact ⟨rfl, _, Eq.trans (World.drewN_drewN _ _ _) (congrArg (World.drewN _) (Nat.add_assoc _ _ _))⟩)))
      repeat (go_quiet (first | (go_at_call 47; (with_reducible refine (spec_l01In.calls (rd l0 x7_1) a1 a2 true _ A6.out).mono ?_); rintro e w' ⟨rfl, ⟨nd, rfl⟩⟩; (try first | exact ⟨rfl, _, World.drewN_drewN _ _ _⟩ | exact ⟨rfl, _, Eq.trans (World.drewN_drewN _ _ _) (congrArg (World.drewN _) (Nat.add_assoc _ _ _))⟩))); try go_wp2_with (first | (go_at_call 47; (with_reducible refine (spec_l01In.calls (rd l0 x7_1) a1 a2 true _ A6.out).mono ?_); rintro e w' ⟨rfl, ⟨nd, rfl⟩⟩; (try first | exact ⟨rfl, _, World.drewN_drewN _ _ _⟩ | exact ⟨rfl, _, Eq.trans (World.drewN_drewN _ _ _) (congrArg (World.drewN _) (Nat.add_assoc _ _ _))⟩))))
      go_roundg k1
      case measure => have := HK1.out; omega
      case rel => exact ⟨(wrap64 (x7_1 + 1)), (be_), H', ⟨B5x12_⟩, by repeat (first | exact Drawn0.refl _ | apply Drawn0.step)⟩
    ·replace c7 := Bool.eq_false_iff.mpr c7
     subst c7
     rw [if_neg (show ¬ (false = true) by decide)] at H
     obtain rfl := Option.some.inj H
     have p151 : 0 ≤ (x7_1 : Int) := of_decide_eq_true B5x3_
     have q151 : x7_1 < (l0.length : Int) := of_decide_eq_true B5x3_
     obtain ⟨ad151, e151, hx151_0⟩ := Kd.at_int HR0.out x7_1 p151 q151
     cases e151
     replace p151 := eq_true p151
     replace q151 := eq_true q151
     go_wp2_with (first | (go_at_call 47; (with_reducible refine (spec_l01In.calls (rd l0 x7_1) a1 a2 false _ A6.out).mono ?_); rintro e w' ⟨rfl, ⟨nd, rfl⟩⟩; (try first | exact ⟨rfl, _, World.drewN_drewN _ _ _⟩ | exact ⟨rfl, _, Eq.trans (World.drewN_drewN _ _ _) (congrArg (World.drewN _) (Nat.add_assoc _ _ _))⟩)))
     repeat (go_quiet (first | (go_at_call 47; (with_reducible refine (spec_l01In.calls (rd l0 x7_1) a1 a2 false _ A6.out).mono ?_); rintro e w' ⟨rfl, ⟨nd, rfl⟩⟩; (try first | exact ⟨rfl, _, World.drewN_drewN _ _ _⟩ | exact ⟨rfl, _, Eq.trans (World.drewN_drewN _ _ _) (congrArg (World.drewN _) (Nat.add_assoc _ _ _))⟩))); try go_wp2_with (first | (go_at_call 47; (with_reducible refine (spec_l01In.calls (rd l0 x7_1) a1 a2 false _ A6.out).mono ?_); rintro e w' ⟨rfl, ⟨nd, rfl⟩⟩; (try first | exact ⟨rfl, _, World.drewN_drewN _ _ _⟩ | exact ⟨rfl, _, Eq.trans (World.drewN_drewN _ _ _) (congrArg (World.drewN _) (Nat.add_assoc _ _ _))⟩))))
     go_ret
     exact ⟨B5x11_, B5x9_⟩
   ·rw [if_neg c4] at H
    have c4b0 : decide (x7_1 < (l0.length : Int)) = false := decide_eq_false c4
    clear c4
    obtain rfl := Option.some.inj H
    go_wp2
    repeat (go_quiet (fail); try go_wp2)
    go_ret
    exact ⟨B5x11_, B5x9_⟩

/-! ### spec_ConfOk: function 102 -/
def spec_ConfOk.f (k : Nat) (l0 : List Int) : Option (Bool) := (spec_l01In.f (l0.length : Int) 1 4).bind fun t155 => (if t155 = true then ((spec_l05Rise.f k l0 1 4).bind fun t156 => (some t156)) else (some false))
theorem spec_ConfOk.mono : ∀ a0 k, LeO (spec_ConfOk.f k a0) (spec_ConfOk.f (k + 1) a0) := by
 intro a0 k
 unfold spec_ConfOk.f
 repeat' first
   | (with_reducible exact spec_l05Rise.mono _ _ _ _)
   | (with_reducible first | exact LeO.refl _ | exact LeO.none _ | refine LeO.ite ?_ ?_ | refine LeO.bind ?_ (fun _ => ?_))
   | exact spec_l05Rise.mono _ _ _ _
set_option maxHeartbeats 8000000 in
set_option maxRecDepth 100000 in
theorem spec_ConfOk.calls (k : Nat) (A0 : Option Addr) (c0 : Nat) (l0 : List Int) (r : Bool) (w : World) (hr0 : Kd.C (Kd.int .i64) w A0 l0.length l0) (hc0 : l0.length ≤ c0) (h : spec_ConfOk.f k l0 = some r) :
  Calls Try.prog 102 #[.slice A0 l0.length c0] w fun e w' => e = .returned (.bool r) ∧ Drawn0 w w' := by
 have HR0 := Aside0.mk hr0
 have HC0 := Aside0.mk hc0
 clear hr0 hc0
 have H : ((spec_l01In.f (l0.length : Int) 1 4).bind fun t155 => (if t155 = true then ((spec_l05Rise.f k l0 1 4).bind fun t156 => (some t156)) else (some false))) = some r := h
 clear h
 replace H := bsi H
 obtain ⟨t155, A2, H⟩ := H
 (try dsimp only at H)
 by_cases c3 : t155 = true
 ·subst c3
  rw [if_pos rfl] at H
  replace H := bsi H
  obtain ⟨t156, A4, H⟩ := H
  (try dsimp only at H)
  obtain rfl := Option.some.inj H
  go_enter Try.func102, Try.ntmps102
  go_wp2_with (first | ((with_reducible refine gate_callee (f := 47) rfl ?_); refine goesL_ (some 5) rfl rfl Try.func47 B5x10_ rfl #[.int .i64 (l0.length : Int), .int .i64 1, .int .i64 4] rfl B5x4_ ?_; (with_reducible refine (spec_l01In.calls (l0.length : Int) 1 4 true _ A2.out).mono ?_); rintro e w' ⟨rfl, ⟨nd, rfl⟩⟩; refine ⟨_, rfl, ?_⟩) | (go_at_call 108; (with_reducible refine (spec_l05Rise.calls k _ _ l0 1 4 t156 _ ?side1 ?side2 A4.out).mono ?_); (case side1 => exact B5x8_); (case side2 => exact HC0.out); rintro e w' ⟨rfl, ⟨nd, rfl⟩⟩))
  go_ret
  exact ⟨B5x11_, B5x9_⟩
 ·replace c3 := Bool.eq_false_iff.mpr c3
  subst c3
  rw [if_neg (show ¬ (false = true) by decide)] at H
  obtain rfl := Option.some.inj H
  go_enter Try.func102, Try.ntmps102
  go_wp2_with (first | ((with_reducible refine gate_callee (f := 47) rfl ?_); refine goesL_ (some 5) rfl rfl Try.func47 B5x10_ rfl #[.int .i64 (l0.length : Int), .int .i64 1, .int .i64 4] rfl B5x4_ ?_; (with_reducible refine (spec_l01In.calls (l0.length : Int) 1 4 false _ A2.out).mono ?_); rintro e w' ⟨rfl, ⟨nd, rfl⟩⟩; refine ⟨_, rfl, ?_⟩))
  go_ret
  exact ⟨B5x11_, B5x9_⟩

/-! ### spec_ConfText: function 82 -/
def spec_ConfText.l0 : Nat → List Int → List Int → Int → Option (ByteArray × Bool)
 | 0, _, _, _ => none
 | k + 1, x0, x4, x5 => if x5 < (x0.length : Int) then (if 0 ≤ x5 then (if x4.length < 140737488355328 then (spec_ConfText.l0 k x0 (x4 ++ [(rd x0 x5) % 256]) (wrap64 (x5 + 1))) else (none)) else (none)) else (some (strOfNums x4, true))
def spec_ConfText.f (k : Nat) (l0 : List Int) : Option (ByteArray × Bool) := (spec_ConfOk.f k l0).bind fun t157 => (if t157 = true then (spec_ConfText.l0 k l0 (([] : List Int)) 0) else (some ((⟨#[]⟩ : ByteArray), false)))
theorem spec_ConfText.mono_l : ∀ k, (∀ y0 y1 y2, LeO (spec_ConfText.l0 k y0 y1 y2) (spec_ConfText.l0 (k + 1) y0 y1 y2))
 | 0 => fun _ _ _ r h => by simp [spec_ConfText.l0] at h
 | k + 1 => by
  have ih0 := spec_ConfText.mono_l k
  ·intro y0 y1 y2
   unfold spec_ConfText.l0
   repeat' first
   | (with_reducible exact ih0 _ _ _)
   | (with_reducible exact spec_ConfOk.mono _ _)
   | (with_reducible first | exact LeO.refl _ | exact LeO.none _ | refine LeO.ite ?_ ?_ | refine LeO.bind ?_ (fun _ => ?_))
   | exact ih0 _ _ _
   | exact spec_ConfOk.mono _ _
theorem spec_ConfText.mono : ∀ a0 k, LeO (spec_ConfText.f k a0) (spec_ConfText.f (k + 1) a0) := by
 intro a0 k
 have ih0 := spec_ConfText.mono_l k
 unfold spec_ConfText.f
 repeat' first
   | (with_reducible exact ih0 _ _ _)
   | (with_reducible exact spec_ConfOk.mono _ _)
   | (with_reducible first | exact LeO.refl _ | exact LeO.none _ | refine LeO.ite ?_ ?_ | refine LeO.bind ?_ (fun _ => ?_))
   | exact ih0 _ _ _
   | exact spec_ConfOk.mono _ _
set_option maxHeartbeats 8000000 in
set_option maxRecDepth 100000 in
theorem spec_ConfText.calls (k : Nat) (A0 : Option Addr) (c0 : Nat) (l0 : List Int) (r1 : ByteArray) (r2 : Bool) (w : World) (hr0 : Kd.C (Kd.int .i64) w A0 l0.length l0) (hc0 : l0.length ≤ c0) (h : spec_ConfText.f k l0 = some (r1, r2)) :
  Calls Try.prog 82 #[.slice A0 l0.length c0] w fun e w' => e = .returned (.tuple #[.string r1, .bool r2]) ∧ Below w.heap.size w w' := by
 have HR0 := Aside0.mk hr0
 have HC0 := Aside0.mk hc0
 clear hr0 hc0
 have HB := Aside0.mk (Below.refl w.heap.size w)
 have H : ((spec_ConfOk.f k l0).bind fun t157 => (if t157 = true then (spec_ConfText.l0 k l0 (([] : List Int)) 0) else (some ((⟨#[]⟩ : ByteArray), false)))) = some (r1, r2) := h
 clear h
 replace H := bsi H
 obtain ⟨t157, A2, H⟩ := H
 (try dsimp only at H)
 by_cases c3 : t157 = true
 ·subst c3
  rw [if_pos rfl] at H
  obtain ⟨y158, hy158⟩ : ∃ y_ : List Int, y_ = (([] : List Int)) := ⟨_, rfl⟩
  replace H : (spec_ConfText.l0 k l0 y158 0) = some (r1, r2) := by first | (rw [hy158]; with_reducible exact H) | (have H2_ := (Option.bind_some _ _).symm.trans H; rw [hy158]; with_reducible exact H2_) | (have H2_ := (Option.bind_some _ _).symm.trans H; with_reducible exact H2_) | with_reducible exact H | (rw [hy158]; exact H) | exact H
  have Ny158 := Aside0.mk hy158
  clear hy158
  have H' := Aside0.mk H
  clear H
  go_enter Try.func82, Try.ntmps82
  go_wp2_with (first | ((with_reducible refine gate_callee (f := 102) rfl ?_); refine goesL_ (some 7) rfl rfl Try.func102 B5x10_ rfl #[.slice A0 l0.length c0] rfl B5x4_ ?_; (with_reducible refine (spec_ConfOk.calls k _ _ l0 true _ ?side1 ?side2 A2.out).mono ?_); (case side1 => exact B5x8_); (case side2 => exact HC0.out); rintro e w' ⟨rfl, ⟨nd, rfl⟩⟩; refine ⟨_, rfl, ?_⟩) | ((with_reducible refine gate_dst (N := 9) rfl ?_); refine Kd.R_lit (Kd.int .u8) _ 5 ?hg (N := 9) ?hd (xs := ([] : List Int)) (inner := []) (ok := fun _ => True) (okp := fun _ => True) ?hr ?hp (fun _ hk => hk) trivial (Below.refl _ _) (Nat.le_refl _) (by simp) ?_; (case hd => rfl); (case hg => rfl); (case hr => first | (go_simp; done) | (go_simp; rfl)); (case hp => exact (Reps.none _ _)); intro v159 w4 ho5 hb hg_ hnew_; clear hg_ hnew_; (first | rw [← Ny158.out] at ho5 | (simp only [Int.reduceToNat] at ho5; rw [← Ny158.out] at ho5)); have HO160 := Aside0.mk (Kd.R_lower ho5 (below_size B5x5_)); replace HB := Aside0.mk (below_step B5x5_ hb); clear hb ho5))
  go_loopg [4, 5] k (fun kq v4 v5 w' => ∃ (x4_1 : List Int) (x5_1 : Int), v5 = .int .i64 x5_1 ∧ Aside0 (spec_ConfText.l0 kq l0 x4_1 x5_1 = some (r1, r2)) ∧ Aside0 (kq ≤ k) ∧ Aside0 (Kd.R (Kd.int .u8) 5 w' w.heap.size (fun _ => True) v4 x4_1) ∧ Aside0 (Below w.heap.size w w'))
  case atStart => exact ⟨(y158), (0), (be_), H', ⟨Nat.le_refl _⟩, ⟨(by (with_reducible repeat (first | apply Kd.R_alloc | apply Kd.R_drewN | apply Kd.R_drew)); exact HO160.out)⟩, ⟨B5x5_⟩⟩
  case round =>
   clear H'
   try clear c3
   obtain ⟨x4_1, x5_1, rfl, HA, HK1, HO_4, HB⟩ := hrel
   cases gk with
   | zero => exact absurd HA.out (by simp [spec_ConfText.l0])
   | succ k1 =>
    have H := HA.out
    clear HA
    simp only [spec_ConfText.l0] at H
    by_cases c6 : x5_1 < (l0.length : Int)
    ·rw [if_pos c6] at H
     have c6b0 : decide (x5_1 < (l0.length : Int)) = true := decide_eq_true c6
     clear c6
     by_cases c7 : 0 ≤ x5_1
     rotate_left
     ·rw [if_neg c7] at H
      exact absurd H (by simp)
     rw [if_pos c7] at H
     have c7b0 : decide (0 ≤ x5_1) = true := decide_eq_true c7
     clear c7
     by_cases c8 : x4_1.length < 140737488355328
     rotate_left
     ·rw [if_neg c8] at H
      exact absurd H (by simp)
     rw [if_pos c8] at H
     have LMc8 := Aside0.mk c8
     clear c8
     obtain ⟨y162, hy162⟩ : ∃ y_ : List Int, y_ = (x4_1 ++ [(rd l0 x5_1) % 256]) := ⟨_, rfl⟩
     replace H : (spec_ConfText.l0 k1 l0 y162 (wrap64 (x5_1 + 1))) = some (r1, r2) := by first | (rw [hy162]; with_reducible exact H) | (have H2_ := (Option.bind_some _ _).symm.trans H; rw [hy162]; with_reducible exact H2_) | (have H2_ := (Option.bind_some _ _).symm.trans H; with_reducible exact H2_) | with_reducible exact H | (rw [hy162]; exact H) | exact H
     have Ny162 := Aside0.mk hy162
     clear hy162
     have H' := Aside0.mk H
     clear H
     have p161 : 0 ≤ (x5_1 : Int) := of_decide_eq_true B5x3_
     have q161 : x5_1 < (l0.length : Int) := of_decide_eq_true B5x3_
     obtain ⟨ad161, e161, hx161_0⟩ := Kd.at_int HR0.out x5_1 p161 q161
     cases e161
     replace hx161_0 := (HB.out.cell (World.block_lt_of_cell? w _ hx161_0)).trans hx161_0
     replace p161 := eq_true p161
     replace q161 := eq_true q161
     go_wp2_with (first | ((with_reducible refine gate_builtin (b := .append) (xs := #[.tmp 16, .tmp 22]) rfl ?_); at_builtin; refine Kd.R_append (Kd.int .u8) (w0 := w) w.heap.size rfl (.tmp 16) (.tmp 22) 22 5 (.int .u8 0) 1 rfl Try.underlying22 info5 rfl (by decide) (by omega) u4 x4_1 ((rd l0 x5_1) % 256) [.int .u8 ((rd l0 x5_1) % 256)] (fun _ => True) (fun _ => False) rfl rfl ?aP (fun _ hk => hk.elim) ?aF ?aO ?aB ?aS ?aL ?_; (case aP => exact rfl); (case aB => exact B5x5_); (case aF => exact (fun _ _ => trivial)); (case aO => (with_reducible repeat (first | apply Kd.R_alloc | apply Kd.R_drewN | apply Kd.R_drew)); exact HO_4.out); (case aS => exact (below_size B5x5_)); (case aL => have := LMc8.out; omega); intro v163 w9 ho hb hg hat; rw [← Ny162.out] at ho; replace HB := Aside0.mk (hb); have HO164 := Aside0.mk (ho); clear HO_4; clear ho hb hg hat))
     go_roundg k1
     case measure => have := HK1.out; omega
     case rel => exact ⟨(y162), (wrap64 (x5_1 + 1)), (be_), H', ⟨B5x12_⟩, ⟨(by (with_reducible repeat (first | apply Kd.R_alloc | apply Kd.R_drewN | apply Kd.R_drew)); exact HO164.out)⟩, ⟨B5x5_⟩⟩
    ·rw [if_neg c6] at H
     have c6b0 : decide (x5_1 < (l0.length : Int)) = false := decide_eq_false c6
     clear c6
     simp only [Option.some.injEq, Prod.mk.injEq] at H
     obtain ⟨rfl, rfl⟩ := H
     have hcv10 := own_string (P := Try.prog) Try.underlying22 Try.underlying5 Try.underlying9 (Kd.own_of_R HO_4.out)
     go_wp2
     go_ret2
     exact ⟨B5x6_, B5x5_⟩
 ·replace c3 := Bool.eq_false_iff.mpr c3
  subst c3
  rw [if_neg (show ¬ (false = true) by decide)] at H
  simp only [Option.some.injEq, Prod.mk.injEq] at H
  obtain ⟨rfl, rfl⟩ := H
  go_enter Try.func82, Try.ntmps82
  go_wp2_with (first | ((with_reducible refine gate_callee (f := 102) rfl ?_); refine goesL_ (some 7) rfl rfl Try.func102 B5x10_ rfl #[.slice A0 l0.length c0] rfl B5x4_ ?_; (with_reducible refine (spec_ConfOk.calls k _ _ l0 false _ ?side1 ?side2 A2.out).mono ?_); (case side1 => exact B5x8_); (case side2 => exact HC0.out); rintro e w' ⟨rfl, ⟨nd, rfl⟩⟩; refine ⟨_, rfl, ?_⟩))
  go_ret2
  exact ⟨B5x6_, B5x5_⟩

/-! ### spec_l01Once: function 42 -/
def spec_l01Once.f (s0_0 : List Int) (s0_1 : Int) (s0_2 : Int) (a1 : Int) : Option (Bool × Int × Int) := (spec_l01Below.f s0_0 s0_1 s0_2 a1).bind fun bt165 => (some ((bt165.1 == 0), bt165.2.1, bt165.2.2))
set_option maxHeartbeats 8000000 in
set_option maxRecDepth 100000 in
theorem spec_l01Once.calls (g : Nat) (s0_0 : List Int) (s0_1 : Int) (s0_2 : Int) (a1 : Int) (r1 : Bool) (r2 : Int) (r3 : Int) (w0 w : World) (hI : IsS107 w0 w g s0_0 s0_1 s0_2) (hB : Below w0.heap.size w0 w) (h : spec_l01Once.f s0_0 s0_1 s0_2 a1 = some (r1, r2, r3)) :
  Calls Try.prog 42 #[.pointer (some ⟨g, 0, none⟩), .int .i64 a1] w fun e w' => e = .returned (.bool r1) ∧ IsS107 w0 w' g s0_0 r2 r3 ∧ Below w0.heap.size w0 w' ∧ KeepBut w w' g none := by
 have HI0 := Aside0.mk hI
 have HK := Aside0.mk (KeepBut.refl w g none)
 have HL := Aside0.mk hB.size
 clear hI
 have HW0 := Aside0.mk hB.size
 have HB := Aside0.mk hB
 clear hB
 have H : ((spec_l01Below.f s0_0 s0_1 s0_2 a1).bind fun bt165 => (some ((bt165.1 == 0), bt165.2.1, bt165.2.2))) = some (r1, r2, r3) := h
 clear h
 replace H := bsi H
 obtain ⟨⟨t165, t166, t167⟩, A3, H⟩ := H
 (try dsimp only at H)
 simp only [Option.some.injEq, Prod.mk.injEq] at H
 obtain ⟨rfl, rfl, rfl⟩ := H
 go_enter Try.func42, Try.ntmps42
 go_wp2_with (first | ((with_reducible refine gate_callee (f := 41) rfl ?_); refine goesL_ (some 7) rfl rfl Try.func41 B5x10_ rfl #[.pointer (some ⟨g, 0, none⟩), .int .i64 a1] rfl B5x4_ ?_; (with_reducible refine (spec_l01Below.calls g s0_0 s0_1 s0_2 a1 t165 t166 t167 w0 _ ?side1 ?side2 A3.out).mono ?_); (case side1 => exact B5x0_); (case side2 => exact B5x1_); rintro e w4 ⟨rfl, hi, hb, hk⟩; refine ⟨_, rfl, ?_⟩; replace HK := Aside0.mk (KeepBut.trans B5x2_ hk (.inl rfl)); replace HB := Aside0.mk (hb); replace HI0 := Aside0.mk (hi); (try clear hb hk hi)))
 go_ret
 exact ⟨B5x6_, B5x0_, B5x1_, B5x2_⟩

/-! ### spec_l05Conf: function 83 -/
def spec_l05Conf.l0 : Nat → List Int → Int → List Int → Int → Int → Option (List Int × Int × Int)
 | 0, _, _, _, _, _ => none
 | k + 1, x3, x4, x1000, x1001, x1002 => if x4 ≤ 4 then ((spec_l01Once.f x1000 x1001 x1002 2).bind fun bt171 => (if bt171.1 = true then (if x3.length < 17592186044416 then (spec_l05Conf.l0 k (x3 ++ [x4]) (wrap64 (x4 + 1)) x1000 bt171.2.1 bt171.2.2) else (none)) else (spec_l05Conf.l0 k x3 (wrap64 (x4 + 1)) x1000 bt171.2.1 bt171.2.2))) else (if (x3.length : Int) = 0 then (if x3.length < 17592186044416 then (some ((x3 ++ [1]), x1001, x1002)) else (none)) else (some (x3, x1001, x1002)))
def spec_l05Conf.f (k : Nat) (s0_0 : List Int) (s0_1 : Int) (s0_2 : Int) : Option (List Int × Int × Int) := spec_l05Conf.l0 k (([] : List Int)) 1 s0_0 s0_1 s0_2
theorem spec_l05Conf.mono_l : ∀ k, (∀ y0 y1 y2 y3 y4, LeO (spec_l05Conf.l0 k y0 y1 y2 y3 y4) (spec_l05Conf.l0 (k + 1) y0 y1 y2 y3 y4))
 | 0 => fun _ _ _ _ _ r h => by simp [spec_l05Conf.l0] at h
 | k + 1 => by
  have ih0 := spec_l05Conf.mono_l k
  ·intro y0 y1 y2 y3 y4
   unfold spec_l05Conf.l0
   repeat' first
   | (with_reducible exact ih0 _ _ _ _ _)
   | (with_reducible first | exact LeO.refl _ | exact LeO.none _ | refine LeO.ite ?_ ?_ | refine LeO.bind ?_ (fun _ => ?_))
   | exact ih0 _ _ _ _ _
theorem spec_l05Conf.mono : ∀ a0 a1 a2 k, LeO (spec_l05Conf.f k a0 a1 a2) (spec_l05Conf.f (k + 1) a0 a1 a2) := by
 intro a0 a1 a2 k
 have ih0 := spec_l05Conf.mono_l k
 unfold spec_l05Conf.f
 repeat' first
   | (with_reducible exact ih0 _ _ _ _ _)
   | (with_reducible first | exact LeO.refl _ | exact LeO.none _ | refine LeO.ite ?_ ?_ | refine LeO.bind ?_ (fun _ => ?_))
   | exact ih0 _ _ _ _ _
set_option maxHeartbeats 8000000 in
set_option maxRecDepth 100000 in
theorem spec_l05Conf.calls (k : Nat) (g : Nat) (s0_0 : List Int) (s0_1 : Int) (s0_2 : Int) (r1 : List Int) (r2 : Int) (r3 : Int) (w0 w : World) (hI : IsS107 w0 w g s0_0 s0_1 s0_2) (hB : Below w0.heap.size w0 w) (h : spec_l05Conf.f k s0_0 s0_1 s0_2 = some (r1, r2, r3)) :
  Calls Try.prog 83 #[.pointer (some ⟨g, 0, none⟩)] w fun e w' => ∃ v0_ : Value, e = .returned (v0_) ∧ Kd.R (Kd.int .i64) 3 w' w.heap.size (fun _ => True) v0_ r1 ∧ IsS107 w0 w' g s0_0 r2 r3 ∧ Below w0.heap.size w0 w' ∧ KeepBut w w' g none := by
 have HI0 := Aside0.mk hI
 have HK := Aside0.mk (KeepBut.refl w g none)
 have HL := Aside0.mk hB.size
 clear hI
 have HW0 := Aside0.mk hB.size
 have HB := Aside0.mk hB
 clear hB
 have H : (spec_l05Conf.l0 k (([] : List Int)) 1 s0_0 s0_1 s0_2) = some (r1, r2, r3) := h
 clear h
 obtain ⟨y168, hy168⟩ : ∃ y_ : List Int, y_ = (([] : List Int)) := ⟨_, rfl⟩
 replace H : (spec_l05Conf.l0 k y168 1 s0_0 s0_1 s0_2) = some (r1, r2, r3) := by first | (rw [hy168]; with_reducible exact H) | (have H2_ := (Option.bind_some _ _).symm.trans H; rw [hy168]; with_reducible exact H2_) | (have H2_ := (Option.bind_some _ _).symm.trans H; with_reducible exact H2_) | with_reducible exact H | (rw [hy168]; exact H) | exact H
 have Ny168 := Aside0.mk hy168
 clear hy168
 have H' := Aside0.mk H
 clear H
 go_enter Try.func83, Try.ntmps83
 go_wp2_with (first | ((with_reducible refine gate_dst (N := 5) rfl ?_); refine Kd.R_lit (Kd.int .i64) _ 3 ?hg (N := 5) ?hd (xs := ([] : List Int)) (inner := []) (ok := fun _ => True) (okp := fun _ => True) ?hr ?hp (fun _ hk => hk) trivial (Below.refl _ _) (Nat.le_refl _) (by simp) ?_; (case hd => rfl); (case hg => rfl); (case hr => first | (go_simp; done) | (go_simp; rfl)); (case hp => exact (Reps.none _ _)); intro v169 w2 ho3 hb hg_ hnew_; clear hg_ hnew_; (first | rw [← Ny168.out] at ho3 | (simp only [Int.reduceToNat] at ho3; rw [← Ny168.out] at ho3)); have HO170 := Aside0.mk (Kd.R_lower ho3 (keep_size (w := w) (g := g) (row := none) B5x2_)); replace HK := Aside0.mk (KeepBut.trans B5x2_ (KeepBut.of_below hb g none) (.inl rfl)); replace HB := Aside0.mk (below_step B5x1_ hb); replace HI0 := Aside0.mk (IsS107.below B5x0_ hb); clear hb ho3))
 go_loopg [3, 4] k (fun kq v3 v4 w' => ∃ (x3_1 : List Int) (x4_1 : Int) (x1001_1 : Int) (x1002_1 : Int), v4 = .int .i64 x4_1 ∧ Aside0 (spec_l05Conf.l0 kq x3_1 x4_1 s0_0 x1001_1 x1002_1 = some (r1, r2, r3)) ∧ Aside0 (kq ≤ k) ∧ Aside0 (Kd.R (Kd.int .i64) 3 w' w.heap.size (fun _ => True) v3 x3_1) ∧ Aside0 (IsS107 w0 w' g s0_0 x1001_1 x1002_1) ∧ Aside0 (KeepBut w w' g none) ∧ Aside0 (Below w0.heap.size w0 w'))
 case atStart => exact ⟨(y168), (1), (s0_1), (s0_2), (be_), H', ⟨Nat.le_refl _⟩, ⟨(by (with_reducible repeat (first | apply Kd.R_alloc | apply Kd.R_drewN | apply Kd.R_drew)); exact HO170.out)⟩, ⟨B5x0_⟩, ⟨B5x2_⟩, ⟨B5x1_⟩⟩
 case round =>
  clear H'
  obtain ⟨x3_1, x4_1, x1001_1, x1002_1, rfl, HA, HK1, HO_3, HI0, HK, HB⟩ := hrel
  cases gk with
  | zero => exact absurd HA.out (by simp [spec_l05Conf.l0])
  | succ k1 =>
   have H := HA.out
   clear HA
   simp only [spec_l05Conf.l0] at H
   by_cases c4 : x4_1 ≤ 4
   ·rw [if_pos c4] at H
    have c4b0 : decide (x4_1 ≤ 4) = true := decide_eq_true c4
    clear c4
    replace H := bsi H
    obtain ⟨⟨t171, t172, t173⟩, A5, H⟩ := H
    (try dsimp only at H)
    by_cases c6 : t171 = true
    ·subst c6
     rw [if_pos rfl] at H
     by_cases c7 : x3_1.length < 17592186044416
     rotate_left
     ·rw [if_neg c7] at H
      exact absurd H (by simp)
     rw [if_pos c7] at H
     have LMc7 := Aside0.mk c7
     clear c7
     obtain ⟨y174, hy174⟩ : ∃ y_ : List Int, y_ = (x3_1 ++ [x4_1]) := ⟨_, rfl⟩
     replace H : (spec_l05Conf.l0 k1 y174 (wrap64 (x4_1 + 1)) s0_0 t172 t173) = some (r1, r2, r3) := by first | (rw [hy174]; with_reducible exact H) | (have H2_ := (Option.bind_some _ _).symm.trans H; rw [hy174]; with_reducible exact H2_) | (have H2_ := (Option.bind_some _ _).symm.trans H; with_reducible exact H2_) | with_reducible exact H | (rw [hy174]; exact H) | exact H
     have Ny174 := Aside0.mk hy174
     clear hy174
     have H' := Aside0.mk H
     clear H
     go_wp2_with (first | ((with_reducible refine gate_callee (f := 42) rfl ?_); refine goesL_ (some 11) rfl rfl Try.func42 B5x10_ rfl #[.pointer (some ⟨g, 0, none⟩), .int .i64 2] rfl B5x4_ ?_; (with_reducible refine (spec_l01Once.calls g s0_0 x1001_1 x1002_1 2 true t172 t173 w0 _ ?side1 ?side2 A5.out).mono ?_); (case side1 => exact B5x0_); (case side2 => exact B5x1_); rintro e w8 ⟨rfl, hi, hb, hk⟩; refine ⟨_, rfl, ?_⟩; replace HO_3 := Aside0.mk (Kd.R_mono (Kd.R_keep (IsS107.apart (show IsS107 w0 _ g s0_0 x1001_1 x1002_1 from B5x0_) B5x7_ (by decide)) hk (fun _ h => h.2)) (fun _ h => h.1)); replace HK := Aside0.mk (KeepBut.trans B5x2_ hk (.inl rfl)); replace HB := Aside0.mk (hb); replace HI0 := Aside0.mk (hi); (try clear hb hk hi)) | ((with_reducible refine gate_builtin (b := .append) (xs := #[.tmp 12, .tmp 14]) rfl ?_); at_builtin; refine Kd.R_append (Kd.int .i64) w.heap.size rfl (.tmp 12) (.tmp 14) 37 3 (.int .i64 0) 8 rfl Try.underlying37 info3 rfl (by decide) (by omega) u3 x3_1 x4_1 [.int .i64 x4_1] (fun _ => True) (fun _ => False) rfl rfl ?aP (fun _ hk => hk.elim) ?aF ?aO (Below.refl _ _) ?aS ?aL ?_; (case aP => exact rfl); (case aF => exact (fun _ _ => trivial)); (case aO => exact B5x7_); (case aS => exact B5x16_); (case aL => have := LMc7.out; omega); intro v175 w9 ho hb hg hat; rw [← Ny174.out] at ho; replace HB := Aside0.mk (below_weaken B5x1_ HL.out hb); replace HI0 := Aside0.mk (IsS107.grown B5x0_ hg (IsS107.own_ne HI0.out HO_3.out (by decide))); replace HK := Aside0.mk (KeepBut.trans B5x2_ (KeepBut.of_grown hg g) (Kd.R_base2 HO_3.out)); have HO176 := Aside0.mk (ho); clear HO_3; clear ho hb hg hat))
     go_roundg k1
     case measure => have := HK1.out; omega
     case rel => exact ⟨(y174), (wrap64 (x4_1 + 1)), (t172), (t173), (be_), H', ⟨B5x12_⟩, ⟨(by (with_reducible repeat (first | apply Kd.R_alloc | apply Kd.R_drewN | apply Kd.R_drew)); exact HO176.out)⟩, ⟨B5x0_⟩, ⟨B5x2_⟩, ⟨B5x1_⟩⟩
    ·replace c6 := Bool.eq_false_iff.mpr c6
     subst c6
     rw [if_neg (show ¬ (false = true) by decide)] at H
     have H' := Aside0.mk H
     clear H
     go_wp2_with (first | ((with_reducible refine gate_callee (f := 42) rfl ?_); refine goesL_ (some 11) rfl rfl Try.func42 B5x10_ rfl #[.pointer (some ⟨g, 0, none⟩), .int .i64 2] rfl B5x4_ ?_; (with_reducible refine (spec_l01Once.calls g s0_0 x1001_1 x1002_1 2 false t172 t173 w0 _ ?side1 ?side2 A5.out).mono ?_); (case side1 => exact B5x0_); (case side2 => exact B5x1_); rintro e w10 ⟨rfl, hi, hb, hk⟩; refine ⟨_, rfl, ?_⟩; replace HO_3 := Aside0.mk (Kd.R_mono (Kd.R_keep (IsS107.apart (show IsS107 w0 _ g s0_0 x1001_1 x1002_1 from B5x0_) B5x7_ (by decide)) hk (fun _ h => h.2)) (fun _ h => h.1)); replace HK := Aside0.mk (KeepBut.trans B5x2_ hk (.inl rfl)); replace HB := Aside0.mk (hb); replace HI0 := Aside0.mk (hi); (try clear hb hk hi)))
     go_roundg k1
     case measure => have := HK1.out; omega
     case rel => exact ⟨(x3_1), (wrap64 (x4_1 + 1)), (t172), (t173), (be_), H', ⟨B5x12_⟩, ⟨B5x7_⟩, ⟨B5x0_⟩, ⟨B5x2_⟩, ⟨B5x1_⟩⟩
   ·rw [if_neg c4] at H
    have c4b0 : decide (x4_1 ≤ 4) = false := decide_eq_false c4
    clear c4
    by_cases c11 : (x3_1.length : Int) = 0
    ·rw [if_pos c11] at H
     have c11b0 := beq_iff_eq.mpr c11
     have c11b1 := bne_eq_false_iff_eq.mpr c11
     clear c11
     by_cases c12 : x3_1.length < 17592186044416
     rotate_left
     ·rw [if_neg c12] at H
      exact absurd H (by simp)
     rw [if_pos c12] at H
     have LMc12 := Aside0.mk c12
     clear c12
     obtain ⟨y177, hy177⟩ : ∃ y_ : List Int, y_ = (x3_1 ++ [1]) := ⟨_, rfl⟩
     replace H : (some (y177, x1001_1, x1002_1)) = some (r1, r2, r3) := by first | (rw [hy177]; with_reducible exact H) | (have H2_ := (Option.bind_some _ _).symm.trans H; rw [hy177]; with_reducible exact H2_) | (have H2_ := (Option.bind_some _ _).symm.trans H; with_reducible exact H2_) | with_reducible exact H | (rw [hy177]; exact H) | exact H
     have Ny177 := Aside0.mk hy177
     clear hy177
     simp only [Option.some.injEq, Prod.mk.injEq] at H
     obtain ⟨rfl, rfl, rfl⟩ := H
     obtain ⟨Ao13, co13, eo13⟩ := Kd.R_slice HO_3.out
     subst eo13
     go_wp2_with (first | ((with_reducible refine gate_builtin (b := .append) (xs := #[.tmp 19, .tmp 20]) rfl ?_); at_builtin; refine Kd.R_append (Kd.int .i64) w.heap.size rfl (.tmp 19) (.tmp 20) 37 3 (.int .i64 0) 8 rfl Try.underlying37 info3 rfl (by decide) (by omega) (.slice Ao13 x3_1.length co13) x3_1 1 [.int .i64 1] (fun _ => True) (fun _ => False) rfl rfl ?aP (fun _ hk => hk.elim) ?aF ?aO (Below.refl _ _) ?aS ?aL ?_; (case aP => exact rfl); (case aF => exact (fun _ _ => trivial)); (case aO => exact B5x7_); (case aS => exact B5x16_); (case aL => have := LMc12.out; omega); intro v178 w14 ho hb hg hat; rw [← Ny177.out] at ho; replace HB := Aside0.mk (below_weaken B5x1_ HL.out hb); replace HI0 := Aside0.mk (IsS107.grown B5x0_ hg (IsS107.own_ne HI0.out HO_3.out (by decide))); replace HK := Aside0.mk (KeepBut.trans B5x2_ (KeepBut.of_grown hg g) (Kd.R_base2 HO_3.out)); have HO179 := Aside0.mk (ho); clear HO_3; clear ho hb hg hat))
     go_ret
     exact ⟨_, by first | rfl | (simp [errW_none, errW_some] <;> rfl) | (simp [*, errW_none, errW_some] <;> rfl), by (with_reducible repeat (first | apply Kd.R_alloc | apply Kd.R_drewN | apply Kd.R_drew)); exact HO179.out, by repeat (first | (with_reducible first | exact HI0.out | apply IsS107.alloc | apply IsS107.drewN | apply IsS107.drew | apply IsS107.set_1 | apply IsS107.set_2) | exact HI0.out), by repeat (first | (with_reducible first | exact HB.out | apply below_alloc | apply pw_below_drewN | apply below_drew1 | refine below_set ?_ (IsS107.ge HI0.out)) | exact HB.out), by repeat (first | (with_reducible first | exact HK.out | apply KeepBut.set_ | apply keep_drewN | apply keep_drew | apply keep_alloc) | exact HK.out)⟩
    ·rw [if_neg c11] at H
     have c11b0 := beq_eq_false_iff_ne.mpr c11
     have c11b1 := bne_iff_ne.mpr c11
     have c11b2 : ¬ (x3_1 = []) := fun h_ => c11 (by rw [h_]; rfl)
     simp only [Option.some.injEq, Prod.mk.injEq] at H
     obtain ⟨rfl, rfl, rfl⟩ := H
     obtain ⟨Ao15, co15, eo15⟩ := Kd.R_slice HO_3.out
     subst eo15
     go_wp2
     go_ret
     exact ⟨_, by first | rfl | (simp [errW_none, errW_some] <;> rfl) | (simp [*, errW_none, errW_some] <;> rfl), by (with_reducible repeat (first | apply Kd.R_alloc | apply Kd.R_drewN | apply Kd.R_drew)); exact HO_3.out, by repeat (first | (with_reducible first | exact HI0.out | apply IsS107.alloc | apply IsS107.drewN | apply IsS107.drew | apply IsS107.set_1 | apply IsS107.set_2) | exact HI0.out), by repeat (first | (with_reducible first | exact HB.out | apply below_alloc | apply pw_below_drewN | apply below_drew1 | refine below_set ?_ (IsS107.ge HI0.out)) | exact HB.out), by repeat (first | (with_reducible first | exact HK.out | apply KeepBut.set_ | apply keep_drewN | apply keep_drew | apply keep_alloc) | exact HK.out)⟩

/-! ### spec_l01Pick: function 88 -/
def spec_l01Pick.f (s0_0 : List Int) (s0_1 : Int) (s0_2 : Int) (l1 : List ByteArray) : Option (ByteArray × Int × Int) := (spec_l01Below.f s0_0 s0_1 s0_2 (l1.length : Int)).bind fun bt180 => (if 0 ≤ bt180.1 then (if bt180.1 < (l1.length : Int) then (some (rdOf ByteArray.empty l1 bt180.1, bt180.2.1, bt180.2.2)) else (none)) else (none))
set_option maxHeartbeats 8000000 in
set_option maxRecDepth 100000 in
theorem spec_l01Pick.calls (g : Nat) (s0_0 : List Int) (s0_1 : Int) (s0_2 : Int) (A1 : Option Addr) (c1 : Nat) (l1 : List ByteArray) (r1 : ByteArray) (r2 : Int) (r3 : Int) (w0 w : World) (hI : IsS107 w0 w g s0_0 s0_1 s0_2) (hB : Below w0.heap.size w0 w) (hr1 : Kd.C Kd.string w A1 l1.length l1) (hc1 : l1.length ≤ c1) (hf1 : ∀ ad, A1 = some ad → 0 < l1.length → ad.block ≠ g) (h : spec_l01Pick.f s0_0 s0_1 s0_2 l1 = some (r1, r2, r3)) :
  Calls Try.prog 88 #[.pointer (some ⟨g, 0, none⟩), .slice A1 l1.length c1] w fun e w' => e = .returned (.string r1) ∧ IsS107 w0 w' g s0_0 r2 r3 ∧ Below w0.heap.size w0 w' ∧ KeepBut w w' g none := by
 have HR1 := Aside0.mk hr1
 have HC1 := Aside0.mk hc1
 clear hr1 hc1
 have HI0 := Aside0.mk hI
 have HK := Aside0.mk (KeepBut.refl w g none)
 have HL := Aside0.mk hB.size
 clear hI
 have HW0 := Aside0.mk hB.size
 have HB := Aside0.mk hB
 clear hB
 have H : ((spec_l01Below.f s0_0 s0_1 s0_2 (l1.length : Int)).bind fun bt180 => (if 0 ≤ bt180.1 then (if bt180.1 < (l1.length : Int) then (some (rdOf ByteArray.empty l1 bt180.1, bt180.2.1, bt180.2.2)) else (none)) else (none))) = some (r1, r2, r3) := h
 clear h
 replace H := bsi H
 obtain ⟨⟨t180, t181, t182⟩, A3, H⟩ := H
 (try dsimp only at H)
 by_cases c4 : 0 ≤ t180
 rotate_left
 ·rw [if_neg c4] at H
  exact absurd H (by simp)
 rw [if_pos c4] at H
 have c4b0 : decide (0 ≤ t180) = true := decide_eq_true c4
 clear c4
 by_cases c5 : t180 < (l1.length : Int)
 rotate_left
 ·rw [if_neg c5] at H
  exact absurd H (by simp)
 rw [if_pos c5] at H
 have c5b0 : decide (t180 < (l1.length : Int)) = true := decide_eq_true c5
 clear c5
 simp only [Option.some.injEq, Prod.mk.injEq] at H
 obtain ⟨rfl, rfl, rfl⟩ := H
 go_enter Try.func88, Try.ntmps88
 go_wp2_with (first | ((with_reducible refine gate_callee (f := 41) rfl ?_); refine goesL_ (some 9) rfl rfl Try.func41 B5x10_ rfl #[.pointer (some ⟨g, 0, none⟩), .int .i64 (l1.length : Int)] rfl B5x4_ ?_; (with_reducible refine (spec_l01Below.calls g s0_0 s0_1 s0_2 (l1.length : Int) t180 t181 t182 w0 _ ?side1 ?side2 A3.out).mono ?_); (case side1 => exact B5x0_); (case side2 => exact B5x1_); rintro e w6 ⟨rfl, hi, hb, hk⟩; refine ⟨_, rfl, ?_⟩; replace HK := Aside0.mk (KeepBut.trans B5x2_ hk (.inl rfl)); replace HB := Aside0.mk (hb); replace HI0 := Aside0.mk (hi); (try clear hb hk hi); have p183 : 0 ≤ (t180 : Int) := of_decide_eq_true B5x3_; have q183 : t180 < (l1.length : Int) := of_decide_eq_true B5x3_; obtain ⟨ad183, e183, hx183_0⟩ := Kd.at_string HR1.out t180 p183 q183; cases e183; replace hx183_0 := keep_cell HK.out hx183_0 (by first | (rw [add_block]; exact hf1 _ rfl (by omega)) | exact hf1 _ rfl (by omega) | exact hf1 ad183 rfl (by omega)); replace p183 := eq_true p183; replace q183 := eq_true q183))
 go_ret
 exact ⟨B5x6_, B5x0_, B5x1_, B5x2_⟩

end Go.Proofs.Ytgffdijodnpolaa.QFnLogs
