/- Functions that a law reaches, as functions of Lean, and the walks that show that the calls come to their answers: written by a program of this project out of the translation. No condition. -/
import Derived.Test.YtideegpoakkgeaaQFnCellsx0
import Derived.Test.YtideegpoakkgeaaQFnCellsx2
import Derived.Test.YtideegpoakkgeaaQFnCellsx4
import Derived.Test.YtideegpoakkgeaaQFnCellsx5
import Derived.Test.YtideegpoakkgeaaShort2
import Derived.Test.YtideegpoakkgeaaShort
namespace Go.Proofs.Ytideegpoakkgeaa.QFnCells
open Go.RowKit Go.Proofs.YtideegpoakkgeaaW.PrintWords Go.Proofs.YtideegpoakkgeaaW.PrintLast Go.Proofs.YtideegpoakkgeaaW.PrintMore Go.Proofs.Ytideegpoakkgeaa.Short
attribute [local go_sem] max2_int min2_int max_two min_two max_three min_three max_four min_four   -- for this text's walks alone
set_option linter.unusedVariables false
set_option linter.unusedSimpArgs false

theorem B6x0_ {p : Prop} (h : p := by (try simp only [List.map_toArray, List.map_cons, List.map_nil]); first | done | rfl | (simp only [List.length_drop, List.length_take]; rfl)) : p := h
theorem B6x1_ {p : Prop} (h : p := by repeat (first | (with_reducible first | exact HI282.out | apply IsS131.alloc | apply IsS131.drewN | apply IsS131.drew | apply IsS131.set_1 | apply IsS131.set_2) | exact HI282.out)) : p := h
theorem B6x2_ {p : Prop} (h : p := by repeat (first | (with_reducible first | exact HB.out | apply below_alloc | apply pw_below_drewN | apply below_drew1 | refine below_set ?_ (IsS131.ge HI282.out)) | exact HB.out)) : p := h
theorem B6x3_ {p : Prop} (h : p := by repeat (first | (with_reducible first | exact HK.out | apply KeepBut.set_ | apply keep_drewN | apply keep_drew | apply keep_alloc) | exact HK.out)) : p := h
theorem B6x4_ {p : Prop} (h : p := by kernel_rfl) : p := h
/-! ### spec_l02Spoilt: function 95 -/
def spec_l02Spoilt.j0 : Nat → ByteArray → Bool → List Int → Int → Int → Option (ByteArray × Int × Int)
 | 0, _, _, _, _, _ => none
 | k + 1, x1, x23, x1000, x1001, x1002 => if x23 = true then (if (x1.size : Int) > 0 then ((spec_l01Below.f x1000 x1001 x1002 (x1.size : Int)).bind fun bt273 => (if 0 ≤ bt273.1 then (if bt273.1 ≤ (x1.size : Int) then ((spec_l01Text.f k x1000 bt273.2.1 bt273.2.2 1).bind fun bt276 => (if (x1.extract 0 (bt273.1 : Int).toNat).size + bt276.1.size ≤ 9223372036854775807 then (if 0 ≤ (wrap64 (bt273.1 + 1)) then (if (wrap64 (bt273.1 + 1)) ≤ (x1.size : Int) then (if ((x1.extract 0 (bt273.1 : Int).toNat) ++ bt276.1).size + (x1.extract ((wrap64 (bt273.1 + 1)) : Int).toNat x1.size).size ≤ 9223372036854775807 then (some (((x1.extract 0 (bt273.1 : Int).toNat) ++ bt276.1) ++ (x1.extract ((wrap64 (bt273.1 + 1)) : Int).toNat x1.size), bt276.2.1, bt276.2.2)) else (none)) else (none)) else (none)) else (none))) else (none)) else (none))) else (some (x1, x1001, x1002))) else (some (x1, x1001, x1002))
def spec_l02Spoilt.f (k : Nat) (s0_0 : List Int) (s0_1 : Int) (s0_2 : Int) (a1 : ByteArray) : Option (ByteArray × Int × Int) := (spec_l01Below.f s0_0 s0_1 s0_2 12).bind fun bt264 => (if bt264.1 = 0 then ((spec_l01Text.f k s0_0 bt264.2.1 bt264.2.2 1).bind fun bt267 => (if a1.size + bt267.1.size ≤ 9223372036854775807 then (some (a1 ++ bt267.1, bt267.2.1, bt267.2.2)) else (none))) else (if bt264.1 = 1 then ((spec_l01Below.f s0_0 bt264.2.1 bt264.2.2 (wrap64 ((a1.size : Int) + 1))).bind fun bt270 => (if 0 ≤ bt270.1 then (if bt270.1 ≤ (a1.size : Int) then (some (a1.extract 0 (bt270.1 : Int).toNat, bt270.2.1, bt270.2.2)) else (none)) else (none))) else (if bt264.1 = 2 then (spec_l02Spoilt.j0 k a1 (bt264.1 == 2) s0_0 bt264.2.1 bt264.2.2) else (spec_l02Spoilt.j0 k a1 (bt264.1 == 3) s0_0 bt264.2.1 bt264.2.2))))
theorem spec_l02Spoilt.mono_l : ∀ k, (∀ y0 y1 y2 y3 y4, LeO (spec_l02Spoilt.j0 k y0 y1 y2 y3 y4) (spec_l02Spoilt.j0 (k + 1) y0 y1 y2 y3 y4))
 | 0 => fun _ _ _ _ _ r h => by simp [spec_l02Spoilt.j0] at h
 | k + 1 => by
  have ih0 := spec_l02Spoilt.mono_l k
  ·intro y0 y1 y2 y3 y4
   unfold spec_l02Spoilt.j0
   repeat' first
   | (with_reducible exact ih0 _ _ _ _ _)
   | (with_reducible exact spec_l01Text.mono _ _ _ _ _)
   | (with_reducible exact LeO.refl _)
   | (with_reducible exact LeO.none _)
   | (with_reducible refine LeO.ite ?_ ?_)
   | (with_reducible refine LeO.bind ?_ (fun _ => ?_))
   | exact ih0 _ _ _ _ _
   | exact spec_l01Text.mono _ _ _ _ _
   | exact LeO.none _
   | refine LeO.ite ?_ ?_
   | refine LeO.bind ?_ (fun _ => ?_)
theorem spec_l02Spoilt.mono : ∀ a0 a1 a2 a3 k, LeO (spec_l02Spoilt.f k a0 a1 a2 a3) (spec_l02Spoilt.f (k + 1) a0 a1 a2 a3) := by
 intro a0 a1 a2 a3 k
 have ih0 := spec_l02Spoilt.mono_l k
 unfold spec_l02Spoilt.f
 repeat' first
   | (with_reducible exact ih0 _ _ _ _ _)
   | (with_reducible exact spec_l01Text.mono _ _ _ _ _)
   | (with_reducible exact LeO.refl _)
   | (with_reducible exact LeO.none _)
   | (with_reducible refine LeO.ite ?_ ?_)
   | (with_reducible refine LeO.bind ?_ (fun _ => ?_))
   | exact ih0 _ _ _ _ _
   | exact spec_l01Text.mono _ _ _ _ _
   | exact LeO.none _
   | refine LeO.ite ?_ ?_
   | refine LeO.bind ?_ (fun _ => ?_)
def spec_l02Spoilt.T10 : Bool × List (List Nat × List Nat) := (true, [([], []), ([], []), ([0, 1], [0, 1]), ([], []), ([3], [3]), ([2, 4], [2, 4]), ([], []), ([], []), ([7], [7]), ([6, 8], [6, 8]), ([5, 9], [5, 9]), ([10, 4, 0, 1, 2, 3, 4, 5, 6, 7, 8, 9, 10], [10])])
def spec_l02Spoilt.B10 : List Nat := [0, 0, 3, 0, 8, 31, 0, 0, 128, 448, 1023, 2047]
theorem spec_l02Spoilt.tab10 : rtab .any (opsOf Try.f95 10) = spec_l02Spoilt.T10 := by kernel_rfl
theorem spec_l02Spoilt.bits10 : waitsOk spec_l02Spoilt.T10.2 spec_l02Spoilt.B10 = true := by kernel_rfl
set_option maxHeartbeats 8000000 in
set_option maxRecDepth 100000 in
theorem spec_l02Spoilt.calls (k : Nat) (g : Nat) (s0_0 : List Int) (s0_1 : Int) (s0_2 : Int) (a1 : ByteArray) (r1 : ByteArray) (r2 : Int) (r3 : Int) (w0 w : World) (hI : IsS131 w0 w g s0_0 s0_1 s0_2) (hB : Below w0.heap.size w0 w) (h : spec_l02Spoilt.f k s0_0 s0_1 s0_2 a1 = some (r1, r2, r3)) :
  Calls Try.prog 95 #[.pointer (some ⟨g, 0, none⟩), .string a1] w fun e w' => e = .returned (.string r1) ∧ IsS131 w0 w' g s0_0 r2 r3 ∧ Below w0.heap.size w0 w' ∧ KeepBut w w' g none := by
 have HI0 := Aside0.mk hI
 have HK := Aside0.mk (KeepBut.refl w g none)
 have HL := Aside0.mk hB.size
 clear hI
 have HW0 := Aside0.mk hB.size
 have HB := Aside0.mk hB
 clear hB
 have H : ((spec_l01Below.f s0_0 s0_1 s0_2 12).bind fun bt264 => (if bt264.1 = 0 then ((spec_l01Text.f k s0_0 bt264.2.1 bt264.2.2 1).bind fun bt267 => (if a1.size + bt267.1.size ≤ 9223372036854775807 then (some (a1 ++ bt267.1, bt267.2.1, bt267.2.2)) else (none))) else (if bt264.1 = 1 then ((spec_l01Below.f s0_0 bt264.2.1 bt264.2.2 (wrap64 ((a1.size : Int) + 1))).bind fun bt270 => (if 0 ≤ bt270.1 then (if bt270.1 ≤ (a1.size : Int) then (some (a1.extract 0 (bt270.1 : Int).toNat, bt270.2.1, bt270.2.2)) else (none)) else (none))) else (if bt264.1 = 2 then (spec_l02Spoilt.j0 k a1 (bt264.1 == 2) s0_0 bt264.2.1 bt264.2.2) else (spec_l02Spoilt.j0 k a1 (bt264.1 == 3) s0_0 bt264.2.1 bt264.2.2))))) = some (r1, r2, r3) := h
 clear h
 replace H := Option.bind_eq_some_iff.mp H
 obtain ⟨⟨t264, t265, t266⟩, A30, H⟩ := H
 (try dsimp only at H)
 have A3 := Aside0.mk A30
 clear A30
 by_cases c4 : t264 = 0
 ·rw [if_pos c4] at H
  have c4b0 : (t264 == 0) = true := beq_iff_eq.mpr c4
  have c4b1 : (t264 != 0) = false := bne_eq_false_iff_eq.mpr c4
  clear c4
  replace H := Option.bind_eq_some_iff.mp H
  obtain ⟨⟨t267, t268, t269⟩, A50, H⟩ := H
  (try dsimp only at H)
  have A5 := Aside0.mk A50
  clear A50
  by_cases c6 : a1.size + t267.size ≤ 9223372036854775807
  ·rw [if_pos c6] at H
   have c6b0 := eq_true c6
   have c6b1 : decide (a1.size + t267.size ≤ 9223372036854775807) = true := decide_eq_true c6
   try have c6b2 : (9223372036854775807 < a1.size + t267.size) = False := eq_false (Nat.not_lt.2 c6)
   try (have c6b9 := c6b2; simp only [ByteArray.size_append] at c6b9)
   simp only [Option.some.injEq, Prod.mk.injEq] at H
   obtain ⟨rfl, rfl, rfl⟩ := H
   go_enter Try.func95, Try.ntmps95
   go_wp2_with (first | ((with_reducible refine gate_callee (f := 63) rfl ?_); refine goesL_ (some 7) rfl rfl Try.func63 B6x4_ rfl #[.pointer (some ⟨g, 0, none⟩), .int .i64 12] rfl B6x0_ ?_; (with_reducible refine (spec_l01Below.calls g s0_0 s0_1 s0_2 12 t264 t265 t266 w0 _ ?side1 ?side2 A3.out).mono ?_); (case side1 => repeat (first | (with_reducible first | exact HI0.out | apply IsS131.alloc | apply IsS131.drewN | apply IsS131.drew | apply IsS131.set_1 | apply IsS131.set_2) | exact HI0.out)); (case side2 => repeat (first | (with_reducible first | exact HB.out | apply below_alloc | apply pw_below_drewN | apply below_drew1 | refine below_set ?_ (IsS131.ge HI0.out)) | exact HB.out)); rintro e w7 ⟨rfl, hi, hb, hk⟩; refine ⟨_, rfl, ?_⟩; have n0_ := Aside0.mk (KeepBut.trans B6x3_ hk (.inl rfl)); have n1_ := Aside0.mk (hb); have n2_ := Aside0.mk (hi); clear HK; clear HB; clear HI0; have HK := n0_; have HB := n1_; have HI0 := n2_; clear n0_ n1_ n2_; (try clear hb); (try clear hb2); (try clear hk); (try clear hi)) | ((with_reducible refine gate_callee (f := 114) rfl ?_); refine goesL_ (some 12) rfl rfl Try.func114 B6x4_ rfl #[.pointer (some ⟨g, 0, none⟩), .int .i64 1] rfl B6x0_ ?_; (with_reducible refine (spec_l01Text.calls k g s0_0 t265 t266 1 t267 t268 t269 w0 _ ?side1 ?side2 A5.out).mono ?_); (case side1 => repeat (first | (with_reducible first | exact HI0.out | apply IsS131.alloc | apply IsS131.drewN | apply IsS131.drew | apply IsS131.set_1 | apply IsS131.set_2) | exact HI0.out)); (case side2 => repeat (first | (with_reducible first | exact HB.out | apply below_alloc | apply pw_below_drewN | apply below_drew1 | refine below_set ?_ (IsS131.ge HI0.out)) | exact HB.out)); rintro e w8 ⟨rfl, hi, hb, hk⟩; refine ⟨_, rfl, ?_⟩; have n0_ := Aside0.mk (KeepBut.trans B6x3_ hk (.inl rfl)); have n1_ := Aside0.mk (hb); have n2_ := Aside0.mk (hi); clear HK; clear HB; clear HI0; have HK := n0_; have HB := n1_; have HI0 := n2_; clear n0_ n1_ n2_; (try clear hb); (try clear hb2); (try clear hk); (try clear hi)))
   go_ret
   exact ⟨by first | rfl | (simp [errW_none, errW_some] <;> rfl) | (simp [*, errW_none, errW_some] <;> rfl), by repeat (first | (with_reducible first | exact HI0.out | apply IsS131.alloc | apply IsS131.drewN | apply IsS131.drew | apply IsS131.set_1 | apply IsS131.set_2) | exact HI0.out), by repeat (first | (with_reducible first | exact HB.out | apply below_alloc | apply pw_below_drewN | apply below_drew1 | refine below_set ?_ (IsS131.ge HI0.out)) | exact HB.out), by repeat (first | (with_reducible first | exact HK.out | apply KeepBut.set_ | apply keep_drewN | apply keep_drew | apply keep_alloc) | exact HK.out)⟩
  ·rw [if_neg c6] at H
   exact absurd H (by simp)
 ·rw [if_neg c4] at H
  have c4b0 : (t264 == 0) = false := beq_eq_false_iff_ne.mpr c4
  have c4b1 : (t264 != 0) = true := bne_iff_ne.mpr c4
  by_cases c9 : t264 = 1
  ·rw [if_pos c9] at H
   have c9b0 : (t264 == 1) = true := beq_iff_eq.mpr c9
   have c9b1 : (t264 != 1) = false := bne_eq_false_iff_eq.mpr c9
   clear c9
   replace H := Option.bind_eq_some_iff.mp H
   obtain ⟨⟨t270, t271, t272⟩, A100, H⟩ := H
   (try dsimp only at H)
   have A10 := Aside0.mk A100
   clear A100
   by_cases c11 : 0 ≤ t270
   ·rw [if_pos c11] at H
    have c11b0 := eq_true c11
    have c11b1 : decide (0 ≤ t270) = true := decide_eq_true c11
    clear c11
    by_cases c12 : t270 ≤ (a1.size : Int)
    ·rw [if_pos c12] at H
     have c12b0 := eq_true c12
     have c12b1 : decide (t270 ≤ (a1.size : Int)) = true := decide_eq_true c12
     clear c12
     simp only [Option.some.injEq, Prod.mk.injEq] at H
     obtain ⟨rfl, rfl, rfl⟩ := H
     go_enter Try.func95, Try.ntmps95
     go_wp2_with (first | ((with_reducible refine gate_callee (f := 63) rfl ?_); refine goesL_ (some 7) rfl rfl Try.func63 B6x4_ rfl #[.pointer (some ⟨g, 0, none⟩), .int .i64 12] rfl B6x0_ ?_; (with_reducible refine (spec_l01Below.calls g s0_0 s0_1 s0_2 12 t264 t265 t266 w0 _ ?side1 ?side2 A3.out).mono ?_); (case side1 => repeat (first | (with_reducible first | exact HI0.out | apply IsS131.alloc | apply IsS131.drewN | apply IsS131.drew | apply IsS131.set_1 | apply IsS131.set_2) | exact HI0.out)); (case side2 => repeat (first | (with_reducible first | exact HB.out | apply below_alloc | apply pw_below_drewN | apply below_drew1 | refine below_set ?_ (IsS131.ge HI0.out)) | exact HB.out)); rintro e w13 ⟨rfl, hi, hb, hk⟩; refine ⟨_, rfl, ?_⟩; have n0_ := Aside0.mk (KeepBut.trans B6x3_ hk (.inl rfl)); have n1_ := Aside0.mk (hb); have n2_ := Aside0.mk (hi); clear HK; clear HB; clear HI0; have HK := n0_; have HB := n1_; have HI0 := n2_; clear n0_ n1_ n2_; (try clear hb); (try clear hb2); (try clear hk); (try clear hi)) | ((with_reducible refine gate_callee (f := 63) rfl ?_); refine goesL_ (some 21) rfl rfl Try.func63 B6x4_ rfl #[.pointer (some ⟨g, 0, none⟩), .int .i64 (wrap64 ((a1.size : Int) + 1))] rfl B6x0_ ?_; (with_reducible refine (spec_l01Below.calls g s0_0 t265 t266 (wrap64 ((a1.size : Int) + 1)) t270 t271 t272 w0 _ ?side1 ?side2 A10.out).mono ?_); (case side1 => repeat (first | (with_reducible first | exact HI0.out | apply IsS131.alloc | apply IsS131.drewN | apply IsS131.drew | apply IsS131.set_1 | apply IsS131.set_2) | exact HI0.out)); (case side2 => repeat (first | (with_reducible first | exact HB.out | apply below_alloc | apply pw_below_drewN | apply below_drew1 | refine below_set ?_ (IsS131.ge HI0.out)) | exact HB.out)); rintro e w14 ⟨rfl, hi, hb, hk⟩; refine ⟨_, rfl, ?_⟩; have n0_ := Aside0.mk (KeepBut.trans B6x3_ hk (.inl rfl)); have n1_ := Aside0.mk (hb); have n2_ := Aside0.mk (hi); clear HK; clear HB; clear HI0; have HK := n0_; have HB := n1_; have HI0 := n2_; clear n0_ n1_ n2_; (try clear hb); (try clear hb2); (try clear hk); (try clear hi)))
     go_ret
     exact ⟨by first | rfl | (simp [errW_none, errW_some] <;> rfl) | (simp [*, errW_none, errW_some] <;> rfl), by repeat (first | (with_reducible first | exact HI0.out | apply IsS131.alloc | apply IsS131.drewN | apply IsS131.drew | apply IsS131.set_1 | apply IsS131.set_2) | exact HI0.out), by repeat (first | (with_reducible first | exact HB.out | apply below_alloc | apply pw_below_drewN | apply below_drew1 | refine below_set ?_ (IsS131.ge HI0.out)) | exact HB.out), by repeat (first | (with_reducible first | exact HK.out | apply KeepBut.set_ | apply keep_drewN | apply keep_drew | apply keep_alloc) | exact HK.out)⟩
    ·rw [if_neg c12] at H
     exact absurd H (by simp)
   ·rw [if_neg c11] at H
    exact absurd H (by simp)
  ·rw [if_neg c9] at H
   have c9b0 : (t264 == 1) = false := beq_eq_false_iff_ne.mpr c9
   have c9b1 : (t264 != 1) = true := bne_iff_ne.mpr c9
   have HC15 := Aside0.mk H
   clear H
   go_enter Try.func95, Try.ntmps95
   go_upto_if 23 with (first | ((with_reducible refine gate_callee (f := 63) rfl ?_); refine goesL_ (some 7) rfl rfl Try.func63 B6x4_ rfl #[.pointer (some ⟨g, 0, none⟩), .int .i64 12] rfl B6x0_ ?_; (with_reducible refine (spec_l01Below.calls g s0_0 s0_1 s0_2 12 t264 t265 t266 w0 _ ?side1 ?side2 A3.out).mono ?_); (case side1 => repeat (first | (with_reducible first | exact HI0.out | apply IsS131.alloc | apply IsS131.drewN | apply IsS131.drew | apply IsS131.set_1 | apply IsS131.set_2) | exact HI0.out)); (case side2 => repeat (first | (with_reducible first | exact HB.out | apply below_alloc | apply pw_below_drewN | apply below_drew1 | refine below_set ?_ (IsS131.ge HI0.out)) | exact HB.out)); rintro e w16 ⟨rfl, hi, hb, hk⟩; refine ⟨_, rfl, ?_⟩; have n0_ := Aside0.mk (KeepBut.trans B6x3_ hk (.inl rfl)); have n1_ := Aside0.mk (hb); have n2_ := Aside0.mk (hi); clear HK; clear HB; clear HI0; have HK := n0_; have HB := n1_; have HI0 := n2_; clear n0_ n1_ n2_; (try clear hb); (try clear hb2); (try clear hk); (try clear hi)))
   (try simp only [Act.put, List.setIfInBounds_toArray, List.set_cons_zero, List.set_cons_succ])
   go_cut [23] (fun v23 wc => ∃ (kq : Nat) (x23_14 : Bool), v23 = .bool x23_14 ∧ Aside0 (spec_l02Spoilt.j0 kq a1 x23_14 s0_0 t265 t266 = some (r1, r2, r3)) ∧ Aside0 (kq ≤ k) ∧ Aside0 (IsS131 w0 wc g s0_0 t265 t266) ∧ Aside0 (KeepBut w wc g none) ∧ Aside0 (Below w0.heap.size w0 wc))
   case first =>
    have H := HC15.out
    clear HC15
    by_cases c17 : t264 = 2
    ·rw [if_pos c17] at H
     have c17b0 : (t264 == 2) = true := beq_iff_eq.mpr c17
     have c17b1 : (t264 != 2) = false := bne_eq_false_iff_eq.mpr c17
     clear c17
     (first | rw [c17b0] | (simp only [i64_w, i32_w]; rw [c17b0]) | skip)
     have H' := Aside0.mk H
     clear H
     go_wp2
     go_meet
     case rel => exact ⟨_, ((t264 == 2)), (be_), H', ⟨by first | omega | exact Nat.le_refl _⟩, ⟨by repeat (first | (with_reducible first | exact HI0.out | apply IsS131.alloc | apply IsS131.drewN | apply IsS131.drew | apply IsS131.set_1 | apply IsS131.set_2) | exact HI0.out)⟩, ⟨by repeat (first | (with_reducible first | exact HK.out | apply KeepBut.set_ | apply keep_drewN | apply keep_drew | apply keep_alloc) | exact HK.out)⟩, ⟨by repeat (first | (with_reducible first | exact HB.out | apply below_alloc | apply pw_below_drewN | apply below_drew1 | refine below_set ?_ (IsS131.ge HI0.out)) | exact HB.out)⟩⟩
    ·rw [if_neg c17] at H
     have c17b0 : (t264 == 2) = false := beq_eq_false_iff_ne.mpr c17
     have c17b1 : (t264 != 2) = true := bne_iff_ne.mpr c17
     (first | rw [c17b0] | (simp only [i64_w, i32_w]; rw [c17b0]) | skip)
     have H' := Aside0.mk H
     clear H
     go_wp2
     go_meet
     case rel => exact ⟨_, ((t264 == 3)), (be_), H', ⟨by first | omega | exact Nat.le_refl _⟩, ⟨by repeat (first | (with_reducible first | exact HI0.out | apply IsS131.alloc | apply IsS131.drewN | apply IsS131.drew | apply IsS131.set_1 | apply IsS131.set_2) | exact HI0.out)⟩, ⟨by repeat (first | (with_reducible first | exact HK.out | apply KeepBut.set_ | apply keep_drewN | apply keep_drew | apply keep_alloc) | exact HK.out)⟩, ⟨by repeat (first | (with_reducible first | exact HB.out | apply below_alloc | apply pw_below_drewN | apply below_drew1 | refine below_set ?_ (IsS131.ge HI0.out)) | exact HB.out)⟩⟩
   case rest =>
    clear HC15
    try clear c1
    try clear p2
    try clear c4
    try clear c4b0
    try clear c4b1
    try clear c6
    try clear c6b0
    try clear c6b1
    try clear c6b2
    try clear p6
    try clear c9
    try clear c9b0
    try clear c9b1
    try clear c11
    try clear c11b0
    try clear c11b1
    try clear c12
    try clear c12b0
    try clear c12b1
    try clear c17
    try clear c17b0
    try clear c17b1
    obtain ⟨kq, x23_14, rfl, HA, HJ14, HI0, HK, HB⟩ := hcut
    cases kq with
    | zero => exact absurd HA.out (by simp [spec_l02Spoilt.j0])
    | succ kj14 =>
     have H := HA.out
     clear HA
     simp only [spec_l02Spoilt.j0] at H
     by_cases c18 : x23_14 = true
     ·subst c18
      rw [if_pos rfl] at H
      by_cases c19 : (a1.size : Int) > 0
      ·rw [if_pos c19] at H
       have c19b0 : decide (0 < (a1.size : Int)) = true := decide_eq_true c19
       have c19b1 : decide (0 < a1.size) = true := decide_eq_true (by omega)
       clear c19
       replace H := Option.bind_eq_some_iff.mp H
       obtain ⟨⟨t273, t274, t275⟩, A200, H⟩ := H
       (try dsimp only at H)
       have A20 := Aside0.mk A200
       clear A200
       by_cases c21 : 0 ≤ t273
       ·rw [if_pos c21] at H
        have c21b0 := eq_true c21
        have c21b1 : decide (0 ≤ t273) = true := decide_eq_true c21
        clear c21
        by_cases c22 : t273 ≤ (a1.size : Int)
        ·rw [if_pos c22] at H
         have c22b0 := eq_true c22
         have c22b1 : decide (t273 ≤ (a1.size : Int)) = true := decide_eq_true c22
         clear c22
         replace H := Option.bind_eq_some_iff.mp H
         obtain ⟨⟨t276, t277, t278⟩, A230, H⟩ := H
         (try dsimp only at H)
         have A23 := Aside0.mk A230
         clear A230
         by_cases c24 : (a1.extract 0 (t273 : Int).toNat).size + t276.size ≤ 9223372036854775807
         ·rw [if_pos c24] at H
          have c24b0 := eq_true c24
          have c24b1 : decide ((a1.extract 0 (t273 : Int).toNat).size + t276.size ≤ 9223372036854775807) = true := decide_eq_true c24
          try have c24b2 : (9223372036854775807 < (a1.extract 0 (t273 : Int).toNat).size + t276.size) = False := eq_false (Nat.not_lt.2 c24)
          try have c24b8 : (9223372036854775807 < t273.toNat + t276.size) = False := eq_false (by have h_ := c24; simp only [ByteArray.size_append, ByteArray.size_extract, decide_eq_true_eq, decide_eq_false_iff_not] at *; omega)
          try (have c24b9 := c24b2; simp only [ByteArray.size_append] at c24b9)
          obtain ⟨ji25, hji25⟩ : ∃ j_ : Int, (wrap64 (t273 + 1)) = j_ := ⟨_, rfl⟩
          replace H : (if 0 ≤ (ji25) then (if (ji25) ≤ (a1.size : Int) then (if ((a1.extract 0 (t273 : Int).toNat) ++ t276).size + (a1.extract ((ji25) : Int).toNat a1.size).size ≤ 9223372036854775807 then (some (((a1.extract 0 (t273 : Int).toNat) ++ t276) ++ (a1.extract ((ji25) : Int).toNat a1.size), t277, t278)) else (none)) else (none)) else (none)) = some (r1, r2, r3) := by first | (rw [hji25] at H; exact H) | (simp only [hji25] at H ⊢; exact H)
          (try rw [hji25] at A20)
          (try rw [hji25] at A23)
          have hji25w : (IntKind.i64.wrap (t273 + 1)) = ji25 := (i64_w _).trans hji25
          by_cases c26 : 0 ≤ (ji25)
          ·rw [if_pos c26] at H
           have c26b0 := eq_true c26
           have c26b1 : decide (0 ≤ (ji25)) = true := decide_eq_true c26
           clear c26
           by_cases c27 : (ji25) ≤ (a1.size : Int)
           ·rw [if_pos c27] at H
            have c27b0 := eq_true c27
            have c27b1 : decide ((ji25) ≤ (a1.size : Int)) = true := decide_eq_true c27
            clear c27
            by_cases c28 : ((a1.extract 0 (t273 : Int).toNat) ++ t276).size + (a1.extract ((ji25) : Int).toNat a1.size).size ≤ 9223372036854775807
            ·rw [if_pos c28] at H
             have c28b0 := eq_true c28
             have c28b1 : decide (((a1.extract 0 (t273 : Int).toNat) ++ t276).size + (a1.extract ((ji25) : Int).toNat a1.size).size ≤ 9223372036854775807) = true := decide_eq_true c28
             try have c28b2 : (9223372036854775807 < ((a1.extract 0 (t273 : Int).toNat) ++ t276).size + (a1.extract ((ji25) : Int).toNat a1.size).size) = False := eq_false (Nat.not_lt.2 c28)
             try have c28b8 : (9223372036854775807 < t273.toNat + t276.size + (a1.size - ji25.toNat)) = False := eq_false (by have h_ := c28; simp only [ByteArray.size_append, ByteArray.size_extract, decide_eq_true_eq, decide_eq_false_iff_not] at *; omega)
             try (have c28b9 := c28b2; simp only [ByteArray.size_append] at c28b9)
             simp only [Option.some.injEq, Prod.mk.injEq] at H
             obtain ⟨rfl, rfl, rfl⟩ := H
             try go_wp2_with (first | ((with_reducible refine gate_callee (f := 63) rfl ?_); refine goesL_ (some 32) rfl rfl Try.func63 B6x4_ rfl #[.pointer (some ⟨g, 0, none⟩), .int .i64 (a1.size : Int)] rfl B6x0_ ?_; (with_reducible refine (spec_l01Below.calls g s0_0 t265 t266 (a1.size : Int) t273 t274 t275 w0 _ ?side1 ?side2 A20.out).mono ?_); (case side1 => repeat (first | (with_reducible first | exact HI0.out | apply IsS131.alloc | apply IsS131.drewN | apply IsS131.drew | apply IsS131.set_1 | apply IsS131.set_2) | exact HI0.out)); (case side2 => repeat (first | (with_reducible first | exact HB.out | apply below_alloc | apply pw_below_drewN | apply below_drew1 | refine below_set ?_ (IsS131.ge HI0.out)) | exact HB.out)); rintro e w29 ⟨rfl, hi, hb, hk⟩; refine ⟨_, rfl, ?_⟩; have n0_ := Aside0.mk (KeepBut.trans B6x3_ hk (.inl rfl)); have n1_ := Aside0.mk (hb); have n2_ := Aside0.mk (hi); clear HK; clear HB; clear HI0; have HK := n0_; have HB := n1_; have HI0 := n2_; clear n0_ n1_ n2_; (try clear hb); (try clear hb2); (try clear hk); (try clear hi)))
             have n0_ := Aside0.mk (IsS131.drew HI0.out)
             have n1_ := Aside0.mk (keep_drew HK.out)
             have n2_ := Aside0.mk (below_drew1 HB.out)
             clear HI0
             clear HK
             clear HB
             have HI0 := n0_
             have HK := n1_
             have HB := n2_
             clear n0_ n1_ n2_
             refine start_ (n := 12) (S := fun w' => True) (ds := []) #[false, false, false, false, false, false, false, false, false, false, false, false] B6x4_ rfl rfl trivial (fun hHeld => ?_); refine with_tabW spec_l02Spoilt.tab10 spec_l02Spoilt.bits10 (fun HT_ HW_ => ?_)
             generalize w29.drew = w30 at HI0 HK HB hHeld ⊢
             refine pu_ 0 33 HT_ ?_
             refine pu_ 1 34 HT_ ?_
             refine pu_ 2 35 HT_ ?_
             refine pu_ 3 36 HT_ ?_
             refine pu_ 6 39 HT_ ?_
             refine pu_ 7 40 HT_ ?_
             refine pu_ 8 41 HT_ ?_
             refine pu_ 9 42 HT_ ?_
             refine one_ (i := 4) (N := some 37) #[true, true, true, true, true, false, true, true, true, true, false, false] rfl rfl (one_of HT_.out B6x4_) (by decide) (fun K hK => ?_)
             refine goes_ Try.func114 B6x4_ rfl #[.pointer (some ⟨g, 0, none⟩), .int .i64 1] (by rfl) rfl rfl B6x0_ ?_
             with_reducible refine (spec_l01Text.calls kj14 g s0_0 t274 t275 1 t276 t277 t278 w0 _ ?side1 ?side2 A23.out).mono ?_
             (case side1 => repeat (first | (with_reducible first | exact HI0.out | apply IsS131.alloc | apply IsS131.drewN | apply IsS131.drew | apply IsS131.set_1 | apply IsS131.set_2) | exact HI0.out))
             (case side2 => repeat (first | (with_reducible first | exact HB.out | apply below_alloc | apply pw_below_drewN | apply below_drew1 | refine below_set ?_ (IsS131.ge HI0.out)) | exact HB.out))
             rintro e w31 ⟨rfl, hi, hb, hk⟩
             refine ⟨_, rfl, ?_⟩
             have n0_ := Aside0.mk (KeepBut.trans B6x3_ hk (.inl rfl))
             have n1_ := Aside0.mk (hb)
             have n2_ := Aside0.mk (hi)
             clear HK
             clear HB
             clear HI0
             have HK := n0_
             have HB := n1_
             have HI0 := n2_
             clear n0_ n1_ n2_
             (try clear hb)
             (try clear hb2)
             (try clear hk)
             (try clear hi)
             refine hK.out _ _ trivial (fun hHeld => ?_)
             clear hK K
             refine norm_ (a' := ?_) ?_ ?_
             rotate_left
             ·show Act.put _ (some 37) _ = _
              simp only [Act.put, List.setIfInBounds_toArray, List.set_cons_zero, List.set_cons_succ, i64_w, i32_w]
              rfl
             refine pu_ 5 38 HT_ ?_
             refine pu_ 10 43 HT_ ?_
             refine pu_ 11 4 HT_ ?_
             refine done_ (done_of HT_.out B6x4_) ?_
             try go_wp2
             go_ret
             exact ⟨by first | rfl | (simp [errW_none, errW_some] <;> rfl) | (simp only [← hji25]; first | rfl | (simp [errW_none, errW_some] <;> rfl)) | (simp [*, errW_none, errW_some] <;> rfl), by repeat (first | (with_reducible first | exact HI0.out | apply IsS131.alloc | apply IsS131.drewN | apply IsS131.drew | apply IsS131.set_1 | apply IsS131.set_2) | exact HI0.out), by repeat (first | (with_reducible first | exact HB.out | apply below_alloc | apply pw_below_drewN | apply below_drew1 | refine below_set ?_ (IsS131.ge HI0.out)) | exact HB.out), by repeat (first | (with_reducible first | exact HK.out | apply KeepBut.set_ | apply keep_drewN | apply keep_drew | apply keep_alloc) | exact HK.out)⟩
            ·rw [if_neg c28] at H
             exact absurd H (by simp)
           ·rw [if_neg c27] at H
            exact absurd H (by simp)
          ·rw [if_neg c26] at H
           exact absurd H (by simp)
         ·rw [if_neg c24] at H
          exact absurd H (by simp)
        ·rw [if_neg c22] at H
         exact absurd H (by simp)
       ·rw [if_neg c21] at H
        exact absurd H (by simp)
      ·rw [if_neg c19] at H
       have c19b0 : decide (0 < (a1.size : Int)) = false := decide_eq_false c19
       have c19b1 : decide (0 < a1.size) = false := decide_eq_false (by omega)
       clear c19
       simp only [Option.some.injEq, Prod.mk.injEq] at H
       obtain ⟨rfl, rfl, rfl⟩ := H
       go_wp2
       go_ret
       exact ⟨by first | rfl | (simp [errW_none, errW_some] <;> rfl) | (simp [*, errW_none, errW_some] <;> rfl), by repeat (first | (with_reducible first | exact HI0.out | apply IsS131.alloc | apply IsS131.drewN | apply IsS131.drew | apply IsS131.set_1 | apply IsS131.set_2) | exact HI0.out), by repeat (first | (with_reducible first | exact HB.out | apply below_alloc | apply pw_below_drewN | apply below_drew1 | refine below_set ?_ (IsS131.ge HI0.out)) | exact HB.out), by repeat (first | (with_reducible first | exact HK.out | apply KeepBut.set_ | apply keep_drewN | apply keep_drew | apply keep_alloc) | exact HK.out)⟩
     ·replace c18 := Bool.eq_false_iff.mpr c18
      subst c18
      rw [if_neg (show ¬ (false = true) by decide)] at H
      simp only [Option.some.injEq, Prod.mk.injEq] at H
      obtain ⟨rfl, rfl, rfl⟩ := H
      go_wp2
      go_ret
      exact ⟨by first | rfl | (simp [errW_none, errW_some] <;> rfl) | (simp [*, errW_none, errW_some] <;> rfl), by repeat (first | (with_reducible first | exact HI0.out | apply IsS131.alloc | apply IsS131.drewN | apply IsS131.drew | apply IsS131.set_1 | apply IsS131.set_2) | exact HI0.out), by repeat (first | (with_reducible first | exact HB.out | apply below_alloc | apply pw_below_drewN | apply below_drew1 | refine below_set ?_ (IsS131.ge HI0.out)) | exact HB.out), by repeat (first | (with_reducible first | exact HK.out | apply KeepBut.set_ | apply keep_drewN | apply keep_drew | apply keep_alloc) | exact HK.out)⟩

/-! ### spec_DrawReadCell: function 49 -/
def spec_DrawReadCell.f (k : Nat) (l0 : List Int) : Option (ByteArray) := (spec_l01New.f k l0).bind fun bt279 => ((spec_l10Cell.f k bt279.1 bt279.2.1 bt279.2.2).bind fun bt283 => ((spec_CellText.f k bt283.1 bt283.2.1 bt283.2.2.1 bt283.2.2.2.1).bind fun bt289 => ((spec_l01Once.f bt279.1 bt283.2.2.2.2.1 bt283.2.2.2.2.2 3).bind fun bt291 => (if bt291.1 = true then ((spec_Unsealed.f k bt289.1).bind fun bt294 => (if bt294.2 = true then ((spec_l02Spoilt.f k bt279.1 bt291.2.1 bt291.2.2 bt294.1).bind fun bt296 => ((spec_Sealed.f k bt296.1).bind fun bt299 => (some bt299.1))) else (some bt289.1))) else ((spec_l02Spoilt.f k bt279.1 bt291.2.1 bt291.2.2 bt289.1).bind fun bt301 => (some bt301.1))))))
theorem spec_DrawReadCell.mono : ∀ a0 k, LeO (spec_DrawReadCell.f k a0) (spec_DrawReadCell.f (k + 1) a0) := by
 intro a0 k
 unfold spec_DrawReadCell.f
 repeat' first
   | (with_reducible exact spec_CellText.mono _ _ _ _ _)
   | (with_reducible exact spec_Sealed.mono _ _)
   | (with_reducible exact spec_Unsealed.mono _ _)
   | (with_reducible exact spec_l01New.mono _ _)
   | (with_reducible exact spec_l02Spoilt.mono _ _ _ _ _)
   | (with_reducible exact spec_l10Cell.mono _ _ _ _)
   | (with_reducible exact LeO.refl _)
   | (with_reducible exact LeO.none _)
   | (with_reducible refine LeO.ite ?_ ?_)
   | (with_reducible refine LeO.bind ?_ (fun _ => ?_))
   | exact spec_CellText.mono _ _ _ _ _
   | exact spec_Sealed.mono _ _
   | exact spec_Unsealed.mono _ _
   | exact spec_l01New.mono _ _
   | exact spec_l02Spoilt.mono _ _ _ _ _
   | exact spec_l10Cell.mono _ _ _ _
   | exact LeO.none _
   | refine LeO.ite ?_ ?_
   | refine LeO.bind ?_ (fun _ => ?_)
set_option maxHeartbeats 8000000 in
set_option maxRecDepth 100000 in
theorem spec_DrawReadCell.calls (k : Nat) (A0 : Option Addr) (c0 : Nat) (l0 : List Int) (r : ByteArray) (w : World) (hr0 : Kd.C (Kd.int .u8) w A0 l0.length l0) (hc0 : l0.length ≤ c0) (h : spec_DrawReadCell.f k l0 = some r) :
  Calls Try.prog 49 #[.slice A0 l0.length c0] w fun e w' => e = .returned (.string r) ∧ Below w.heap.size w w' := by
 have HR0 := Aside0.mk hr0
 have HC0 := Aside0.mk hc0
 clear hr0 hc0
 have HB := Aside0.mk (Below.refl w.heap.size w)
 have H : ((spec_l01New.f k l0).bind fun bt279 => ((spec_l10Cell.f k bt279.1 bt279.2.1 bt279.2.2).bind fun bt283 => ((spec_CellText.f k bt283.1 bt283.2.1 bt283.2.2.1 bt283.2.2.2.1).bind fun bt289 => ((spec_l01Once.f bt279.1 bt283.2.2.2.2.1 bt283.2.2.2.2.2 3).bind fun bt291 => (if bt291.1 = true then ((spec_Unsealed.f k bt289.1).bind fun bt294 => (if bt294.2 = true then ((spec_l02Spoilt.f k bt279.1 bt291.2.1 bt291.2.2 bt294.1).bind fun bt296 => ((spec_Sealed.f k bt296.1).bind fun bt299 => (some bt299.1))) else (some bt289.1))) else ((spec_l02Spoilt.f k bt279.1 bt291.2.1 bt291.2.2 bt289.1).bind fun bt301 => (some bt301.1))))))) = some r := h
 clear h
 replace H := Option.bind_eq_some_iff.mp H
 obtain ⟨⟨t279, t280, t281⟩, A20, H⟩ := H
 (try dsimp only at H)
 have A2 := Aside0.mk A20
 clear A20
 replace H := Option.bind_eq_some_iff.mp H
 obtain ⟨⟨t283, t284, t285, t286, t287, t288⟩, A30, H⟩ := H
 (try dsimp only at H)
 have A3 := Aside0.mk A30
 clear A30
 replace H := Option.bind_eq_some_iff.mp H
 obtain ⟨⟨t289, t290⟩, A40, H⟩ := H
 (try dsimp only at H)
 have A4 := Aside0.mk A40
 clear A40
 replace H := Option.bind_eq_some_iff.mp H
 obtain ⟨⟨t291, t292, t293⟩, A50, H⟩ := H
 (try dsimp only at H)
 have A5 := Aside0.mk A50
 clear A50
 by_cases c6 : t291 = true
 ·subst c6
  rw [if_pos rfl] at H
  replace H := Option.bind_eq_some_iff.mp H
  obtain ⟨⟨t294, t295⟩, A70, H⟩ := H
  (try dsimp only at H)
  have A7 := Aside0.mk A70
  clear A70
  by_cases c8 : t295 = true
  ·subst c8
   rw [if_pos rfl] at H
   replace H := Option.bind_eq_some_iff.mp H
   obtain ⟨⟨t296, t297, t298⟩, A90, H⟩ := H
   (try dsimp only at H)
   have A9 := Aside0.mk A90
   clear A90
   replace H := Option.bind_eq_some_iff.mp H
   obtain ⟨⟨t299, t300⟩, A100, H⟩ := H
   (try dsimp only at H)
   have A10 := Aside0.mk A100
   clear A100
   obtain rfl := Option.some.inj H
   go_enter Try.func49, Try.ntmps49
   go_wp2_with (first | ((with_reducible refine gate_callee (f := 62) rfl ?_); refine goesL_ (some 9) rfl rfl Try.func62 B6x4_ rfl #[.slice A0 l0.length c0] rfl B6x0_ ?_; (with_reducible refine (spec_l01New.calls k _ _ l0 t279 t280 t281 w _ ?side1 ?side2 ?side3 A2.out).mono ?_); (case side1 => repeat (first | (with_reducible first | exact HB.out | apply below_alloc | apply pw_below_drewN | apply below_drew1) | exact HB.out)); (case side2 => exact HR0.out); (case side3 => exact HC0.out); rintro e w11 ⟨g282, rfl, hi, hb, hb2⟩; refine ⟨_, rfl, ?_⟩; have n0_ := Aside0.mk (hb); have n1_ := Aside0.mk (hi); clear HB; have HB := n0_; have HI282 := n1_; clear n0_ n1_; (try clear hb); (try clear hb2); (try clear hk); (try clear hi)) | ((with_reducible refine gate_callee (f := 87) rfl ?_); refine goesL_ (some 12) rfl rfl Try.func87 B6x4_ rfl #[.pointer (some ⟨g282, 0, none⟩)] rfl B6x0_ ?_; (with_reducible refine (spec_l10Cell.calls k g282 t279 t280 t281 t283 t284 t285 t286 t287 t288 w _ ?side1 ?side2 A3.out).mono ?_); (case side1 => repeat (first | (with_reducible first | exact HI282.out | apply IsS131.alloc | apply IsS131.drewN | apply IsS131.drew | apply IsS131.set_1 | apply IsS131.set_2) | exact HI282.out)); (case side2 => repeat (first | (with_reducible first | exact HB.out | apply below_alloc | apply pw_below_drewN | apply below_drew1 | refine below_set ?_ (IsS131.ge HI282.out)) | exact HB.out)); rintro e w12 ⟨rfl, hi, hb, hk⟩; refine ⟨_, rfl, ?_⟩; have n0_ := Aside0.mk (hb); have n1_ := Aside0.mk (hi); clear HB; clear HI282; have HB := n0_; have HI282 := n1_; clear n0_ n1_; (try clear hb); (try clear hb2); (try clear hk); (try clear hi)) | ((with_reducible refine gate_callee (f := 92) rfl ?_); refine goesL_ (some 13) rfl rfl Try.func92 B6x4_ rfl #[.agg #[.int .i64 t283, .int .i64 t284, .int .i64 t285, .string t286]] rfl B6x0_ ?_; (with_reducible refine (spec_CellText.calls k t283 t284 t285 t286 t289 t290 _ A4.out).mono ?_); rintro e w13 ⟨rfl, hb⟩; refine ⟨_, rfl, ?_⟩; have n0_ := Aside0.mk (IsS131.below B6x1_ hb); have n1_ := Aside0.mk (below_step B6x2_ hb); clear HI282; clear HB; have HI282 := n0_; have HB := n1_; clear n0_ n1_; (try clear hb); (try clear hb2); (try clear hk); (try clear hi)) | ((with_reducible refine gate_callee (f := 64) rfl ?_); refine goesL_ (some 17) rfl rfl Try.func64 B6x4_ rfl #[.pointer (some ⟨g282, 0, none⟩), .int .i64 3] rfl B6x0_ ?_; (with_reducible refine (spec_l01Once.calls g282 t279 t287 t288 3 true t292 t293 w _ ?side1 ?side2 A5.out).mono ?_); (case side1 => repeat (first | (with_reducible first | exact HI282.out | apply IsS131.alloc | apply IsS131.drewN | apply IsS131.drew | apply IsS131.set_1 | apply IsS131.set_2) | exact HI282.out)); (case side2 => repeat (first | (with_reducible first | exact HB.out | apply below_alloc | apply pw_below_drewN | apply below_drew1 | refine below_set ?_ (IsS131.ge HI282.out)) | exact HB.out)); rintro e w14 ⟨rfl, hi, hb, hk⟩; refine ⟨_, rfl, ?_⟩; have n0_ := Aside0.mk (hb); have n1_ := Aside0.mk (hi); clear HB; clear HI282; have HB := n0_; have HI282 := n1_; clear n0_ n1_; (try clear hb); (try clear hb2); (try clear hk); (try clear hi)) | ((with_reducible refine gate_callee (f := 93) rfl ?_); refine goesL_ (some 20) rfl rfl Try.func93 B6x4_ rfl #[.string t289] rfl B6x0_ ?_; (with_reducible refine (spec_Unsealed.calls k t289 t294 true _ A7.out).mono ?_); rintro e w15 ⟨rfl, hb⟩; refine ⟨_, rfl, ?_⟩; have n0_ := Aside0.mk (IsS131.below B6x1_ hb); have n1_ := Aside0.mk (below_step B6x2_ hb); clear HI282; clear HB; have HI282 := n0_; have HB := n1_; clear n0_ n1_; (try clear hb); (try clear hb2); (try clear hk); (try clear hi)) | ((with_reducible refine gate_callee (f := 95) rfl ?_); refine goesL_ (some 27) rfl rfl Try.func95 B6x4_ rfl #[.pointer (some ⟨g282, 0, none⟩), .string t294] rfl B6x0_ ?_; (with_reducible refine (spec_l02Spoilt.calls k g282 t279 t292 t293 t294 t296 t297 t298 w _ ?side1 ?side2 A9.out).mono ?_); (case side1 => repeat (first | (with_reducible first | exact HI282.out | apply IsS131.alloc | apply IsS131.drewN | apply IsS131.drew | apply IsS131.set_1 | apply IsS131.set_2) | exact HI282.out)); (case side2 => repeat (first | (with_reducible first | exact HB.out | apply below_alloc | apply pw_below_drewN | apply below_drew1 | refine below_set ?_ (IsS131.ge HI282.out)) | exact HB.out)); rintro e w16 ⟨rfl, hi, hb, hk⟩; refine ⟨_, rfl, ?_⟩; have n0_ := Aside0.mk (hb); have n1_ := Aside0.mk (hi); clear HB; clear HI282; have HB := n0_; have HI282 := n1_; clear n0_ n1_; (try clear hb); (try clear hb2); (try clear hk); (try clear hi)) | ((with_reducible refine gate_callee (f := 94) rfl ?_); refine goesL_ (some 28) rfl rfl Try.func94 B6x4_ rfl #[.string t296] rfl B6x0_ ?_; (with_reducible refine (spec_Sealed.calls k t296 t299 t300 _ A10.out).mono ?_); rintro e w17 ⟨rfl, hb⟩; refine ⟨_, rfl, ?_⟩; have n0_ := Aside0.mk (IsS131.below B6x1_ hb); have n1_ := Aside0.mk (below_step B6x2_ hb); clear HI282; clear HB; have HI282 := n0_; have HB := n1_; clear n0_ n1_; (try clear hb); (try clear hb2); (try clear hk); (try clear hi)))
   go_ret
   exact ⟨by first | rfl | (simp [errW_none, errW_some] <;> rfl) | (simp [*, errW_none, errW_some] <;> rfl), by repeat (first | (with_reducible first | exact HB.out | apply below_alloc | apply pw_below_drewN | apply below_drew1 | refine below_set ?_ (IsS131.ge HI282.out)) | exact HB.out)⟩
  ·replace c8 := Bool.eq_false_iff.mpr c8
   subst c8
   rw [if_neg (show ¬ (false = true) by decide)] at H
   obtain rfl := Option.some.inj H
   go_enter Try.func49, Try.ntmps49
   go_wp2_with (first | ((with_reducible refine gate_callee (f := 62) rfl ?_); refine goesL_ (some 9) rfl rfl Try.func62 B6x4_ rfl #[.slice A0 l0.length c0] rfl B6x0_ ?_; (with_reducible refine (spec_l01New.calls k _ _ l0 t279 t280 t281 w _ ?side1 ?side2 ?side3 A2.out).mono ?_); (case side1 => repeat (first | (with_reducible first | exact HB.out | apply below_alloc | apply pw_below_drewN | apply below_drew1) | exact HB.out)); (case side2 => exact HR0.out); (case side3 => exact HC0.out); rintro e w18 ⟨g282, rfl, hi, hb, hb2⟩; refine ⟨_, rfl, ?_⟩; have n0_ := Aside0.mk (hb); have n1_ := Aside0.mk (hi); clear HB; have HB := n0_; have HI282 := n1_; clear n0_ n1_; (try clear hb); (try clear hb2); (try clear hk); (try clear hi)) | ((with_reducible refine gate_callee (f := 87) rfl ?_); refine goesL_ (some 12) rfl rfl Try.func87 B6x4_ rfl #[.pointer (some ⟨g282, 0, none⟩)] rfl B6x0_ ?_; (with_reducible refine (spec_l10Cell.calls k g282 t279 t280 t281 t283 t284 t285 t286 t287 t288 w _ ?side1 ?side2 A3.out).mono ?_); (case side1 => repeat (first | (with_reducible first | exact HI282.out | apply IsS131.alloc | apply IsS131.drewN | apply IsS131.drew | apply IsS131.set_1 | apply IsS131.set_2) | exact HI282.out)); (case side2 => repeat (first | (with_reducible first | exact HB.out | apply below_alloc | apply pw_below_drewN | apply below_drew1 | refine below_set ?_ (IsS131.ge HI282.out)) | exact HB.out)); rintro e w19 ⟨rfl, hi, hb, hk⟩; refine ⟨_, rfl, ?_⟩; have n0_ := Aside0.mk (hb); have n1_ := Aside0.mk (hi); clear HB; clear HI282; have HB := n0_; have HI282 := n1_; clear n0_ n1_; (try clear hb); (try clear hb2); (try clear hk); (try clear hi)) | ((with_reducible refine gate_callee (f := 92) rfl ?_); refine goesL_ (some 13) rfl rfl Try.func92 B6x4_ rfl #[.agg #[.int .i64 t283, .int .i64 t284, .int .i64 t285, .string t286]] rfl B6x0_ ?_; (with_reducible refine (spec_CellText.calls k t283 t284 t285 t286 t289 t290 _ A4.out).mono ?_); rintro e w20 ⟨rfl, hb⟩; refine ⟨_, rfl, ?_⟩; have n0_ := Aside0.mk (IsS131.below B6x1_ hb); have n1_ := Aside0.mk (below_step B6x2_ hb); clear HI282; clear HB; have HI282 := n0_; have HB := n1_; clear n0_ n1_; (try clear hb); (try clear hb2); (try clear hk); (try clear hi)) | ((with_reducible refine gate_callee (f := 64) rfl ?_); refine goesL_ (some 17) rfl rfl Try.func64 B6x4_ rfl #[.pointer (some ⟨g282, 0, none⟩), .int .i64 3] rfl B6x0_ ?_; (with_reducible refine (spec_l01Once.calls g282 t279 t287 t288 3 true t292 t293 w _ ?side1 ?side2 A5.out).mono ?_); (case side1 => repeat (first | (with_reducible first | exact HI282.out | apply IsS131.alloc | apply IsS131.drewN | apply IsS131.drew | apply IsS131.set_1 | apply IsS131.set_2) | exact HI282.out)); (case side2 => repeat (first | (with_reducible first | exact HB.out | apply below_alloc | apply pw_below_drewN | apply below_drew1 | refine below_set ?_ (IsS131.ge HI282.out)) | exact HB.out)); rintro e w21 ⟨rfl, hi, hb, hk⟩; refine ⟨_, rfl, ?_⟩; have n0_ := Aside0.mk (hb); have n1_ := Aside0.mk (hi); clear HB; clear HI282; have HB := n0_; have HI282 := n1_; clear n0_ n1_; (try clear hb); (try clear hb2); (try clear hk); (try clear hi)) | ((with_reducible refine gate_callee (f := 93) rfl ?_); refine goesL_ (some 20) rfl rfl Try.func93 B6x4_ rfl #[.string t289] rfl B6x0_ ?_; (with_reducible refine (spec_Unsealed.calls k t289 t294 false _ A7.out).mono ?_); rintro e w22 ⟨rfl, hb⟩; refine ⟨_, rfl, ?_⟩; have n0_ := Aside0.mk (IsS131.below B6x1_ hb); have n1_ := Aside0.mk (below_step B6x2_ hb); clear HI282; clear HB; have HI282 := n0_; have HB := n1_; clear n0_ n1_; (try clear hb); (try clear hb2); (try clear hk); (try clear hi)))
   go_ret
   exact ⟨by first | rfl | (simp [errW_none, errW_some] <;> rfl) | (simp [*, errW_none, errW_some] <;> rfl), by repeat (first | (with_reducible first | exact HB.out | apply below_alloc | apply pw_below_drewN | apply below_drew1 | refine below_set ?_ (IsS131.ge HI282.out)) | exact HB.out)⟩
 ·replace c6 := Bool.eq_false_iff.mpr c6
  subst c6
  rw [if_neg (show ¬ (false = true) by decide)] at H
  replace H := Option.bind_eq_some_iff.mp H
  obtain ⟨⟨t301, t302, t303⟩, A230, H⟩ := H
  (try dsimp only at H)
  have A23 := Aside0.mk A230
  clear A230
  obtain rfl := Option.some.inj H
  go_enter Try.func49, Try.ntmps49
  go_wp2_with (first | ((with_reducible refine gate_callee (f := 62) rfl ?_); refine goesL_ (some 9) rfl rfl Try.func62 B6x4_ rfl #[.slice A0 l0.length c0] rfl B6x0_ ?_; (with_reducible refine (spec_l01New.calls k _ _ l0 t279 t280 t281 w _ ?side1 ?side2 ?side3 A2.out).mono ?_); (case side1 => repeat (first | (with_reducible first | exact HB.out | apply below_alloc | apply pw_below_drewN | apply below_drew1) | exact HB.out)); (case side2 => exact HR0.out); (case side3 => exact HC0.out); rintro e w24 ⟨g282, rfl, hi, hb, hb2⟩; refine ⟨_, rfl, ?_⟩; have n0_ := Aside0.mk (hb); have n1_ := Aside0.mk (hi); clear HB; have HB := n0_; have HI282 := n1_; clear n0_ n1_; (try clear hb); (try clear hb2); (try clear hk); (try clear hi)) | ((with_reducible refine gate_callee (f := 87) rfl ?_); refine goesL_ (some 12) rfl rfl Try.func87 B6x4_ rfl #[.pointer (some ⟨g282, 0, none⟩)] rfl B6x0_ ?_; (with_reducible refine (spec_l10Cell.calls k g282 t279 t280 t281 t283 t284 t285 t286 t287 t288 w _ ?side1 ?side2 A3.out).mono ?_); (case side1 => repeat (first | (with_reducible first | exact HI282.out | apply IsS131.alloc | apply IsS131.drewN | apply IsS131.drew | apply IsS131.set_1 | apply IsS131.set_2) | exact HI282.out)); (case side2 => repeat (first | (with_reducible first | exact HB.out | apply below_alloc | apply pw_below_drewN | apply below_drew1 | refine below_set ?_ (IsS131.ge HI282.out)) | exact HB.out)); rintro e w25 ⟨rfl, hi, hb, hk⟩; refine ⟨_, rfl, ?_⟩; have n0_ := Aside0.mk (hb); have n1_ := Aside0.mk (hi); clear HB; clear HI282; have HB := n0_; have HI282 := n1_; clear n0_ n1_; (try clear hb); (try clear hb2); (try clear hk); (try clear hi)) | ((with_reducible refine gate_callee (f := 92) rfl ?_); refine goesL_ (some 13) rfl rfl Try.func92 B6x4_ rfl #[.agg #[.int .i64 t283, .int .i64 t284, .int .i64 t285, .string t286]] rfl B6x0_ ?_; (with_reducible refine (spec_CellText.calls k t283 t284 t285 t286 t289 t290 _ A4.out).mono ?_); rintro e w26 ⟨rfl, hb⟩; refine ⟨_, rfl, ?_⟩; have n0_ := Aside0.mk (IsS131.below B6x1_ hb); have n1_ := Aside0.mk (below_step B6x2_ hb); clear HI282; clear HB; have HI282 := n0_; have HB := n1_; clear n0_ n1_; (try clear hb); (try clear hb2); (try clear hk); (try clear hi)) | ((with_reducible refine gate_callee (f := 64) rfl ?_); refine goesL_ (some 17) rfl rfl Try.func64 B6x4_ rfl #[.pointer (some ⟨g282, 0, none⟩), .int .i64 3] rfl B6x0_ ?_; (with_reducible refine (spec_l01Once.calls g282 t279 t287 t288 3 false t292 t293 w _ ?side1 ?side2 A5.out).mono ?_); (case side1 => repeat (first | (with_reducible first | exact HI282.out | apply IsS131.alloc | apply IsS131.drewN | apply IsS131.drew | apply IsS131.set_1 | apply IsS131.set_2) | exact HI282.out)); (case side2 => repeat (first | (with_reducible first | exact HB.out | apply below_alloc | apply pw_below_drewN | apply below_drew1 | refine below_set ?_ (IsS131.ge HI282.out)) | exact HB.out)); rintro e w27 ⟨rfl, hi, hb, hk⟩; refine ⟨_, rfl, ?_⟩; have n0_ := Aside0.mk (hb); have n1_ := Aside0.mk (hi); clear HB; clear HI282; have HB := n0_; have HI282 := n1_; clear n0_ n1_; (try clear hb); (try clear hb2); (try clear hk); (try clear hi)) | ((with_reducible refine gate_callee (f := 95) rfl ?_); refine goesL_ (some 34) rfl rfl Try.func95 B6x4_ rfl #[.pointer (some ⟨g282, 0, none⟩), .string t289] rfl B6x0_ ?_; (with_reducible refine (spec_l02Spoilt.calls k g282 t279 t292 t293 t289 t301 t302 t303 w _ ?side1 ?side2 A23.out).mono ?_); (case side1 => repeat (first | (with_reducible first | exact HI282.out | apply IsS131.alloc | apply IsS131.drewN | apply IsS131.drew | apply IsS131.set_1 | apply IsS131.set_2) | exact HI282.out)); (case side2 => repeat (first | (with_reducible first | exact HB.out | apply below_alloc | apply pw_below_drewN | apply below_drew1 | refine below_set ?_ (IsS131.ge HI282.out)) | exact HB.out)); rintro e w28 ⟨rfl, hi, hb, hk⟩; refine ⟨_, rfl, ?_⟩; have n0_ := Aside0.mk (hb); have n1_ := Aside0.mk (hi); clear HB; clear HI282; have HB := n0_; have HI282 := n1_; clear n0_ n1_; (try clear hb); (try clear hb2); (try clear hk); (try clear hi)))
  go_ret
  exact ⟨by first | rfl | (simp [errW_none, errW_some] <;> rfl) | (simp [*, errW_none, errW_some] <;> rfl), by repeat (first | (with_reducible first | exact HB.out | apply below_alloc | apply pw_below_drewN | apply below_drew1 | refine below_set ?_ (IsS131.ge HI282.out)) | exact HB.out)⟩

end Go.Proofs.Ytideegpoakkgeaa.QFnCells
